/- The functions that the law FnExactCrashJournal reaches: each as a plain Lean function, with the proof that the call does what it says. -/
import Derived.Test.YthmkjapmnlhflaaYFnExactCrashJournalx0
import Derived.Test.YthmkjapmnlhflaaYFnExactCrashJournalx7
namespace Go.Proofs.Ythmkjapmnlhflaa.PFnExactCrashJournal
open Go.RowKit Go.Proofs.YthmkjapmnlhflaaW.PrintWords Go.Proofs.YthmkjapmnlhflaaW.PrintLast Go.Proofs.YthmkjapmnlhflaaW.PrintMore
attribute [local go_sem] max2_int min2_int max_two min_two max_three min_three max_four min_four
set_option linter.unusedVariables false
set_option linter.unusedSimpArgs false
def impl_nextEntry.j0 : Nat → List Int → Bool → Option (Int × Int × Int × List Int × Int)
  | 0, _, _ => none
  | k + 1, x0, x25 => if x25 = true then (some (0, 0, 0, ([] : List Int), 0)) else (if 0 < (x0.length : Int) then (if 3 ≤ (wrap64 (3 + (wrap64 (rd x0 0)))) then (if (wrap64 (3 + (wrap64 (rd x0 0)))) ≤ (x0.length : Int) then (if 2 ≤ (((x0.take ((wrap64 (3 + (wrap64 (rd x0 0)))) : Int).toNat).drop 3).length : Int) then ((impl_numberOf.f k (((x0.take ((wrap64 (3 + (wrap64 (rd x0 0)))) : Int).toNat).drop 3).take 2)).bind fun t301 => (if 2 < (((x0.take ((wrap64 (3 + (wrap64 (rd x0 0)))) : Int).toNat).drop 3).length : Int) then (if 3 < (((x0.take ((wrap64 (3 + (wrap64 (rd x0 0)))) : Int).toNat).drop 3).length : Int) then (if 5 ≤ (((x0.take ((wrap64 (3 + (wrap64 (rd x0 0)))) : Int).toNat).drop 3).length : Int) then ((slices_Clone_byte_byte.f (((x0.take ((wrap64 (3 + (wrap64 (rd x0 0)))) : Int).toNat).drop 3).drop 5)).bind fun t305 => (if 1 ≤ 3 then (if 3 ≤ (x0.length : Int) then ((impl_numberOf.f k ((x0.take 3).drop 1)).bind fun t310 => ((impl_SumBytes.f k ((x0.take ((wrap64 (3 + (wrap64 (rd x0 0)))) : Int).toNat).drop 3)).bind fun t311 => (if t310 = t311 then (if 4 < (((x0.take ((wrap64 (3 + (wrap64 (rd x0 0)))) : Int).toNat).drop 3).length : Int) then (if (wrap64 (rd ((x0.take ((wrap64 (3 + (wrap64 (rd x0 0)))) : Int).toNat).drop 3) 4)) = (wrap64 ((((x0.take ((wrap64 (3 + (wrap64 (rd x0 0)))) : Int).toNat).drop 3).length : Int) - 5)) then ((impl_EntryFault.f k t301 (wrap64 (rd ((x0.take ((wrap64 (3 + (wrap64 (rd x0 0)))) : Int).toNat).drop 3) 2)) (wrap64 (rd ((x0.take ((wrap64 (3 + (wrap64 (rd x0 0)))) : Int).toNat).drop 3) 3)) t305).bind fun t313 => (if t313 = 0 then (some (t301, wrap64 (rd ((x0.take ((wrap64 (3 + (wrap64 (rd x0 0)))) : Int).toNat).drop 3) 2), wrap64 (rd ((x0.take ((wrap64 (3 + (wrap64 (rd x0 0)))) : Int).toNat).drop 3) 3), t305, wrap64 (3 + (wrap64 (rd x0 0))))) else (some (0, 0, 0, ([] : List Int), 0)))) else (some (0, 0, 0, ([] : List Int), 0))) else (none)) else (some (0, 0, 0, ([] : List Int), 0))))) else (none)) else (none))) else (none)) else (none)) else (none))) else (none)) else (none)) else (none)) else (none))
def impl_nextEntry.f (k : Nat) (l0 : List Int) : Option (Int × Int × Int × List Int × Int) := if (l0.length : Int) = 0 then (impl_nextEntry.j0 k l0 true) else (if 0 < (l0.length : Int) then (if (rd l0 0) < 5 then (impl_nextEntry.j0 k l0 true) else (impl_nextEntry.j0 k l0 (decide ((l0.length : Int) < (wrap64 (3 + (wrap64 (rd l0 0)))))))) else (none))
theorem impl_nextEntry.mono_l : ∀ k, (∀ y0 y1, LeO (impl_nextEntry.j0 k y0 y1) (impl_nextEntry.j0 (k + 1) y0 y1))
  | 0 => fun _ _ r h => by simp [impl_nextEntry.j0] at h
  | k + 1 => by
    have ih0 := impl_nextEntry.mono_l k
    · intro y0 y1
      unfold impl_nextEntry.j0
      repeat' first
      | (with_reducible exact ih0 _ _)
      | (with_reducible exact impl_EntryFault.mono _ _ _ _ _)
      | (with_reducible exact impl_SumBytes.mono _ _)
      | (with_reducible exact impl_numberOf.mono _ _)
      | (with_reducible exact LeO.refl _)
      | (with_reducible exact LeO.none _)
      | (with_reducible refine LeO.ite ?_ ?_)
      | (with_reducible refine LeO.bind ?_ (fun _ => ?_))
      | exact ih0 _ _
      | exact impl_EntryFault.mono _ _ _ _ _
      | exact impl_SumBytes.mono _ _
      | exact impl_numberOf.mono _ _
      | exact LeO.none _
      | refine LeO.ite ?_ ?_
      | refine LeO.bind ?_ (fun _ => ?_)
theorem impl_nextEntry.mono : ∀ a0 k, LeO (impl_nextEntry.f k a0) (impl_nextEntry.f (k + 1) a0) := by
  intro a0 k
  have ih0 := impl_nextEntry.mono_l k
  unfold impl_nextEntry.f
  repeat' first
      | (with_reducible exact ih0 _ _)
      | (with_reducible exact impl_EntryFault.mono _ _ _ _ _)
      | (with_reducible exact impl_SumBytes.mono _ _)
      | (with_reducible exact impl_numberOf.mono _ _)
      | (with_reducible exact LeO.refl _)
      | (with_reducible exact LeO.none _)
      | (with_reducible refine LeO.ite ?_ ?_)
      | (with_reducible refine LeO.bind ?_ (fun _ => ?_))
      | exact ih0 _ _
      | exact impl_EntryFault.mono _ _ _ _ _
      | exact impl_SumBytes.mono _ _
      | exact impl_numberOf.mono _ _
      | exact LeO.none _
      | refine LeO.ite ?_ ?_
      | refine LeO.bind ?_ (fun _ => ?_)
def impl_nextEntry.T5 : Bool × List (List Nat × List Nat) := (true, [([], []), ([0], [0]), ([1], [1]), ([], []), ([3], [3]), ([4], [4]), ([5], [5]), ([], []), ([7], [7]), ([8], [8]), ([9], [9]), ([], []), ([11], [11]), ([12, 2], [12]), ([6, 10, 13], [6, 10, 13]), ([2, 14], [2, 14]), ([], []), ([16, 15, 13, 0, 1, 2, 3, 4, 5, 6, 7, 8, 9, 10, 11, 12, 13, 14, 15, 16], [15, 16])])
def impl_nextEntry.B5 : List Nat := [0, 1, 3, 0, 8, 24, 56, 0, 128, 384, 896, 0, 2048, 6151, 16383, 32767, 0, 131071]
theorem impl_nextEntry.tab5 : rtab .any (opsOf Try.f135 5) = impl_nextEntry.T5 := by kernel_rfl
theorem impl_nextEntry.bits5 : waitsOk impl_nextEntry.T5.2 impl_nextEntry.B5 = true := by kernel_rfl
set_option maxHeartbeats 8000000 in
set_option maxRecDepth 100000 in
theorem impl_nextEntry.calls (k : Nat) (A0 : Option Addr) (c0 : Nat) (l0 : List Int) (r1 : Int) (r2 : Int) (r3 : Int) (r4 : List Int) (r5 : Int) (w : World) (hr0 : Kd.C (Kd.int .u8) w A0 l0.length l0) (hc0 : l0.length ≤ c0) (h : impl_nextEntry.f k l0 = some (r1, r2, r3, r4, r5)) :
  Calls Try.prog 135 #[.slice A0 l0.length c0] w fun e w' => ∃ v3_ : Value, e = .returned (.tuple #[.agg #[.int .i64 r1, .int .i64 r2, .int .i64 r3, v3_], .int .i64 r5]) ∧ Kd.R (Kd.int .u8) 5 w' w.heap.size (fun _ => True) v3_ r4 ∧ Below w.heap.size w w' := by
 have hu61 := Try.underlying61
 have hu59 := Try.underlying59
 have HR0 := Aside0.mk hr0
 have HC0 := Aside0.mk hc0
 clear hr0 hc0
 have HB := Aside0.mk (Below.refl w.heap.size w)
 have H : (if (l0.length : Int) = 0 then (impl_nextEntry.j0 k l0 true) else (if 0 < (l0.length : Int) then (if (rd l0 0) < 5 then (impl_nextEntry.j0 k l0 true) else (impl_nextEntry.j0 k l0 (decide ((l0.length : Int) < (wrap64 (3 + (wrap64 (rd l0 0)))))))) else (none))) = some (r1, r2, r3, r4, r5) := h
 clear h
 have HC2 := Aside0.mk H
 clear H
 go_enter Try.func135, Try.ntmps135
 go_upto_region 1 with (first | ((with_reducible refine gate_dst (N := 2) rfl ?_); (try (refine gate_guard (by rfl) ?_; dsimp only)); refine box_e_ 2 #[.int .i64 0, .int .i64 0, .int .i64 0, .slice none 0 0] 61 ?_; intro gb295 hg w3 hbox hb; have BK295 := Aside0.mk (hbox); have GW295 := (bs_ hg : Aside0 (w.heap.size ≤ _)); have GE295 := (bs_ hg : Aside0 (w.heap.size ≤ _)); replace HB := Aside0.mk (below_step bb_ hb); clear hb hbox hg))
 (try simp only [Act.put, List.setIfInBounds_toArray, List.set_cons_zero, List.set_cons_succ])
 go_cut [25] (fun v25 wc => ∃ (kq : Nat) (x25_1 : Bool), v25 = .bool x25_1 ∧ Aside0 (impl_nextEntry.j0 kq l0 x25_1 = some (r1, r2, r3, r4, r5)) ∧ Aside0 (kq ≤ k) ∧ Aside0 (wc.heap[gb295]? = some (.cells #[.int .i64 0, .int .i64 0, .int .i64 0, (.slice none 0 0)] 61 (0, 0))) ∧ Aside0 (Below w.heap.size w wc))
 case first =>
  have H := HC2.out
  clear HC2
  by_cases c4 : (l0.length : Int) = 0
  ·rw [if_pos c4] at H
   have c4b0 : ((l0.length : Int) == 0) = true := beq_iff_eq.mpr c4
   have c4b1 : ((l0.length : Int) != 0) = false := bne_eq_false_iff_eq.mpr c4
   clear c4
   (first | rw [c4b0] | (simp only [i64_w, i32_w]; rw [c4b0]) | skip)
   have H' := Aside0.mk H
   clear H
   go_wp2
   go_meet
   case rel => exact ⟨_, (true), sd_, H', ⟨ol_⟩, ⟨by (with_reducible repeat (first | refine blk_drewN ?_ _ | refine blk_drew ?_ | refine blk_alloc ?_ _)); exact BK295.out⟩, ⟨bb_⟩⟩
  ·rw [if_neg c4] at H
   have c4b0 : ((l0.length : Int) == 0) = false := beq_eq_false_iff_ne.mpr c4
   have c4b1 : ((l0.length : Int) != 0) = true := bne_iff_ne.mpr c4
   have c4b2 : ¬ (l0 = []) := fun h_ => c4 (by rw [h_]; rfl)
   (first | rw [c4b0] | (simp only [i64_w, i32_w]; rw [c4b0]) | skip)
   by_cases c5 : 0 < (l0.length : Int)
   ·rw [if_pos c5] at H
    have c5b0 : decide (0 < (l0.length : Int)) = true := decide_eq_true c5
    have c5b1 : decide (0 < l0.length) = true := decide_eq_true (by omega)
    clear c5
    by_cases c6 : (rd l0 0) < 5
    ·rw [if_pos c6] at H
     have c6b0 : decide ((rd l0 0) < 5) = true := decide_eq_true c6
     clear c6
     have H' := Aside0.mk H
     clear H
     have p296 : 0 ≤ (0 : Int) := (by omega)
     have q296 : 0 < (l0.length : Int) := of_decide_eq_true as_
     obtain ⟨ad296, e296, hx296_0⟩ := Kd.at_int HR0.out 0 p296 q296
     cases e296
     have qi296 : (0 < l0.length) = True := eq_true (by omega)
     (try rw [show ((0 : Int)).toNat = 0 from rfl] at hx296_0)
     (try rw [Addr.add_zero'] at hx296_0)
     replace hx296_0 := (HB.out.cell (World.block_lt_of_cell? w _ hx296_0)).trans hx296_0
     replace p296 := eq_true p296
     replace q296 := eq_true q296
     go_wp2
     go_meet
     case rel => exact ⟨_, (true), sd_, H', ⟨ol_⟩, ⟨by (with_reducible repeat (first | refine blk_drewN ?_ _ | refine blk_drew ?_ | refine blk_alloc ?_ _)); exact BK295.out⟩, ⟨bb_⟩⟩
    ·rw [if_neg c6] at H
     have c6b0 : decide ((rd l0 0) < 5) = false := decide_eq_false c6
     clear c6
     have H' := Aside0.mk H
     clear H
     have p296 : 0 ≤ (0 : Int) := (by omega)
     have q296 : 0 < (l0.length : Int) := of_decide_eq_true as_
     obtain ⟨ad296, e296, hx296_0⟩ := Kd.at_int HR0.out 0 p296 q296
     cases e296
     have qi296 : (0 < l0.length) = True := eq_true (by omega)
     (try rw [show ((0 : Int)).toNat = 0 from rfl] at hx296_0)
     (try rw [Addr.add_zero'] at hx296_0)
     replace hx296_0 := (HB.out.cell (World.block_lt_of_cell? w _ hx296_0)).trans hx296_0
     replace p296 := eq_true p296
     replace q296 := eq_true q296
     have p297 : 0 ≤ (0 : Int) := (by omega)
     have q297 : 0 < (l0.length : Int) := of_decide_eq_true as_
     obtain ⟨ad297, e297, hx297_0⟩ := Kd.at_int HR0.out 0 p297 q297
     obtain rfl : ad296 = ad297 := (by injection e297)
     have qi297 : (0 < l0.length) = True := eq_true (by omega)
     (try rw [show ((0 : Int)).toNat = 0 from rfl] at hx297_0)
     (try rw [Addr.add_zero'] at hx297_0)
     replace hx297_0 := (HB.out.cell (World.block_lt_of_cell? w _ hx297_0)).trans hx297_0
     replace p297 := eq_true p297
     replace q297 := eq_true q297
     go_wp2
     go_meet
     case rel => exact ⟨_, (decide ((l0.length : Int) < (wrap64 (3 + (wrap64 (rd l0 0)))))), sd_, H', ⟨ol_⟩, ⟨by (with_reducible repeat (first | refine blk_drewN ?_ _ | refine blk_drew ?_ | refine blk_alloc ?_ _)); exact BK295.out⟩, ⟨bb_⟩⟩
   ·rw [if_neg c5] at H
    exact absurd H (by simp)
 case rest =>
  clear HC2
  try clear c1
  try clear p2
  try clear q2
  try clear hx2
  try clear qi2
  try clear c4
  try clear c4b0
  try clear c4b1
  try clear c4b2
  try clear c5
  try clear c5b0
  try clear c5b1
  try clear c6
  try clear c6b0
  try clear p6
  try clear hx296_0
  try clear hx297_0
  try clear p296
  try clear p297
  try clear q296
  try clear q297
  obtain ⟨kq, x25_1, rfl, HA, HJ1, BK295, HB⟩ := hcut
  cases kq with
  | zero => exact absurd HA.out (by simp [impl_nextEntry.j0])
  | succ kj1 =>
   have H := HA.out
   clear HA
   simp only [impl_nextEntry.j0] at H
   by_cases c7 : x25_1 = true
   ·subst c7
    have H1 : (some (0, 0, 0, ([] : List Int), 0)) = some (r1, r2, r3, r4, r5) := by rw [if_pos rfl] at H; exact H
    clear H
    have H := H1
    clear H1
    simp only [Option.some.injEq, Prod.mk.injEq] at H
    obtain ⟨rfl, rfl, rfl, rfl, rfl⟩ := H
    obtain ⟨hcz8_0, hcz8_1, hcz8_2, hcz8_3, hfz8_0, hfz8_1, hfz8_2, hfz8_3⟩ := cf4_ BK295
    go_wp2
    refine bodyPost_ret (results_ct rfl _ _ gb295 61 #[.int .i64 0, .int .i64 0, .int .i64 0, .slice none 0 0] (0, 0) _ rfl (by (with_reducible repeat (first | refine blk_drewN ?_ _ | refine blk_drew ?_ | refine blk_alloc ?_ _)); refine blk_put (cs := #[.int .i64 0, .int .i64 0, .int .i64 0, .slice none 0 0]) ?_ 3 _ rfl; (with_reducible repeat (first | refine blk_drewN ?_ _ | refine blk_drew ?_ | refine blk_alloc ?_ _)); refine blk_put (cs := #[.int .i64 0, .int .i64 0, .int .i64 0, .slice none 0 0]) ?_ 2 _ rfl; (with_reducible repeat (first | refine blk_drewN ?_ _ | refine blk_drew ?_ | refine blk_alloc ?_ _)); refine blk_put (cs := #[.int .i64 0, .int .i64 0, .int .i64 0, .slice none 0 0]) ?_ 1 _ rfl; (with_reducible repeat (first | refine blk_drewN ?_ _ | refine blk_drew ?_ | refine blk_alloc ?_ _)); refine blk_put (cs := #[.int .i64 0, .int .i64 0, .int .i64 0, .slice none 0 0]) ?_ 0 _ rfl; (with_reducible repeat (first | refine blk_drewN ?_ _ | refine blk_drew ?_ | refine blk_alloc ?_ _)); exact BK295.out) Try.underlying61 rfl (by kernel_rfl)) rfl ?_
    exact ⟨_, er_, by first | exact Kd.R_nil _ _ _ _ _ | exact Kd.N_nil _ _ _ _ _ | exact Kd.V_nil _ _ _ _ _ | exact Kd.Q_nil _ _ _ _ _ | exact Kd.S_nil _ _ _ _ _, bb_⟩
   ·replace c7 := Bool.eq_false_iff.mpr c7
    subst c7
    have H1 : (if 0 < (l0.length : Int) then (if 3 ≤ (wrap64 (3 + (wrap64 (rd l0 0)))) then (if (wrap64 (3 + (wrap64 (rd l0 0)))) ≤ (l0.length : Int) then (if 2 ≤ (((l0.take ((wrap64 (3 + (wrap64 (rd l0 0)))) : Int).toNat).drop 3).length : Int) then ((impl_numberOf.f kj1 (((l0.take ((wrap64 (3 + (wrap64 (rd l0 0)))) : Int).toNat).drop 3).take 2)).bind fun t301 => (if 2 < (((l0.take ((wrap64 (3 + (wrap64 (rd l0 0)))) : Int).toNat).drop 3).length : Int) then (if 3 < (((l0.take ((wrap64 (3 + (wrap64 (rd l0 0)))) : Int).toNat).drop 3).length : Int) then (if 5 ≤ (((l0.take ((wrap64 (3 + (wrap64 (rd l0 0)))) : Int).toNat).drop 3).length : Int) then ((slices_Clone_byte_byte.f (((l0.take ((wrap64 (3 + (wrap64 (rd l0 0)))) : Int).toNat).drop 3).drop 5)).bind fun t305 => (if 1 ≤ 3 then (if 3 ≤ (l0.length : Int) then ((impl_numberOf.f kj1 ((l0.take 3).drop 1)).bind fun t310 => ((impl_SumBytes.f kj1 ((l0.take ((wrap64 (3 + (wrap64 (rd l0 0)))) : Int).toNat).drop 3)).bind fun t311 => (if t310 = t311 then (if 4 < (((l0.take ((wrap64 (3 + (wrap64 (rd l0 0)))) : Int).toNat).drop 3).length : Int) then (if (wrap64 (rd ((l0.take ((wrap64 (3 + (wrap64 (rd l0 0)))) : Int).toNat).drop 3) 4)) = (wrap64 ((((l0.take ((wrap64 (3 + (wrap64 (rd l0 0)))) : Int).toNat).drop 3).length : Int) - 5)) then ((impl_EntryFault.f kj1 t301 (wrap64 (rd ((l0.take ((wrap64 (3 + (wrap64 (rd l0 0)))) : Int).toNat).drop 3) 2)) (wrap64 (rd ((l0.take ((wrap64 (3 + (wrap64 (rd l0 0)))) : Int).toNat).drop 3) 3)) t305).bind fun t313 => (if t313 = 0 then (some (t301, wrap64 (rd ((l0.take ((wrap64 (3 + (wrap64 (rd l0 0)))) : Int).toNat).drop 3) 2), wrap64 (rd ((l0.take ((wrap64 (3 + (wrap64 (rd l0 0)))) : Int).toNat).drop 3) 3), t305, wrap64 (3 + (wrap64 (rd l0 0))))) else (some (0, 0, 0, ([] : List Int), 0)))) else (some (0, 0, 0, ([] : List Int), 0))) else (none)) else (some (0, 0, 0, ([] : List Int), 0))))) else (none)) else (none))) else (none)) else (none)) else (none))) else (none)) else (none)) else (none)) else (none)) = some (r1, r2, r3, r4, r5) := by rw [if_neg (show ¬ (false = true) by decide)] at H; exact H
    clear H
    have H := H1
    clear H1
    by_cases c9 : 0 < (l0.length : Int)
    ·rw [if_pos c9] at H
     have c9b0 : decide (0 < (l0.length : Int)) = true := decide_eq_true c9
     have c9b1 : decide (0 < l0.length) = true := decide_eq_true (by omega)
     clear c9
     by_cases c10 : 3 ≤ (wrap64 (3 + (wrap64 (rd l0 0))))
     ·rw [if_pos c10] at H
      have c10b0 := eq_true c10
      have c10b1 : decide (3 ≤ (wrap64 (3 + (wrap64 (rd l0 0))))) = true := decide_eq_true c10
      by_cases c11 : (wrap64 (3 + (wrap64 (rd l0 0)))) ≤ (l0.length : Int)
      ·rw [if_pos c11] at H
       have c11b0 := eq_true c11
       have c11b1 : decide ((wrap64 (3 + (wrap64 (rd l0 0)))) ≤ (l0.length : Int)) = true := decide_eq_true c11
       by_cases c12 : 2 ≤ (((l0.take ((wrap64 (3 + (wrap64 (rd l0 0)))) : Int).toNat).drop 3).length : Int)
       ·rw [if_pos c12] at H
        have c12b0 := eq_true c12
        have c12b1 : decide (2 ≤ (((l0.take ((wrap64 (3 + (wrap64 (rd l0 0)))) : Int).toNat).drop 3).length : Int)) = true := decide_eq_true c12
        (try (have c12b1d := c12b1; simp only [List.length_drop, List.length_take] at c12b1d))
        replace H := Option.bind_eq_some_iff.mp H
        obtain ⟨t301, A130, H⟩ := H
        replace H : (if 2 < (((l0.take ((wrap64 (3 + (wrap64 (rd l0 0)))) : Int).toNat).drop 3).length : Int) then (if 3 < (((l0.take ((wrap64 (3 + (wrap64 (rd l0 0)))) : Int).toNat).drop 3).length : Int) then (if 5 ≤ (((l0.take ((wrap64 (3 + (wrap64 (rd l0 0)))) : Int).toNat).drop 3).length : Int) then ((slices_Clone_byte_byte.f (((l0.take ((wrap64 (3 + (wrap64 (rd l0 0)))) : Int).toNat).drop 3).drop 5)).bind fun t305 => (if 1 ≤ 3 then (if 3 ≤ (l0.length : Int) then ((impl_numberOf.f kj1 ((l0.take 3).drop 1)).bind fun t310 => ((impl_SumBytes.f kj1 ((l0.take ((wrap64 (3 + (wrap64 (rd l0 0)))) : Int).toNat).drop 3)).bind fun t311 => (if t310 = t311 then (if 4 < (((l0.take ((wrap64 (3 + (wrap64 (rd l0 0)))) : Int).toNat).drop 3).length : Int) then (if (wrap64 (rd ((l0.take ((wrap64 (3 + (wrap64 (rd l0 0)))) : Int).toNat).drop 3) 4)) = (wrap64 ((((l0.take ((wrap64 (3 + (wrap64 (rd l0 0)))) : Int).toNat).drop 3).length : Int) - 5)) then ((impl_EntryFault.f kj1 t301 (wrap64 (rd ((l0.take ((wrap64 (3 + (wrap64 (rd l0 0)))) : Int).toNat).drop 3) 2)) (wrap64 (rd ((l0.take ((wrap64 (3 + (wrap64 (rd l0 0)))) : Int).toNat).drop 3) 3)) t305).bind fun t313 => (if t313 = 0 then (some (t301, wrap64 (rd ((l0.take ((wrap64 (3 + (wrap64 (rd l0 0)))) : Int).toNat).drop 3) 2), wrap64 (rd ((l0.take ((wrap64 (3 + (wrap64 (rd l0 0)))) : Int).toNat).drop 3) 3), t305, wrap64 (3 + (wrap64 (rd l0 0))))) else (some (0, 0, 0, ([] : List Int), 0)))) else (some (0, 0, 0, ([] : List Int), 0))) else (none)) else (some (0, 0, 0, ([] : List Int), 0))))) else (none)) else (none))) else (none)) else (none)) else (none)) = some (r1, r2, r3, r4, r5) := H
        have A13 := Aside0.mk A130
        clear A130
        by_cases c14 : 2 < (((l0.take ((wrap64 (3 + (wrap64 (rd l0 0)))) : Int).toNat).drop 3).length : Int)
        ·rw [if_pos c14] at H
         have c14b0 : decide (2 < (((l0.take ((wrap64 (3 + (wrap64 (rd l0 0)))) : Int).toNat).drop 3).length : Int)) = true := decide_eq_true c14
         (try (have c14b0d := c14b0; simp only [List.length_drop, List.length_take] at c14b0d))
         have c14b1 : decide (2 < ((l0.take ((wrap64 (3 + (wrap64 (rd l0 0)))) : Int).toNat).drop 3).length) = true := decide_eq_true (by omega)
         (try (have c14b1d := c14b1; simp only [List.length_drop, List.length_take] at c14b1d))
         clear c14
         by_cases c15 : 3 < (((l0.take ((wrap64 (3 + (wrap64 (rd l0 0)))) : Int).toNat).drop 3).length : Int)
         ·rw [if_pos c15] at H
          have c15b0 : decide (3 < (((l0.take ((wrap64 (3 + (wrap64 (rd l0 0)))) : Int).toNat).drop 3).length : Int)) = true := decide_eq_true c15
          (try (have c15b0d := c15b0; simp only [List.length_drop, List.length_take] at c15b0d))
          have c15b1 : decide (3 < ((l0.take ((wrap64 (3 + (wrap64 (rd l0 0)))) : Int).toNat).drop 3).length) = true := decide_eq_true (by omega)
          (try (have c15b1d := c15b1; simp only [List.length_drop, List.length_take] at c15b1d))
          clear c15
          by_cases c16 : 5 ≤ (((l0.take ((wrap64 (3 + (wrap64 (rd l0 0)))) : Int).toNat).drop 3).length : Int)
          ·rw [if_pos c16] at H
           have c16b0 := eq_true c16
           have c16b1 : decide (5 ≤ (((l0.take ((wrap64 (3 + (wrap64 (rd l0 0)))) : Int).toNat).drop 3).length : Int)) = true := decide_eq_true c16
           (try (have c16b1d := c16b1; simp only [List.length_drop, List.length_take] at c16b1d))
           replace H := Option.bind_eq_some_iff.mp H
           obtain ⟨t305, A170, H⟩ := H
           replace H : (if 1 ≤ 3 then (if 3 ≤ (l0.length : Int) then ((impl_numberOf.f kj1 ((l0.take 3).drop 1)).bind fun t310 => ((impl_SumBytes.f kj1 ((l0.take ((wrap64 (3 + (wrap64 (rd l0 0)))) : Int).toNat).drop 3)).bind fun t311 => (if t310 = t311 then (if 4 < (((l0.take ((wrap64 (3 + (wrap64 (rd l0 0)))) : Int).toNat).drop 3).length : Int) then (if (wrap64 (rd ((l0.take ((wrap64 (3 + (wrap64 (rd l0 0)))) : Int).toNat).drop 3) 4)) = (wrap64 ((((l0.take ((wrap64 (3 + (wrap64 (rd l0 0)))) : Int).toNat).drop 3).length : Int) - 5)) then ((impl_EntryFault.f kj1 t301 (wrap64 (rd ((l0.take ((wrap64 (3 + (wrap64 (rd l0 0)))) : Int).toNat).drop 3) 2)) (wrap64 (rd ((l0.take ((wrap64 (3 + (wrap64 (rd l0 0)))) : Int).toNat).drop 3) 3)) t305).bind fun t313 => (if t313 = 0 then (some (t301, wrap64 (rd ((l0.take ((wrap64 (3 + (wrap64 (rd l0 0)))) : Int).toNat).drop 3) 2), wrap64 (rd ((l0.take ((wrap64 (3 + (wrap64 (rd l0 0)))) : Int).toNat).drop 3) 3), t305, wrap64 (3 + (wrap64 (rd l0 0))))) else (some (0, 0, 0, ([] : List Int), 0)))) else (some (0, 0, 0, ([] : List Int), 0))) else (none)) else (some (0, 0, 0, ([] : List Int), 0))))) else (none)) else (none)) = some (r1, r2, r3, r4, r5) := H
           have A17 := Aside0.mk A170
           clear A170
           by_cases c18 : 1 ≤ 3
           ·rw [if_pos c18] at H
            have c18b0 := eq_true c18
            have c18b1 : decide (1 ≤ 3) = true := decide_eq_true c18
            clear c18
            by_cases c19 : 3 ≤ (l0.length : Int)
            ·rw [if_pos c19] at H
             have c19b0 := eq_true c19
             have c19b1 : decide (3 ≤ (l0.length : Int)) = true := decide_eq_true c19
             clear c19
             replace H := Option.bind_eq_some_iff.mp H
             obtain ⟨t310, A200, H⟩ := H
             replace H : ((impl_SumBytes.f kj1 ((l0.take ((wrap64 (3 + (wrap64 (rd l0 0)))) : Int).toNat).drop 3)).bind fun t311 => (if t310 = t311 then (if 4 < (((l0.take ((wrap64 (3 + (wrap64 (rd l0 0)))) : Int).toNat).drop 3).length : Int) then (if (wrap64 (rd ((l0.take ((wrap64 (3 + (wrap64 (rd l0 0)))) : Int).toNat).drop 3) 4)) = (wrap64 ((((l0.take ((wrap64 (3 + (wrap64 (rd l0 0)))) : Int).toNat).drop 3).length : Int) - 5)) then ((impl_EntryFault.f kj1 t301 (wrap64 (rd ((l0.take ((wrap64 (3 + (wrap64 (rd l0 0)))) : Int).toNat).drop 3) 2)) (wrap64 (rd ((l0.take ((wrap64 (3 + (wrap64 (rd l0 0)))) : Int).toNat).drop 3) 3)) t305).bind fun t313 => (if t313 = 0 then (some (t301, wrap64 (rd ((l0.take ((wrap64 (3 + (wrap64 (rd l0 0)))) : Int).toNat).drop 3) 2), wrap64 (rd ((l0.take ((wrap64 (3 + (wrap64 (rd l0 0)))) : Int).toNat).drop 3) 3), t305, wrap64 (3 + (wrap64 (rd l0 0))))) else (some (0, 0, 0, ([] : List Int), 0)))) else (some (0, 0, 0, ([] : List Int), 0))) else (none)) else (some (0, 0, 0, ([] : List Int), 0)))) = some (r1, r2, r3, r4, r5) := H
             have A20 := Aside0.mk A200
             clear A200
             replace H := Option.bind_eq_some_iff.mp H
             obtain ⟨t311, A210, H⟩ := H
             replace H : (if t310 = t311 then (if 4 < (((l0.take ((wrap64 (3 + (wrap64 (rd l0 0)))) : Int).toNat).drop 3).length : Int) then (if (wrap64 (rd ((l0.take ((wrap64 (3 + (wrap64 (rd l0 0)))) : Int).toNat).drop 3) 4)) = (wrap64 ((((l0.take ((wrap64 (3 + (wrap64 (rd l0 0)))) : Int).toNat).drop 3).length : Int) - 5)) then ((impl_EntryFault.f kj1 t301 (wrap64 (rd ((l0.take ((wrap64 (3 + (wrap64 (rd l0 0)))) : Int).toNat).drop 3) 2)) (wrap64 (rd ((l0.take ((wrap64 (3 + (wrap64 (rd l0 0)))) : Int).toNat).drop 3) 3)) t305).bind fun t313 => (if t313 = 0 then (some (t301, wrap64 (rd ((l0.take ((wrap64 (3 + (wrap64 (rd l0 0)))) : Int).toNat).drop 3) 2), wrap64 (rd ((l0.take ((wrap64 (3 + (wrap64 (rd l0 0)))) : Int).toNat).drop 3) 3), t305, wrap64 (3 + (wrap64 (rd l0 0))))) else (some (0, 0, 0, ([] : List Int), 0)))) else (some (0, 0, 0, ([] : List Int), 0))) else (none)) else (some (0, 0, 0, ([] : List Int), 0))) = some (r1, r2, r3, r4, r5) := H
             have A21 := Aside0.mk A210
             clear A210
             by_cases c22 : t310 = t311
             ·rw [if_pos c22] at H
              have c22b0 : (t310 == t311) = true := beq_iff_eq.mpr c22
              have c22b1 : (t310 != t311) = false := bne_eq_false_iff_eq.mpr c22
              clear c22
              by_cases c23 : 4 < (((l0.take ((wrap64 (3 + (wrap64 (rd l0 0)))) : Int).toNat).drop 3).length : Int)
              ·rw [if_pos c23] at H
               have c23b0 : decide (4 < (((l0.take ((wrap64 (3 + (wrap64 (rd l0 0)))) : Int).toNat).drop 3).length : Int)) = true := decide_eq_true c23
               (try (have c23b0d := c23b0; simp only [List.length_drop, List.length_take] at c23b0d))
               have c23b1 : decide (4 < ((l0.take ((wrap64 (3 + (wrap64 (rd l0 0)))) : Int).toNat).drop 3).length) = true := decide_eq_true (by omega)
               (try (have c23b1d := c23b1; simp only [List.length_drop, List.length_take] at c23b1d))
               clear c23
               by_cases c24 : (wrap64 (rd ((l0.take ((wrap64 (3 + (wrap64 (rd l0 0)))) : Int).toNat).drop 3) 4)) = (wrap64 ((((l0.take ((wrap64 (3 + (wrap64 (rd l0 0)))) : Int).toNat).drop 3).length : Int) - 5))
               ·rw [if_pos c24] at H
                have c24b0 : ((wrap64 (rd ((l0.take ((wrap64 (3 + (wrap64 (rd l0 0)))) : Int).toNat).drop 3) 4)) == (wrap64 ((((l0.take ((wrap64 (3 + (wrap64 (rd l0 0)))) : Int).toNat).drop 3).length : Int) - 5))) = true := beq_iff_eq.mpr c24
                (try (have c24b0d := c24b0; simp only [List.length_drop, List.length_take] at c24b0d))
                have c24b1 : ((wrap64 (rd ((l0.take ((wrap64 (3 + (wrap64 (rd l0 0)))) : Int).toNat).drop 3) 4)) != (wrap64 ((((l0.take ((wrap64 (3 + (wrap64 (rd l0 0)))) : Int).toNat).drop 3).length : Int) - 5))) = false := bne_eq_false_iff_eq.mpr c24
                (try (have c24b1d := c24b1; simp only [List.length_drop, List.length_take] at c24b1d))
                clear c24
                replace H := Option.bind_eq_some_iff.mp H
                obtain ⟨t313, A250, H⟩ := H
                replace H : (if t313 = 0 then (some (t301, wrap64 (rd ((l0.take ((wrap64 (3 + (wrap64 (rd l0 0)))) : Int).toNat).drop 3) 2), wrap64 (rd ((l0.take ((wrap64 (3 + (wrap64 (rd l0 0)))) : Int).toNat).drop 3) 3), t305, wrap64 (3 + (wrap64 (rd l0 0))))) else (some (0, 0, 0, ([] : List Int), 0))) = some (r1, r2, r3, r4, r5) := H
                have A25 := Aside0.mk A250
                clear A250
                by_cases c26 : t313 = 0
                focus
                 rw [if_pos c26] at H
                 have c26b0 : (t313 == 0) = true := beq_iff_eq.mpr c26
                 have c26b1 : (t313 != 0) = false := bne_eq_false_iff_eq.mpr c26
                 clear c26
                 simp only [Option.some.injEq, Prod.mk.injEq] at H
                 obtain ⟨rfl, rfl, rfl, rfl, rfl⟩ := H
                 have p298 : 0 ≤ (0 : Int) := (by omega)
                 have q298 : 0 < (l0.length : Int) := of_decide_eq_true as_
                 obtain ⟨ad298, e298, hx298_0⟩ := Kd.at_int HR0.out 0 p298 q298
                 cases e298
                 have qi298 : (0 < l0.length) = True := eq_true (by omega)
                 (try rw [show ((0 : Int)).toNat = 0 from rfl] at hx298_0)
                 (try rw [Addr.add_zero'] at hx298_0)
                 replace hx298_0 := (HB.out.cell (World.block_lt_of_cell? w _ hx298_0)).trans hx298_0
                 replace p298 := eq_true p298
                 replace q298 := eq_true q298
                 obtain ⟨i027, hi027, _, hsz27, _⟩ := info_parts info5
                 obtain ⟨A27, hcut27, hA27, hC27⟩ := print_mid_of (P := Try.prog) (Value.int .u8) 0 22 5 .i64 .i64 Try.underlying22 hi027 hsz27 (some ad298) c0 l0 3 (wrap64 (3 + (wrap64 (rd l0 0)))) (by omega) (by first | omega | exact of_decide_eq_true as_) (of_decide_eq_true as_) HC0.out
                 have HR299 := Aside0.mk (Kd.C_of_reads (h1 := fun _ => rfl) (hA27 _ (Kd.reads_of_C HR0.out)))
                 have HC299 := Aside0.mk hC27
                 clear hA27 hC27 hi027 hsz27
                 (try simp only [show (3 : Int).toNat = 3 from rfl] at hcut27 HR299 HC299)
                 generalize hdl27_ : ((l0.take ((wrap64 (3 + (wrap64 (rd l0 0)))) : Int).toNat).drop 3) = dl27_ at *
                 try go_wp2
                 have n0_ := Aside0.mk (blk_drew BK295.out)
                 have n1_ := Aside0.mk (below_drew1 HB.out)
                 clear BK295
                 clear HB
                 have BK295 := n0_
                 have HB := n1_
                 clear n0_ n1_
                 obtain ⟨i029, hi029, _, hsz29, _⟩ := info_parts info5
                 obtain ⟨hcut29, hA29, hC29⟩ := print_take_of (P := Try.prog) (Value.int .u8) 0 22 5 .i64 Try.underlying22 hi029 hsz29 A27 (c0 - 3) dl27_ 2 (by omega) (of_decide_eq_true as_) HC299.out
                 have HR300 := Aside0.mk (Kd.C_of_reads (h1 := fun _ => rfl) (hA29 _ (Kd.reads_of_C HR299.out)))
                 have HC300 := Aside0.mk hC29
                 clear hA29 hC29 hi029 hsz29
                 have p302 : 0 ≤ (2 : Int) := (by omega)
                 have q302 : 2 < (dl27_.length : Int) := of_decide_eq_true as_
                 obtain ⟨ad302, e302, hx302_0⟩ := Kd.at_int HR299.out 2 p302 q302
                 have hw302_0 := hx302_0
                 (try rw [show ((2 : Int)).toNat = 2 from rfl] at hw302_0)
                 (try rw [show 2 * 1 = 2 from rfl] at hw302_0)
                 (try simp only [Nat.reduceMul, Nat.reduceEqDiff, Go.Addr.add, ↓reduceIte] at hw302_0)
                 cases e302
                 (try simp only [show (2 : Int).toNat = 2 from rfl, Nat.reduceMul, Nat.reduceEqDiff, Go.Addr.add, ↓reduceIte] at hx302_0)
                 have qi302 : (2 < dl27_.length) = True := eq_true (by omega)
                 (try rw [show ((2 : Int)).toNat = 2 from rfl] at hx302_0)
                 replace hx302_0 := (HB.out.cell (World.block_lt_of_cell? w _ hx302_0)).trans hx302_0
                 replace p302 := eq_true p302
                 replace q302 := eq_true q302
                 have p303 : 0 ≤ (3 : Int) := (by omega)
                 have q303 : 3 < (dl27_.length : Int) := of_decide_eq_true as_
                 obtain ⟨ad303, e303, hx303_0⟩ := Kd.at_int HR299.out 3 p303 q303
                 have hw303_0 := hx303_0
                 (try rw [show ((3 : Int)).toNat = 3 from rfl] at hw303_0)
                 (try rw [show 3 * 1 = 3 from rfl] at hw303_0)
                 (try simp only [Nat.reduceMul, Nat.reduceEqDiff, Go.Addr.add, ↓reduceIte] at hw303_0)
                 obtain rfl : ad302 = ad303 := (by injection e303)
                 (try simp only [show (3 : Int).toNat = 3 from rfl, Nat.reduceMul, Nat.reduceEqDiff, Go.Addr.add, ↓reduceIte] at hx303_0)
                 have qi303 : (3 < dl27_.length) = True := eq_true (by omega)
                 (try rw [show ((3 : Int)).toNat = 3 from rfl] at hx303_0)
                 replace hx303_0 := (HB.out.cell (World.block_lt_of_cell? w _ hx303_0)).trans hx303_0
                 replace p303 := eq_true p303
                 replace q303 := eq_true q303
                 obtain ⟨i030, hi030, _, hsz30, _⟩ := info_parts info5
                 obtain ⟨A30, hcut30, hA30, hC30⟩ := print_drop_of (P := Try.prog) (Value.int .u8) 0 22 5 .i64 Try.underlying22 hi030 hsz30 (some ad302) (c0 - 3) dl27_ 5 (by omega) (of_decide_eq_true as_) HC299.out
                 have HR304 := Aside0.mk (Kd.C_of_reads (h1 := fun _ => rfl) (hA30 _ (Kd.reads_of_C HR299.out)))
                 have HC304 := Aside0.mk hC30
                 clear hA30 hC30 hi030 hsz30
                 (try simp only [show (5 : Int).toNat = 5 from rfl] at hcut30 HR304 HC304)
                 generalize hdl30_ : (dl27_.drop 5) = dl30_ at *
                rotate_left
                focus
                 rw [if_neg c26] at H
                 have c26b0 : (t313 == 0) = false := beq_eq_false_iff_ne.mpr c26
                 have c26b1 : (t313 != 0) = true := bne_iff_ne.mpr c26
                 simp only [Option.some.injEq, Prod.mk.injEq] at H
                 obtain ⟨rfl, rfl, rfl, rfl, rfl⟩ := H
                 have p298 : 0 ≤ (0 : Int) := (by omega)
                 have q298 : 0 < (l0.length : Int) := of_decide_eq_true as_
                 obtain ⟨ad298, e298, hx298_0⟩ := Kd.at_int HR0.out 0 p298 q298
                 cases e298
                 have qi298 : (0 < l0.length) = True := eq_true (by omega)
                 (try rw [show ((0 : Int)).toNat = 0 from rfl] at hx298_0)
                 (try rw [Addr.add_zero'] at hx298_0)
                 replace hx298_0 := (HB.out.cell (World.block_lt_of_cell? w _ hx298_0)).trans hx298_0
                 replace p298 := eq_true p298
                 replace q298 := eq_true q298
                 obtain ⟨i046, hi046, _, hsz46, _⟩ := info_parts info5
                 obtain ⟨A46, hcut46, hA46, hC46⟩ := print_mid_of (P := Try.prog) (Value.int .u8) 0 22 5 .i64 .i64 Try.underlying22 hi046 hsz46 (some ad298) c0 l0 3 (wrap64 (3 + (wrap64 (rd l0 0)))) (by omega) (by first | omega | exact of_decide_eq_true as_) (of_decide_eq_true as_) HC0.out
                 have HR299 := Aside0.mk (Kd.C_of_reads (h1 := fun _ => rfl) (hA46 _ (Kd.reads_of_C HR0.out)))
                 have HC299 := Aside0.mk hC46
                 clear hA46 hC46 hi046 hsz46
                 (try simp only [show (3 : Int).toNat = 3 from rfl] at hcut46 HR299 HC299)
                 generalize hdl46_ : ((l0.take ((wrap64 (3 + (wrap64 (rd l0 0)))) : Int).toNat).drop 3) = dl27_ at *
                 try go_wp2
                 have n0_ := Aside0.mk (blk_drew BK295.out)
                 have n1_ := Aside0.mk (below_drew1 HB.out)
                 clear BK295
                 clear HB
                 have BK295 := n0_
                 have HB := n1_
                 clear n0_ n1_
                 obtain ⟨i048, hi048, _, hsz48, _⟩ := info_parts info5
                 obtain ⟨hcut48, hA48, hC48⟩ := print_take_of (P := Try.prog) (Value.int .u8) 0 22 5 .i64 Try.underlying22 hi048 hsz48 A46 (c0 - 3) dl27_ 2 (by omega) (of_decide_eq_true as_) HC299.out
                 have HR300 := Aside0.mk (Kd.C_of_reads (h1 := fun _ => rfl) (hA48 _ (Kd.reads_of_C HR299.out)))
                 have HC300 := Aside0.mk hC48
                 clear hA48 hC48 hi048 hsz48
                 have p302 : 0 ≤ (2 : Int) := (by omega)
                 have q302 : 2 < (dl27_.length : Int) := of_decide_eq_true as_
                 obtain ⟨ad302, e302, hx302_0⟩ := Kd.at_int HR299.out 2 p302 q302
                 have hw302_0 := hx302_0
                 (try rw [show ((2 : Int)).toNat = 2 from rfl] at hw302_0)
                 (try rw [show 2 * 1 = 2 from rfl] at hw302_0)
                 (try simp only [Nat.reduceMul, Nat.reduceEqDiff, Go.Addr.add, ↓reduceIte] at hw302_0)
                 cases e302
                 (try simp only [show (2 : Int).toNat = 2 from rfl, Nat.reduceMul, Nat.reduceEqDiff, Go.Addr.add, ↓reduceIte] at hx302_0)
                 have qi302 : (2 < dl27_.length) = True := eq_true (by omega)
                 (try rw [show ((2 : Int)).toNat = 2 from rfl] at hx302_0)
                 replace hx302_0 := (HB.out.cell (World.block_lt_of_cell? w _ hx302_0)).trans hx302_0
                 replace p302 := eq_true p302
                 replace q302 := eq_true q302
                 have p303 : 0 ≤ (3 : Int) := (by omega)
                 have q303 : 3 < (dl27_.length : Int) := of_decide_eq_true as_
                 obtain ⟨ad303, e303, hx303_0⟩ := Kd.at_int HR299.out 3 p303 q303
                 have hw303_0 := hx303_0
                 (try rw [show ((3 : Int)).toNat = 3 from rfl] at hw303_0)
                 (try rw [show 3 * 1 = 3 from rfl] at hw303_0)
                 (try simp only [Nat.reduceMul, Nat.reduceEqDiff, Go.Addr.add, ↓reduceIte] at hw303_0)
                 obtain rfl : ad302 = ad303 := (by injection e303)
                 (try simp only [show (3 : Int).toNat = 3 from rfl, Nat.reduceMul, Nat.reduceEqDiff, Go.Addr.add, ↓reduceIte] at hx303_0)
                 have qi303 : (3 < dl27_.length) = True := eq_true (by omega)
                 (try rw [show ((3 : Int)).toNat = 3 from rfl] at hx303_0)
                 replace hx303_0 := (HB.out.cell (World.block_lt_of_cell? w _ hx303_0)).trans hx303_0
                 replace p303 := eq_true p303
                 replace q303 := eq_true q303
                 obtain ⟨i049, hi049, _, hsz49, _⟩ := info_parts info5
                 obtain ⟨A30, hcut49, hA49, hC49⟩ := print_drop_of (P := Try.prog) (Value.int .u8) 0 22 5 .i64 Try.underlying22 hi049 hsz49 (some ad302) (c0 - 3) dl27_ 5 (by omega) (of_decide_eq_true as_) HC299.out
                 have HR304 := Aside0.mk (Kd.C_of_reads (h1 := fun _ => rfl) (hA49 _ (Kd.reads_of_C HR299.out)))
                 have HC304 := Aside0.mk hC49
                 clear hA49 hC49 hi049 hsz49
                 (try simp only [show (5 : Int).toNat = 5 from rfl] at hcut49 HR304 HC304)
                 generalize hdl49_ : (dl27_.drop 5) = dl30_ at *
                rotate_left
                all_goals
                 refine start_ (n := 18) (S := fun w' => w'.cell? ⟨ad302.block, ad302.off + 2, none⟩ = some (.int .u8 (rd dl27_ 2)) ∧ w'.cell? ⟨ad302.block, ad302.off + 3, none⟩ = some (.int .u8 (rd dl27_ 3))) (ds := []) #[false, false, false, false, false, false, false, false, false, false, false, false, false, false, false, false, false, false] (by kernel_rfl) rfl rfl ⟨((HB.out.cell (World.block_lt_of_cell? w _ hw302_0)).trans hw302_0), ((HB.out.cell (World.block_lt_of_cell? w _ hw303_0)).trans hw303_0)⟩ (fun hHeld => ?_); refine with_tabW impl_nextEntry.tab5 impl_nextEntry.bits5 (fun HT_ HW_ => ?_)
                 generalize wc.drew = w28 at BK295 HB HR300 HR304 hx302_0 hx303_0 hHeld ⊢
                 refine pure_ (i := 0) (N := some 35) (v := ?_) (a' := ?_) #[true, false, false, false, false, false, false, false, false, false, false, false, false, false, false, false, false, false] rfl rfl (any_of HT_.out (by kernel_rfl)) (fun _ _ _ h => h) (Or.inl ⟨by rfl, ?_⟩) ?_ ?_
                 rotate_left
                 ·intro w'
                  go_simp
                  with_reducible rfl
                 rotate_left
                 ·simp only [Act.put, List.setIfInBounds_toArray, List.set_cons_zero, List.set_cons_succ, i64_w, i32_w]
                  rfl
                 refine pure_ (i := 1) (N := some 36) (v := ?_) (a' := ?_) #[true, true, false, false, false, false, false, false, false, false, false, false, false, false, false, false, false, false] rfl rfl (any_of HT_.out (by kernel_rfl)) (fun _ _ _ h => h) (Or.inl ⟨by rfl, ?_⟩) ?_ ?_
                 rotate_left
                 ·intro w'
                  go_simp
                  with_reducible rfl
                 rotate_left
                 ·simp only [Act.put, List.setIfInBounds_toArray, List.set_cons_zero, List.set_cons_succ, i64_w, i32_w]
                  rfl
                 refine pure_ (i := 3) (N := some 38) (v := ?_) (a' := ?_) #[true, true, false, true, false, false, false, false, false, false, false, false, false, false, false, false, false, false] rfl rfl (any_of HT_.out (by kernel_rfl)) (fun _ _ _ h => h) (Or.inl ⟨by rfl, ?_⟩) ?_ ?_
                 rotate_left
                 ·intro w'
                  go_simp
                  with_reducible rfl
                 rotate_left
                 ·simp only [Act.put, List.setIfInBounds_toArray, List.set_cons_zero, List.set_cons_succ, i64_w, i32_w]
                  rfl
                 refine pure_ (i := 4) (N := some 39) (v := ?_) (a' := ?_) #[true, true, false, true, true, false, false, false, false, false, false, false, false, false, false, false, false, false] rfl rfl (any_of HT_.out (by kernel_rfl)) (fun _ _ _ h => h) (Or.inl ⟨by rfl, ?_⟩) ?_ ?_
                 rotate_left
                 ·intro w'
                  go_simp
                  with_reducible rfl
                 rotate_left
                 ·simp only [Act.put, List.setIfInBounds_toArray, List.set_cons_zero, List.set_cons_succ, i64_w, i32_w]
                  rfl
                 refine pure_ (i := 7) (N := some 42) (v := ?_) (a' := ?_) #[true, true, false, true, true, false, false, true, false, false, false, false, false, false, false, false, false, false] rfl rfl (any_of HT_.out (by kernel_rfl)) (fun _ _ _ h => h) (Or.inl ⟨by rfl, ?_⟩) ?_ ?_
                 rotate_left
                 ·intro w'
                  go_simp
                  with_reducible rfl
                 rotate_left
                 ·simp only [Act.put, List.setIfInBounds_toArray, List.set_cons_zero, List.set_cons_succ, i64_w, i32_w]
                  rfl
                 refine pure_ (i := 8) (N := some 43) (v := ?_) (a' := ?_) #[true, true, false, true, true, false, false, true, true, false, false, false, false, false, false, false, false, false] rfl rfl (any_of HT_.out (by kernel_rfl)) (fun _ _ _ h => h) (Or.inl ⟨by rfl, ?_⟩) ?_ ?_
                 rotate_left
                 ·intro w'
                  go_simp
                  with_reducible rfl
                 rotate_left
                 ·simp only [Act.put, List.setIfInBounds_toArray, List.set_cons_zero, List.set_cons_succ, i64_w, i32_w]
                  rfl
                 refine pure_ (i := 11) (N := some 46) (v := ?_) (a' := ?_) #[true, true, false, true, true, false, false, true, true, false, false, true, false, false, false, false, false, false] rfl rfl (any_of HT_.out (by kernel_rfl)) (fun _ _ _ h => h) (Or.inl ⟨by rfl, ?_⟩) ?_ ?_
                 rotate_left
                 ·intro w'
                  go_simp
                  with_reducible rfl
                 rotate_left
                 ·simp only [Act.put, List.setIfInBounds_toArray, List.set_cons_zero, List.set_cons_succ, i64_w, i32_w]
                  rfl
                 refine pure_ (i := 12) (N := some 47) (v := ?_) (a' := ?_) #[true, true, false, true, true, false, false, true, true, false, false, true, true, false, false, false, false, false] rfl rfl (any_of HT_.out (by kernel_rfl)) (fun _ _ _ h => h) (Or.inl ⟨by rfl, ?_⟩) ?_ ?_
                 rotate_left
                 ·intro w'
                  go_simp
                  with_reducible rfl
                 rotate_left
                 ·simp only [Act.put, List.setIfInBounds_toArray, List.set_cons_zero, List.set_cons_succ, i64_w, i32_w]
                  rfl
                 refine take_ (i := 5) (N := some 40) (v := ?_) (a' := ?_) #[true, true, false, true, true, true, false, true, true, false, false, true, true, false, false, false, false, false] rfl rfl (take_ofW HT_.out HW_.out (by kernel_rfl)) (fun _ _ _ h => h) (Or.inl ⟨by rfl, ?_⟩) hHeld ?_ ?_
                 rotate_left
                 ·rintro w' ⟨s0, s1⟩
                  go_simp
                  with_reducible rfl
                 rotate_left
                 ·simp only [Act.put, List.setIfInBounds_toArray, List.set_cons_zero, List.set_cons_succ, i64_w, i32_w]
                  rfl
                 refine pure_ (i := 6) (N := some 41) (v := ?_) (a' := ?_) #[true, true, false, true, true, true, true, true, true, false, false, true, true, false, false, false, false, false] rfl rfl (any_of HT_.out (by kernel_rfl)) (fun _ _ _ h => h) (Or.inl ⟨by rfl, ?_⟩) ?_ ?_
                 rotate_left
                 ·intro w'
                  go_simp
                  with_reducible rfl
                 rotate_left
                 ·simp only [Act.put, List.setIfInBounds_toArray, List.set_cons_zero, List.set_cons_succ, i64_w, i32_w]
                  rfl
                 refine take_ (i := 9) (N := some 44) (v := ?_) (a' := ?_) #[true, true, false, true, true, true, true, true, true, true, false, true, true, false, false, false, false, false] rfl rfl (take_ofW HT_.out HW_.out (by kernel_rfl)) (fun _ _ _ h => h) (Or.inl ⟨by rfl, ?_⟩) hHeld ?_ ?_
                 rotate_left
                 ·rintro w' ⟨s0, s1⟩
                  go_simp
                  with_reducible rfl
                 rotate_left
                 ·simp only [Act.put, List.setIfInBounds_toArray, List.set_cons_zero, List.set_cons_succ, i64_w, i32_w]
                  rfl
                 refine pure_ (i := 10) (N := some 45) (v := ?_) (a' := ?_) #[true, true, false, true, true, true, true, true, true, true, true, true, true, false, false, false, false, false] rfl rfl (any_of HT_.out (by kernel_rfl)) (fun _ _ _ h => h) (Or.inl ⟨by rfl, ?_⟩) ?_ ?_
                 rotate_left
                 ·intro w'
                  go_simp
                  with_reducible rfl
                 rotate_left
                 ·simp only [Act.put, List.setIfInBounds_toArray, List.set_cons_zero, List.set_cons_succ, i64_w, i32_w]
                  rfl
                 refine join_ (σ := Value × Nat) 1 #[true, true, true, true, true, true, true, true, true, true, true, true, true, true, true, true, true, false] (fun s_ => [(37, .int .i64 t301), (48, s_.1), (6, .pointer (some ⟨s_.2, 0, none⟩)), (49, .agg #[.int .i64 (wrap64 (rd dl27_ 2)), .int .i64 (wrap64 (rd dl27_ 3)), s_.1]), (50, .agg #[.int .i64 t301, .int .i64 (wrap64 (rd dl27_ 2)), .int .i64 (wrap64 (rd dl27_ 3)), s_.1])]) (fun s_ w' => (w'.cell? ⟨ad302.block, ad302.off + 2, none⟩ = some (.int .u8 (rd dl27_ 2)) ∧ w'.cell? ⟨ad302.block, ad302.off + 3, none⟩ = some (.int .u8 (rd dl27_ 3))) ∧ (Kd.R (Kd.int .u8) 5 w' w.heap.size (fun _ => True) s_.1 t305) ∧ (w'.heap[gb295]? = some (.cells #[.int .i64 0, .int .i64 0, .int .i64 0, .slice none 0 0] 61 (0, 0))) ∧ (w'.heap[s_.2]? = some (.cells #[.int .i64 0, .int .i64 0, .int .i64 0, .slice none 0 0] 61 (0, 0))) ∧ (w.heap.size ≤ s_.2) ∧ (w.heap.size ≤ s_.2) ∧ (gb295 ≠ s_.2) ∧ (s_.2 ≠ gb295) ∧ (Below w.heap.size w w')) ?_ ?_
                 rotate_left
                 ·intro hCont
                  refine two_ (i := 2) (j := 16) (Ni := some 37) (Nj := some 6) #[true, true, true, true, true, true, true, true, true, true, true, true, true, false, false, false, false, false] #[true, true, false, true, true, true, true, true, true, true, true, true, true, false, false, false, true, false] rfl rfl rfl rfl (two_of HT_.out (by kernel_rfl)) (by decide) (by decide) (fun K hK => ?_) (fun K hK => ?_)
                  ·skip
                   refine goes_ Try.func183 (by kernel_rfl) rfl #[.slice (some ad302) (dl27_.take 2).length (c0 - 3)] (by rfl) rfl rfl (by (try simp only [List.map_toArray, List.map_cons, List.map_nil]); first | done | (rw [show (dl27_.take 2).length = 2 from (by rw [List.length_take]; have h_ : (2 : Int) ≤ (dl27_.length : Int) := of_decide_eq_true as_; omega)] <;> rfl) | rfl | (simp only [List.length_drop, List.length_take]; rfl)) ?_
                   with_reducible refine (impl_numberOf.calls kj1 _ _ (dl27_.take 2) t301 _ ?side1 ?side2 A13.out).mono ?_
                   (case side1 => exact kc_ (Kd.C_below HR300.out HB.out))
                   (case side2 => exact HC300.out)
                   rintro e w' ⟨rfl, ⟨nd, rfl⟩⟩
                   refine ⟨_, rfl, ?_⟩
                   refine hK.out _ _ ⟨((HB.out.cell (World.block_lt_of_cell? w _ hw302_0)).trans hw302_0), ((HB.out.cell (World.block_lt_of_cell? w _ hw303_0)).trans hw303_0)⟩ (fun hHeld => ?_)
                   clear hK K
                   refine norm_ (a' := ?_) ?_ ?_
                   rotate_left
                   ·show Act.put _ (some 37) _ = _
                    simp only [Act.put, List.setIfInBounds_toArray, List.set_cons_zero, List.set_cons_succ, i64_w, i32_w]
                    rfl
                   refine two_ (i := 13) (j := 16) (Ni := some 48) (Nj := some 6) #[true, true, true, true, true, true, true, true, true, true, true, true, true, true, false, false, false, false] #[true, true, true, true, true, true, true, true, true, true, true, true, true, false, false, false, true, false] rfl rfl rfl rfl (two_of HT_.out (by kernel_rfl)) (by decide) (by decide) (fun K hK => ?_) (fun K hK => ?_)
                   ·skip
                    refine goes_ Try.func132 (by kernel_rfl) rfl #[.slice A30 dl30_.length ((c0 - 3) - 5)] (by rfl) rfl rfl (by (try simp only [List.map_toArray, List.map_cons, List.map_nil]); first | done | (rw [show dl30_.length = (dl27_.length - 5) from List.length_drop] <;> rfl) | rfl | (simp only [List.length_drop, List.length_take]; rfl)) ?_
                    with_reducible refine (slices_Clone_byte_byte.calls _ _ dl30_ t305 _ ?side1 ?side2 A17.out).mono ?_
                    (case side1 => exact kc_ (Kd.C_below HR304.out bb_))
                    (case side2 => exact HC304.out)
                    rintro e w31 ⟨v306, rfl, ho0, hb⟩
                    refine ⟨_, rfl, ?_⟩
                    have n0_ := Aside0.mk (Kd.R_lower ho0 (below_size bb_))
                    have n1_ := Aside0.mk (blk_below (kb_ BK295) hb)
                    have n2_ := Aside0.mk (below_step bb_ hb)
                    clear BK295
                    clear HB
                    have HO307 := n0_
                    have BK295 := n1_
                    have HB := n2_
                    clear n0_ n1_ n2_
                    (try clear hb)
                    (try clear hb2)
                    (try clear hk)
                    (try clear hi)
                    (try clear ho0)
                    obtain ⟨Ao32, co32, eo32⟩ := Kd.R_slice HO307.out
                    (first | subst eo32 | (injection eo32 with f1_ f2_ f3_; have f4_ := f1_.symm; have f5_ := f3_.symm; clear f1_ f2_ f3_; subst f4_; subst f5_))
                    refine hK.out _ _ ⟨((HB.out.cell (World.block_lt_of_cell? w _ hw302_0)).trans hw302_0), ((HB.out.cell (World.block_lt_of_cell? w _ hw303_0)).trans hw303_0)⟩ (fun hHeld => ?_)
                    clear hK K
                    refine norm_ (a' := ?_) ?_ ?_
                    rotate_left
                    ·show Act.put _ (some 48) _ = _
                     simp only [Act.put, List.setIfInBounds_toArray, List.set_cons_zero, List.set_cons_succ, i64_w, i32_w]
                     rfl
                    refine pure_ (i := 14) (N := some 49) (v := ?_) (a' := ?_) #[true, true, true, true, true, true, true, true, true, true, true, true, true, true, true, false, false, false] rfl rfl (any_of HT_.out (by kernel_rfl)) (fun _ _ _ h => h) (Or.inl ⟨by rfl, ?_⟩) ?_ ?_
                    rotate_left
                    ·intro w'
                     go_simp
                     with_reducible rfl
                    rotate_left
                    ·simp only [Act.put, List.setIfInBounds_toArray, List.set_cons_zero, List.set_cons_succ, i64_w, i32_w]
                     rfl
                    refine pure_ (i := 15) (N := some 50) (v := ?_) (a' := ?_) #[true, true, true, true, true, true, true, true, true, true, true, true, true, true, true, true, false, false] rfl rfl (any_of HT_.out (by kernel_rfl)) (fun _ _ _ h => h) (Or.inl ⟨by rfl, ?_⟩) ?_ ?_
                    rotate_left
                    ·intro w'
                     go_simp
                     with_reducible rfl
                    rotate_left
                    ·simp only [Act.put, List.setIfInBounds_toArray, List.set_cons_zero, List.set_cons_succ, i64_w, i32_w]
                     rfl
                    refine one_ (i := 16) (N := some 6) #[true, true, true, true, true, true, true, true, true, true, true, true, true, true, true, true, true, false] rfl rfl (one_of HT_.out (by kernel_rfl)) (by decide) (fun K hK => ?_)
                    refine box_step ?hg (N := 6) ?hd (cs := #[.int .i64 0, .int .i64 0, .int .i64 0, .slice none 0 0]) (t := 61) ?hr ?_; (case hd => rfl); (case hg => rfl); (case hr => first | (go_simp; done) | (go_simp; rfl))
                    intro gb308 hg w33 hbox hb
                    have n0_ := Aside0.mk (Kd.R_below (kr_ HO307) hb)
                    have n1_ := Aside0.mk (blk_below (kb_ BK295) hb)
                    have n2_ := Aside0.mk (below_step bb_ hb)
                    have n3_ := Aside0.mk (hbox)
                    have n4_ := (bs_ hg : Aside0 (w.heap.size ≤ _))
                    have n5_ := (bs_ hg : Aside0 (w.heap.size ≤ _))
                    have n6_ := (nl_ hg BK295 : Aside0 (gb295 ≠ gb308))
                    have n7_ := (nr_ hg BK295 : Aside0 (gb308 ≠ gb295))
                    clear HO307
                    clear BK295
                    clear HB
                    have HO307 := n0_
                    have BK295 := n1_
                    have HB := n2_
                    have BK308 := n3_
                    have GW308 := n4_
                    have GE308 := n5_
                    have NB295_308 := n6_
                    have NB308_295 := n7_
                    clear n0_ n1_ n2_ n3_ n4_ n5_ n6_ n7_
                    clear hb hbox hg
                    refine hK.out _ _ ⟨((HB.out.cell (World.block_lt_of_cell? w _ hw302_0)).trans hw302_0), ((HB.out.cell (World.block_lt_of_cell? w _ hw303_0)).trans hw303_0)⟩ (fun hHeld => ?_)
                    clear hK K
                    refine norm_ (a' := ?_) ?_ ?_
                    rotate_left
                    ·show Act.put _ (some 6) _ = _
                     simp only [Act.put, List.setIfInBounds_toArray, List.set_cons_zero, List.set_cons_succ, i64_w, i32_w]
                     rfl
                    exact norm_ (by simp only [putAll, Act.put, List.setIfInBounds_toArray, List.set_cons_zero, List.set_cons_succ]) (hCont (.slice Ao32 t305.length co32, gb308) _ ⟨hHeld, (kr_ HO307), (by (with_reducible repeat (first | refine blk_drewN ?_ _ | refine blk_drew ?_ | refine blk_alloc ?_ _)); exact BK295.out), (by (with_reducible repeat (first | refine blk_drewN ?_ _ | refine blk_drew ?_ | refine blk_alloc ?_ _)); exact BK308.out), GW308.out, GE308.out, NB295_308.out, NB308_295.out, bb_⟩)
                   ·skip
                    refine box_step ?hg (N := 6) ?hd (cs := #[.int .i64 0, .int .i64 0, .int .i64 0, .slice none 0 0]) (t := 61) ?hr ?_; (case hd => rfl); (case hg => rfl); (case hr => first | (go_simp; done) | (go_simp; rfl))
                    intro gb308 hg w31 hbox hb
                    have n0_ := Aside0.mk (blk_below (kb_ BK295) hb)
                    have n1_ := Aside0.mk (below_step bb_ hb)
                    have n2_ := Aside0.mk (hbox)
                    have n3_ := (bs_ hg : Aside0 (w.heap.size ≤ _))
                    have n4_ := (bs_ hg : Aside0 (w.heap.size ≤ _))
                    have n5_ := (nl_ hg BK295 : Aside0 (gb295 ≠ gb308))
                    have n6_ := (nr_ hg BK295 : Aside0 (gb308 ≠ gb295))
                    clear BK295
                    clear HB
                    have BK295 := n0_
                    have HB := n1_
                    have BK308 := n2_
                    have GW308 := n3_
                    have GE308 := n4_
                    have NB295_308 := n5_
                    have NB308_295 := n6_
                    clear n0_ n1_ n2_ n3_ n4_ n5_ n6_
                    clear hb hbox hg
                    refine hK.out _ _ ⟨((HB.out.cell (World.block_lt_of_cell? w _ hw302_0)).trans hw302_0), ((HB.out.cell (World.block_lt_of_cell? w _ hw303_0)).trans hw303_0)⟩ (fun hHeld => ?_)
                    clear hK K
                    refine norm_ (a' := ?_) ?_ ?_
                    rotate_left
                    ·show Act.put _ (some 6) _ = _
                     simp only [Act.put, List.setIfInBounds_toArray, List.set_cons_zero, List.set_cons_succ, i64_w, i32_w]
                     rfl
                    refine one_ (i := 13) (N := some 48) #[true, true, true, true, true, true, true, true, true, true, true, true, true, true, false, false, true, false] rfl rfl (one_of HT_.out (by kernel_rfl)) (by decide) (fun K hK => ?_)
                    refine goes_ Try.func132 (by kernel_rfl) rfl #[.slice A30 dl30_.length ((c0 - 3) - 5)] (by rfl) rfl rfl (by (try simp only [List.map_toArray, List.map_cons, List.map_nil]); first | done | (rw [show dl30_.length = (dl27_.length - 5) from List.length_drop] <;> rfl) | rfl | (simp only [List.length_drop, List.length_take]; rfl)) ?_
                    with_reducible refine (slices_Clone_byte_byte.calls _ _ dl30_ t305 _ ?side1 ?side2 A17.out).mono ?_
                    (case side1 => exact kc_ (Kd.C_below HR304.out HB.out))
                    (case side2 => exact HC304.out)
                    rintro e w32 ⟨v306, rfl, ho0, hb⟩
                    refine ⟨_, rfl, ?_⟩
                    have n0_ := Aside0.mk (Kd.R_lower ho0 (below_size bb_))
                    have n1_ := Aside0.mk (blk_below (kb_ BK295) hb)
                    have n2_ := Aside0.mk (blk_below (kb_ BK308) hb)
                    have n3_ := Aside0.mk (below_step bb_ hb)
                    clear BK295
                    clear BK308
                    clear HB
                    have HO307 := n0_
                    have BK295 := n1_
                    have BK308 := n2_
                    have HB := n3_
                    clear n0_ n1_ n2_ n3_
                    (try clear hb)
                    (try clear hb2)
                    (try clear hk)
                    (try clear hi)
                    (try clear ho0)
                    obtain ⟨Ao33, co33, eo33⟩ := Kd.R_slice HO307.out
                    (first | subst eo33 | (injection eo33 with f1_ f2_ f3_; have f4_ := f1_.symm; have f5_ := f3_.symm; clear f1_ f2_ f3_; subst f4_; subst f5_))
                    refine hK.out _ _ ⟨((HB.out.cell (World.block_lt_of_cell? w _ hw302_0)).trans hw302_0), ((HB.out.cell (World.block_lt_of_cell? w _ hw303_0)).trans hw303_0)⟩ (fun hHeld => ?_)
                    clear hK K
                    refine norm_ (a' := ?_) ?_ ?_
                    rotate_left
                    ·show Act.put _ (some 48) _ = _
                     simp only [Act.put, List.setIfInBounds_toArray, List.set_cons_zero, List.set_cons_succ, i64_w, i32_w]
                     rfl
                    refine pure_ (i := 14) (N := some 49) (v := ?_) (a' := ?_) #[true, true, true, true, true, true, true, true, true, true, true, true, true, true, true, false, true, false] rfl rfl (any_of HT_.out (by kernel_rfl)) (fun _ _ _ h => h) (Or.inl ⟨by rfl, ?_⟩) ?_ ?_
                    rotate_left
                    ·intro w'
                     go_simp
                     with_reducible rfl
                    rotate_left
                    ·simp only [Act.put, List.setIfInBounds_toArray, List.set_cons_zero, List.set_cons_succ, i64_w, i32_w]
                     rfl
                    refine pure_ (i := 15) (N := some 50) (v := ?_) (a' := ?_) #[true, true, true, true, true, true, true, true, true, true, true, true, true, true, true, true, true, false] rfl rfl (any_of HT_.out (by kernel_rfl)) (fun _ _ _ h => h) (Or.inl ⟨by rfl, ?_⟩) ?_ ?_
                    rotate_left
                    ·intro w'
                     go_simp
                     with_reducible rfl
                    rotate_left
                    ·simp only [Act.put, List.setIfInBounds_toArray, List.set_cons_zero, List.set_cons_succ, i64_w, i32_w]
                     rfl
                    exact norm_ (by simp only [putAll, Act.put, List.setIfInBounds_toArray, List.set_cons_zero, List.set_cons_succ]) (hCont (.slice Ao33 t305.length co33, gb308) _ ⟨hHeld, (kr_ HO307), (by (with_reducible repeat (first | refine blk_drewN ?_ _ | refine blk_drew ?_ | refine blk_alloc ?_ _)); exact BK295.out), (by (with_reducible repeat (first | refine blk_drewN ?_ _ | refine blk_drew ?_ | refine blk_alloc ?_ _)); exact BK308.out), GW308.out, GE308.out, NB295_308.out, NB308_295.out, bb_⟩)
                  ·skip
                   refine box_step ?hg (N := 6) ?hd (cs := #[.int .i64 0, .int .i64 0, .int .i64 0, .slice none 0 0]) (t := 61) ?hr ?_; (case hd => rfl); (case hg => rfl); (case hr => first | (go_simp; done) | (go_simp; rfl))
                   intro gb308 hg w31 hbox hb
                   have n0_ := Aside0.mk (blk_below (kb_ BK295) hb)
                   have n1_ := Aside0.mk (below_step bb_ hb)
                   have n2_ := Aside0.mk (hbox)
                   have n3_ := (bs_ hg : Aside0 (w.heap.size ≤ _))
                   have n4_ := (bs_ hg : Aside0 (w.heap.size ≤ _))
                   have n5_ := (nl_ hg BK295 : Aside0 (gb295 ≠ gb308))
                   have n6_ := (nr_ hg BK295 : Aside0 (gb308 ≠ gb295))
                   clear BK295
                   clear HB
                   have BK295 := n0_
                   have HB := n1_
                   have BK308 := n2_
                   have GW308 := n3_
                   have GE308 := n4_
                   have NB295_308 := n5_
                   have NB308_295 := n6_
                   clear n0_ n1_ n2_ n3_ n4_ n5_ n6_
                   clear hb hbox hg
                   refine hK.out _ _ ⟨((HB.out.cell (World.block_lt_of_cell? w _ hw302_0)).trans hw302_0), ((HB.out.cell (World.block_lt_of_cell? w _ hw303_0)).trans hw303_0)⟩ (fun hHeld => ?_)
                   clear hK K
                   refine norm_ (a' := ?_) ?_ ?_
                   rotate_left
                   ·show Act.put _ (some 6) _ = _
                    simp only [Act.put, List.setIfInBounds_toArray, List.set_cons_zero, List.set_cons_succ, i64_w, i32_w]
                    rfl
                   refine one_ (i := 2) (N := some 37) #[true, true, true, true, true, true, true, true, true, true, true, true, true, false, false, false, true, false] rfl rfl (one_of HT_.out (by kernel_rfl)) (by decide) (fun K hK => ?_)
                   refine goes_ Try.func183 (by kernel_rfl) rfl #[.slice (some ad302) (dl27_.take 2).length (c0 - 3)] (by rfl) rfl rfl (by (try simp only [List.map_toArray, List.map_cons, List.map_nil]); first | done | (rw [show (dl27_.take 2).length = 2 from (by rw [List.length_take]; have h_ : (2 : Int) ≤ (dl27_.length : Int) := of_decide_eq_true as_; omega)] <;> rfl) | rfl | (simp only [List.length_drop, List.length_take]; rfl)) ?_
                   with_reducible refine (impl_numberOf.calls kj1 _ _ (dl27_.take 2) t301 _ ?side1 ?side2 A13.out).mono ?_
                   (case side1 => exact kc_ (Kd.C_below HR300.out HB.out))
                   (case side2 => exact HC300.out)
                   rintro e w' ⟨rfl, ⟨nd, rfl⟩⟩
                   refine ⟨_, rfl, ?_⟩
                   refine hK.out _ _ ⟨((HB.out.cell (World.block_lt_of_cell? w _ hw302_0)).trans hw302_0), ((HB.out.cell (World.block_lt_of_cell? w _ hw303_0)).trans hw303_0)⟩ (fun hHeld => ?_)
                   clear hK K
                   refine norm_ (a' := ?_) ?_ ?_
                   rotate_left
                   ·show Act.put _ (some 37) _ = _
                    simp only [Act.put, List.setIfInBounds_toArray, List.set_cons_zero, List.set_cons_succ, i64_w, i32_w]
                    rfl
                   refine one_ (i := 13) (N := some 48) #[true, true, true, true, true, true, true, true, true, true, true, true, true, true, false, false, true, false] rfl rfl (one_of HT_.out (by kernel_rfl)) (by decide) (fun K hK => ?_)
                   refine goes_ Try.func132 (by kernel_rfl) rfl #[.slice A30 dl30_.length ((c0 - 3) - 5)] (by rfl) rfl rfl (by (try simp only [List.map_toArray, List.map_cons, List.map_nil]); first | done | (rw [show dl30_.length = (dl27_.length - 5) from List.length_drop] <;> rfl) | rfl | (simp only [List.length_drop, List.length_take]; rfl)) ?_
                   with_reducible refine (slices_Clone_byte_byte.calls _ _ dl30_ t305 _ ?side1 ?side2 A17.out).mono ?_
                   (case side1 => exact kc_ (Kd.C_below HR304.out bb_))
                   (case side2 => exact HC304.out)
                   rintro e w32 ⟨v306, rfl, ho0, hb⟩
                   refine ⟨_, rfl, ?_⟩
                   have n0_ := Aside0.mk (Kd.R_lower ho0 (below_size bb_))
                   have n1_ := Aside0.mk (blk_below (kb_ BK295) hb)
                   have n2_ := Aside0.mk (blk_below (kb_ BK308) hb)
                   have n3_ := Aside0.mk (below_step bb_ hb)
                   clear BK295
                   clear BK308
                   clear HB
                   have HO307 := n0_
                   have BK295 := n1_
                   have BK308 := n2_
                   have HB := n3_
                   clear n0_ n1_ n2_ n3_
                   (try clear hb)
                   (try clear hb2)
                   (try clear hk)
                   (try clear hi)
                   (try clear ho0)
                   obtain ⟨Ao33, co33, eo33⟩ := Kd.R_slice HO307.out
                   (first | subst eo33 | (injection eo33 with f1_ f2_ f3_; have f4_ := f1_.symm; have f5_ := f3_.symm; clear f1_ f2_ f3_; subst f4_; subst f5_))
                   refine hK.out _ _ ⟨((HB.out.cell (World.block_lt_of_cell? w _ hw302_0)).trans hw302_0), ((HB.out.cell (World.block_lt_of_cell? w _ hw303_0)).trans hw303_0)⟩ (fun hHeld => ?_)
                   clear hK K
                   refine norm_ (a' := ?_) ?_ ?_
                   rotate_left
                   ·show Act.put _ (some 48) _ = _
                    simp only [Act.put, List.setIfInBounds_toArray, List.set_cons_zero, List.set_cons_succ, i64_w, i32_w]
                    rfl
                   refine pure_ (i := 14) (N := some 49) (v := ?_) (a' := ?_) #[true, true, true, true, true, true, true, true, true, true, true, true, true, true, true, false, true, false] rfl rfl (any_of HT_.out (by kernel_rfl)) (fun _ _ _ h => h) (Or.inl ⟨by rfl, ?_⟩) ?_ ?_
                   rotate_left
                   ·intro w'
                    go_simp
                    with_reducible rfl
                   rotate_left
                   ·simp only [Act.put, List.setIfInBounds_toArray, List.set_cons_zero, List.set_cons_succ, i64_w, i32_w]
                    rfl
                   refine pure_ (i := 15) (N := some 50) (v := ?_) (a' := ?_) #[true, true, true, true, true, true, true, true, true, true, true, true, true, true, true, true, true, false] rfl rfl (any_of HT_.out (by kernel_rfl)) (fun _ _ _ h => h) (Or.inl ⟨by rfl, ?_⟩) ?_ ?_
                   rotate_left
                   ·intro w'
                    go_simp
                    with_reducible rfl
                   rotate_left
                   ·simp only [Act.put, List.setIfInBounds_toArray, List.set_cons_zero, List.set_cons_succ, i64_w, i32_w]
                    rfl
                   exact norm_ (by simp only [putAll, Act.put, List.setIfInBounds_toArray, List.set_cons_zero, List.set_cons_succ]) (hCont (.slice Ao33 t305.length co33, gb308) _ ⟨hHeld, (kr_ HO307), (by (with_reducible repeat (first | refine blk_drewN ?_ _ | refine blk_drew ?_ | refine blk_alloc ?_ _)); exact BK295.out), (by (with_reducible repeat (first | refine blk_drewN ?_ _ | refine blk_drew ?_ | refine blk_alloc ?_ _)); exact BK308.out), GW308.out, GE308.out, NB295_308.out, NB308_295.out, bb_⟩)
                 rintro ⟨v306, gb308⟩ w34 ⟨hS_, h0_, h1_, h2_, h3_, h4_, h5_, h6_, h7_⟩
                 have n0_ : Aside0 (Kd.R (Kd.int .u8) 5 w34 w.heap.size (fun _ => True) v306 t305) := ⟨h0_⟩
                 have n1_ : Aside0 (w34.heap[gb295]? = some (.cells #[.int .i64 0, .int .i64 0, .int .i64 0, .slice none 0 0] 61 (0, 0))) := ⟨h1_⟩
                 have n2_ : Aside0 (w34.heap[gb308]? = some (.cells #[.int .i64 0, .int .i64 0, .int .i64 0, .slice none 0 0] 61 (0, 0))) := ⟨h2_⟩
                 have n3_ : Aside0 (w.heap.size ≤ gb308) := ⟨h3_⟩
                 have n4_ : Aside0 (w.heap.size ≤ gb308) := ⟨h4_⟩
                 have n5_ : Aside0 (gb295 ≠ gb308) := ⟨h5_⟩
                 have n6_ : Aside0 (gb308 ≠ gb295) := ⟨h6_⟩
                 have n7_ : Aside0 (Below w.heap.size w w34) := ⟨h7_⟩
                 clear BK295
                 clear HB
                 clear h0_ h1_ h2_ h3_ h4_ h5_ h6_ h7_
                 have HO307 := n0_
                 have BK295 := n1_
                 have BK308 := n2_
                 have GW308 := n3_
                 have GE308 := n4_
                 have NB295_308 := n5_
                 have NB308_295 := n6_
                 have HB := n7_
                 clear n0_ n1_ n2_ n3_ n4_ n5_ n6_ n7_
                 have hHeld : w34.cell? ⟨ad302.block, ad302.off + 2, none⟩ = some (.int .u8 (rd dl27_ 2)) ∧ w34.cell? ⟨ad302.block, ad302.off + 3, none⟩ = some (.int .u8 (rd dl27_ 3)) := hS_
                 obtain ⟨Ao35, co35, eo35⟩ := Kd.R_slice HO307.out
                 (first | subst eo35 | (injection eo35 with f1_ f2_ f3_; have f4_ := f1_.symm; have f5_ := f3_.symm; clear f1_ f2_ f3_; subst f4_; subst f5_))
                 refine norm_ (a' := ?_) ?_ ?_
                 rotate_left
                 ·simp only [putAll, Act.put, List.setIfInBounds_toArray, List.set_cons_zero, List.set_cons_succ]
                  rfl
                 refine one_ (i := 17) (N := none) #[true, true, true, true, true, true, true, true, true, true, true, true, true, true, true, true, true, true] rfl rfl (one_of HT_.out (by kernel_rfl)) (by decide) (fun K hK => ?_)
                 have hs36 : w34.cell? ⟨gb308, 0, none⟩ = some (.int .i64 0) := (blk_cell BK308.out 0).trans rfl
                 have hfs36 := blk_frozen BK308.out 0
                 have hns36_0 := NB295_308.out
                 have hms36_0 := NB308_295.out
                 have hs37 : w34.cell? ⟨gb308, 1, none⟩ = some (.int .i64 0) := (blk_cell BK308.out 1).trans rfl
                 have hfs37 := blk_frozen BK308.out 1
                 have hns37_0 := NB295_308.out
                 have hms37_0 := NB308_295.out
                 have hs38 : w34.cell? ⟨gb308, 2, none⟩ = some (.int .i64 0) := (blk_cell BK308.out 2).trans rfl
                 have hfs38 := blk_frozen BK308.out 2
                 have hns38_0 := NB295_308.out
                 have hms38_0 := NB308_295.out
                 have hs39 : w34.cell? ⟨gb308, 3, none⟩ = some (.slice none 0 0) := (blk_cell BK308.out 3).trans rfl
                 have hfs39 := blk_frozen BK308.out 3
                 have hns39_0 := NB295_308.out
                 have hms39_0 := NB308_295.out
                 refine skip_ (w1 := ?_) ?_ ?_ ?_ ?_
                 rotate_left
                 ·first | kernel_rfl | rfl
                 ·rfl
                 ·go_simp
                  rfl
                 refine hK.out _ _ ⟨((cell_far (p := ⟨gb308, _, none⟩) (by first | exact Nat.ne_of_lt (Nat.lt_of_lt_of_le (by have := World.block_lt_of_cell? _ _ hw302_0; first | rwa [add_block] at this | exact this) GW308.out) | (rw [add_block]; exact Nat.ne_of_lt (Nat.lt_of_lt_of_le (by have := World.block_lt_of_cell? _ _ hw302_0; first | rwa [add_block] at this | exact this) GW308.out)) | (show (Addr.add _ _).block ≠ _; rw [add_block]; exact Nat.ne_of_lt (Nat.lt_of_lt_of_le (by have := World.block_lt_of_cell? _ _ hw302_0; first | rwa [add_block] at this | exact this) GW308.out)) | (dsimp only; exact Nat.ne_of_lt (Nat.lt_of_lt_of_le (by have := World.block_lt_of_cell? _ _ hw302_0; first | rwa [add_block] at this | exact this) GW308.out))) _).trans (((cell_far (p := ⟨gb308, _, none⟩) (by first | exact Nat.ne_of_lt (Nat.lt_of_lt_of_le (by have := World.block_lt_of_cell? _ _ hw302_0; first | rwa [add_block] at this | exact this) GW308.out) | (rw [add_block]; exact Nat.ne_of_lt (Nat.lt_of_lt_of_le (by have := World.block_lt_of_cell? _ _ hw302_0; first | rwa [add_block] at this | exact this) GW308.out)) | (show (Addr.add _ _).block ≠ _; rw [add_block]; exact Nat.ne_of_lt (Nat.lt_of_lt_of_le (by have := World.block_lt_of_cell? _ _ hw302_0; first | rwa [add_block] at this | exact this) GW308.out)) | (dsimp only; exact Nat.ne_of_lt (Nat.lt_of_lt_of_le (by have := World.block_lt_of_cell? _ _ hw302_0; first | rwa [add_block] at this | exact this) GW308.out))) _).trans (((cell_far (p := ⟨gb308, _, none⟩) (by first | exact Nat.ne_of_lt (Nat.lt_of_lt_of_le (by have := World.block_lt_of_cell? _ _ hw302_0; first | rwa [add_block] at this | exact this) GW308.out) | (rw [add_block]; exact Nat.ne_of_lt (Nat.lt_of_lt_of_le (by have := World.block_lt_of_cell? _ _ hw302_0; first | rwa [add_block] at this | exact this) GW308.out)) | (show (Addr.add _ _).block ≠ _; rw [add_block]; exact Nat.ne_of_lt (Nat.lt_of_lt_of_le (by have := World.block_lt_of_cell? _ _ hw302_0; first | rwa [add_block] at this | exact this) GW308.out)) | (dsimp only; exact Nat.ne_of_lt (Nat.lt_of_lt_of_le (by have := World.block_lt_of_cell? _ _ hw302_0; first | rwa [add_block] at this | exact this) GW308.out))) _).trans (((cell_far (p := ⟨gb308, _, none⟩) (by first | exact Nat.ne_of_lt (Nat.lt_of_lt_of_le (by have := World.block_lt_of_cell? _ _ hw302_0; first | rwa [add_block] at this | exact this) GW308.out) | (rw [add_block]; exact Nat.ne_of_lt (Nat.lt_of_lt_of_le (by have := World.block_lt_of_cell? _ _ hw302_0; first | rwa [add_block] at this | exact this) GW308.out)) | (show (Addr.add _ _).block ≠ _; rw [add_block]; exact Nat.ne_of_lt (Nat.lt_of_lt_of_le (by have := World.block_lt_of_cell? _ _ hw302_0; first | rwa [add_block] at this | exact this) GW308.out)) | (dsimp only; exact Nat.ne_of_lt (Nat.lt_of_lt_of_le (by have := World.block_lt_of_cell? _ _ hw302_0; first | rwa [add_block] at this | exact this) GW308.out))) _).trans (hHeld.1)))))))), ((cell_far (p := ⟨gb308, _, none⟩) (by first | exact Nat.ne_of_lt (Nat.lt_of_lt_of_le (by have := World.block_lt_of_cell? _ _ hw303_0; first | rwa [add_block] at this | exact this) GW308.out) | (rw [add_block]; exact Nat.ne_of_lt (Nat.lt_of_lt_of_le (by have := World.block_lt_of_cell? _ _ hw303_0; first | rwa [add_block] at this | exact this) GW308.out)) | (show (Addr.add _ _).block ≠ _; rw [add_block]; exact Nat.ne_of_lt (Nat.lt_of_lt_of_le (by have := World.block_lt_of_cell? _ _ hw303_0; first | rwa [add_block] at this | exact this) GW308.out)) | (dsimp only; exact Nat.ne_of_lt (Nat.lt_of_lt_of_le (by have := World.block_lt_of_cell? _ _ hw303_0; first | rwa [add_block] at this | exact this) GW308.out))) _).trans (((cell_far (p := ⟨gb308, _, none⟩) (by first | exact Nat.ne_of_lt (Nat.lt_of_lt_of_le (by have := World.block_lt_of_cell? _ _ hw303_0; first | rwa [add_block] at this | exact this) GW308.out) | (rw [add_block]; exact Nat.ne_of_lt (Nat.lt_of_lt_of_le (by have := World.block_lt_of_cell? _ _ hw303_0; first | rwa [add_block] at this | exact this) GW308.out)) | (show (Addr.add _ _).block ≠ _; rw [add_block]; exact Nat.ne_of_lt (Nat.lt_of_lt_of_le (by have := World.block_lt_of_cell? _ _ hw303_0; first | rwa [add_block] at this | exact this) GW308.out)) | (dsimp only; exact Nat.ne_of_lt (Nat.lt_of_lt_of_le (by have := World.block_lt_of_cell? _ _ hw303_0; first | rwa [add_block] at this | exact this) GW308.out))) _).trans (((cell_far (p := ⟨gb308, _, none⟩) (by first | exact Nat.ne_of_lt (Nat.lt_of_lt_of_le (by have := World.block_lt_of_cell? _ _ hw303_0; first | rwa [add_block] at this | exact this) GW308.out) | (rw [add_block]; exact Nat.ne_of_lt (Nat.lt_of_lt_of_le (by have := World.block_lt_of_cell? _ _ hw303_0; first | rwa [add_block] at this | exact this) GW308.out)) | (show (Addr.add _ _).block ≠ _; rw [add_block]; exact Nat.ne_of_lt (Nat.lt_of_lt_of_le (by have := World.block_lt_of_cell? _ _ hw303_0; first | rwa [add_block] at this | exact this) GW308.out)) | (dsimp only; exact Nat.ne_of_lt (Nat.lt_of_lt_of_le (by have := World.block_lt_of_cell? _ _ hw303_0; first | rwa [add_block] at this | exact this) GW308.out))) _).trans (((cell_far (p := ⟨gb308, _, none⟩) (by first | exact Nat.ne_of_lt (Nat.lt_of_lt_of_le (by have := World.block_lt_of_cell? _ _ hw303_0; first | rwa [add_block] at this | exact this) GW308.out) | (rw [add_block]; exact Nat.ne_of_lt (Nat.lt_of_lt_of_le (by have := World.block_lt_of_cell? _ _ hw303_0; first | rwa [add_block] at this | exact this) GW308.out)) | (show (Addr.add _ _).block ≠ _; rw [add_block]; exact Nat.ne_of_lt (Nat.lt_of_lt_of_le (by have := World.block_lt_of_cell? _ _ hw303_0; first | rwa [add_block] at this | exact this) GW308.out)) | (dsimp only; exact Nat.ne_of_lt (Nat.lt_of_lt_of_le (by have := World.block_lt_of_cell? _ _ hw303_0; first | rwa [add_block] at this | exact this) GW308.out))) _).trans (hHeld.2))))))))⟩ (fun hHeld => ?_)
                 clear hK K
                 refine done_ (done_of HT_.out (by kernel_rfl)) ?_
                 obtain ⟨i040, hi040, _, hsz40, _⟩ := info_parts info5
                 obtain ⟨A40, hcut40, hA40, hC40⟩ := print_mid_of (P := Try.prog) (Value.int .u8) 0 22 5 .i64 .i64 Try.underlying22 hi040 hsz40 (some ad298) c0 l0 1 3 (by omega) (by first | omega | exact of_decide_eq_true as_) (of_decide_eq_true as_) HC0.out
                 have HR309 := Aside0.mk (Kd.C_of_reads (h1 := fun _ => rfl) (hA40 _ (Kd.reads_of_C HR0.out)))
                 have HC309 := Aside0.mk hC40
                 clear hA40 hC40 hi040 hsz40
                ·try go_wp2_with (first | ((with_reducible refine gate_callee (f := 183) rfl ?_); refine goesL_ (some 53) rfl rfl Try.func183 (by kernel_rfl) rfl #[.slice A40 ((l0.take 3).drop 1).length (c0 - 1)] rfl (by (try simp only [List.map_toArray, List.map_cons, List.map_nil]); first | done | (rw [show ((l0.take 3).drop 1).length = (3 - 1) from (by rw [List.length_drop, List.length_take]; have h_ : (3 : Int) ≤ (l0.length : Int) := of_decide_eq_true as_; omega)] <;> rfl) | rfl | (simp only [List.length_drop, List.length_take]; rfl)) ?_; (with_reducible refine (impl_numberOf.calls kj1 _ _ ((l0.take 3).drop 1) t310 _ ?side1 ?side2 A20.out).mono ?_); (case side1 => exact Kd.C_below HR309.out bb_); (case side2 => exact HC309.out); rintro e w' ⟨rfl, ⟨nd, rfl⟩⟩; refine ⟨_, rfl, ?_⟩) | ((with_reducible refine gate_callee (f := 138) rfl ?_); refine goesL_ (some 55) rfl rfl Try.func138 (by kernel_rfl) rfl #[.slice (some ad302) dl27_.length (c0 - 3)] rfl (by (try simp only [List.map_toArray, List.map_cons, List.map_nil]); first | done | (rw [show dl27_.length = ((wrap64 (3 + (wrap64 (rd l0 0)))).toNat - 3) from (by rw [List.length_drop, List.length_take]; have h_ : ((wrap64 (3 + (wrap64 (rd l0 0)))) : Int) ≤ (l0.length : Int) := of_decide_eq_true as_; omega)] <;> rfl) | rfl | (simp only [List.length_drop, List.length_take]; rfl)) ?_; (with_reducible refine (impl_SumBytes.calls kj1 _ _ dl27_ t311 _ ?side1 ?side2 A21.out).mono ?_); (case side1 => exact Kd.C_below HR299.out bb_); (case side2 => exact HC299.out); rintro e w' ⟨rfl, ⟨nd, rfl⟩⟩; refine ⟨_, rfl, ?_⟩; have p312 : 0 ≤ (4 : Int) := (by omega); have q312 : 4 < (dl27_.length : Int) := of_decide_eq_true as_; obtain ⟨ad312, e312, hx312_0⟩ := Kd.at_int HR299.out 4 p312 q312; obtain rfl : ad302 = ad312 := (by injection e312); (try simp only [show (4 : Int).toNat = 4 from rfl, Nat.reduceMul, Nat.reduceEqDiff, Go.Addr.add, ↓reduceIte] at hx312_0); have qi312 : (4 < dl27_.length) = True := eq_true (by omega); (try rw [show ((4 : Int)).toNat = 4 from rfl] at hx312_0); have hn312_0 : ad302.block ≠ gb308 := Nat.ne_of_lt (Nat.lt_of_lt_of_le (by have := World.block_lt_of_cell? _ _ hx312_0; first | rwa [add_block] at this | exact this) GW308.out); have hn312_1 : ad302.block ≠ gb308 := Nat.ne_of_lt (Nat.lt_of_lt_of_le (by have := World.block_lt_of_cell? _ _ hx312_0; first | rwa [add_block] at this | exact this) GW308.out); have hn312_2 : ad302.block ≠ gb308 := Nat.ne_of_lt (Nat.lt_of_lt_of_le (by have := World.block_lt_of_cell? _ _ hx312_0; first | rwa [add_block] at this | exact this) GW308.out); have hn312_3 : ad302.block ≠ gb308 := Nat.ne_of_lt (Nat.lt_of_lt_of_le (by have := World.block_lt_of_cell? _ _ hx312_0; first | rwa [add_block] at this | exact this) GW308.out); replace hx312_0 := (HB.out.cell (World.block_lt_of_cell? w _ hx312_0)).trans hx312_0; replace hx312_0 := (cell_far (p := ⟨gb308, 0, none⟩) (by first | (rw [add_block]; exact hn312_0) | (show (Addr.add _ _).block ≠ _; rw [add_block]; exact hn312_0) | exact hn312_0) (.int .i64 t301)).trans hx312_0; replace hx312_0 := (cell_far (p := ⟨gb308, 1, none⟩) (by first | (rw [add_block]; exact hn312_1) | (show (Addr.add _ _).block ≠ _; rw [add_block]; exact hn312_1) | exact hn312_1) (.int .i64 (wrap64 (rd dl27_ 2)))).trans hx312_0; replace hx312_0 := (cell_far (p := ⟨gb308, 2, none⟩) (by first | (rw [add_block]; exact hn312_2) | (show (Addr.add _ _).block ≠ _; rw [add_block]; exact hn312_2) | exact hn312_2) (.int .i64 (wrap64 (rd dl27_ 3)))).trans hx312_0; replace hx312_0 := (cell_far (p := ⟨gb308, 3, none⟩) (by first | (rw [add_block]; exact hn312_3) | (show (Addr.add _ _).block ≠ _; rw [add_block]; exact hn312_3) | exact hn312_3) (.slice Ao35 t305.length co35)).trans hx312_0; clear hn312_0; clear hn312_1; clear hn312_2; clear hn312_3; replace p312 := eq_true p312; replace q312 := eq_true q312; have hnb41 := NB308_295.out; have hnc41 := NB295_308.out; obtain ⟨hcz42_0, hcz42_1, hcz42_2, hcz42_3, hfz42_0, hfz42_1, hfz42_2, hfz42_3⟩ := cf4_ BK308) | (go_at_call 50; (with_reducible refine (impl_EntryFault.calls kj1 t301 (wrap64 (rd dl27_ 2)) (wrap64 (rd dl27_ 3)) _ _ t305 t313 _ ?side1 ?side2 A25.out).mono ?_); (case side1 => refine (Kd.R_reads' (e := 5) (base := w.heap.size) (ok := fun k_ => True) (n := t305.length) (c := co35) ?_).2.2; exact (by (with_reducible repeat (first | apply Kd.R_alloc | apply Kd.R_drewN | apply Kd.R_drew)); exact (Kd.R_mono (Kd.R_far (p := ⟨gb308, 3, none⟩) (Kd.R_far (p := ⟨gb308, 2, none⟩) (Kd.R_far (p := ⟨gb308, 1, none⟩) (Kd.R_far (p := ⟨gb308, 0, none⟩) (Kd.R_types HO307.out BK308.out (by decide)) (fun _ hk => hk.2) (.int .i64 t301)) (fun _ hk => hk.2) (.int .i64 (wrap64 (rd dl27_ 2)))) (fun _ hk => hk.2) (.int .i64 (wrap64 (rd dl27_ 3)))) (fun _ hk => hk.2) (.slice Ao35 t305.length co35)) (fun _ h_ => h_.1)))); (case side2 => exact (Kd.R_reads' HO307.out).2.1); rintro e w43 ⟨rfl, hb⟩; replace HO307 := Aside0.mk (Kd.R_below (by (with_reducible repeat (first | apply Kd.R_alloc | apply Kd.R_drewN | apply Kd.R_drew)); exact (Kd.R_mono (Kd.R_far (p := ⟨gb308, 3, none⟩) (Kd.R_far (p := ⟨gb308, 2, none⟩) (Kd.R_far (p := ⟨gb308, 1, none⟩) (Kd.R_far (p := ⟨gb308, 0, none⟩) (Kd.R_types HO307.out BK308.out (by decide)) (fun _ hk => hk.2) (.int .i64 t301)) (fun _ hk => hk.2) (.int .i64 (wrap64 (rd dl27_ 2)))) (fun _ hk => hk.2) (.int .i64 (wrap64 (rd dl27_ 3)))) (fun _ hk => hk.2) (.slice Ao35 t305.length co35)) (fun _ h_ => h_.1))) hb); replace BK295 := Aside0.mk (blk_below (kb_ BK295) hb); replace BK308 := Aside0.mk (blk_below (g := gb308) (o := .cells #[.int .i64 t301, .int .i64 (wrap64 (rd dl27_ 2)), .int .i64 (wrap64 (rd dl27_ 3)), .slice Ao35 t305.length co35] 61 (0, 0)) (by (with_reducible repeat (first | refine blk_drewN ?_ _ | refine blk_drew ?_ | refine blk_alloc ?_ _)); refine blk_put (cs := #[.int .i64 t301, .int .i64 (wrap64 (rd dl27_ 2)), .int .i64 (wrap64 (rd dl27_ 3)), .slice none 0 0]) ?_ 3 _ rfl; (with_reducible repeat (first | refine blk_drewN ?_ _ | refine blk_drew ?_ | refine blk_alloc ?_ _)); refine blk_put (cs := #[.int .i64 t301, .int .i64 (wrap64 (rd dl27_ 2)), .int .i64 0, .slice none 0 0]) ?_ 2 _ rfl; (with_reducible repeat (first | refine blk_drewN ?_ _ | refine blk_drew ?_ | refine blk_alloc ?_ _)); refine blk_put (cs := #[.int .i64 t301, .int .i64 0, .int .i64 0, .slice none 0 0]) ?_ 1 _ rfl; (with_reducible repeat (first | refine blk_drewN ?_ _ | refine blk_drew ?_ | refine blk_alloc ?_ _)); refine blk_put (cs := #[.int .i64 0, .int .i64 0, .int .i64 0, .slice none 0 0]) ?_ 0 _ rfl; (with_reducible repeat (first | refine blk_drewN ?_ _ | refine blk_drew ?_ | refine blk_alloc ?_ _)); exact BK308.out) hb); replace HB := Aside0.mk (below_step bb_ hb); (try clear hb); (try clear hb2); (try clear hk); (try clear hi); obtain ⟨hcz44_0, hcz44_1, hcz44_2, hcz44_3, hfz44_0, hfz44_1, hfz44_2, hfz44_3⟩ := cf4_ BK308; obtain ⟨hcz45_0, hcz45_1, hcz45_2, hcz45_3, hfz45_0, hfz45_1, hfz45_2, hfz45_3⟩ := cf4_ BK295))
                 refine bodyPost_ret (results_ct rfl _ _ gb295 61 #[.int .i64 t301, .int .i64 (wrap64 (rd dl27_ 2)), .int .i64 (wrap64 (rd dl27_ 3)), .slice Ao35 t305.length co35] (0, 0) _ rfl (by (with_reducible repeat (first | refine blk_drewN ?_ _ | refine blk_drew ?_ | refine blk_alloc ?_ _)); refine blk_put (cs := #[.int .i64 t301, .int .i64 (wrap64 (rd dl27_ 2)), .int .i64 (wrap64 (rd dl27_ 3)), .slice none 0 0]) ?_ 3 _ rfl; (with_reducible repeat (first | refine blk_drewN ?_ _ | refine blk_drew ?_ | refine blk_alloc ?_ _)); refine blk_put (cs := #[.int .i64 t301, .int .i64 (wrap64 (rd dl27_ 2)), .int .i64 0, .slice none 0 0]) ?_ 2 _ rfl; (with_reducible repeat (first | refine blk_drewN ?_ _ | refine blk_drew ?_ | refine blk_alloc ?_ _)); refine blk_put (cs := #[.int .i64 t301, .int .i64 0, .int .i64 0, .slice none 0 0]) ?_ 1 _ rfl; (with_reducible repeat (first | refine blk_drewN ?_ _ | refine blk_drew ?_ | refine blk_alloc ?_ _)); refine blk_put (cs := #[.int .i64 0, .int .i64 0, .int .i64 0, .slice none 0 0]) ?_ 0 _ rfl; (with_reducible repeat (first | refine blk_drewN ?_ _ | refine blk_drew ?_ | refine blk_alloc ?_ _)); exact BK295.out) Try.underlying61 rfl (by kernel_rfl)) rfl ?_
                 exact ⟨_, er_, by (with_reducible repeat (first | apply Kd.R_alloc | apply Kd.R_drewN | apply Kd.R_drew)); exact Kd.R_mono (Kd.R_far (p := ⟨gb295, 3, none⟩) (Kd.R_far (p := ⟨gb295, 2, none⟩) (Kd.R_far (p := ⟨gb295, 1, none⟩) (Kd.R_far (p := ⟨gb295, 0, none⟩) (Kd.R_types HO307.out BK295.out (by decide)) (fun _ hk => hk.2) (.int .i64 t301)) (fun _ hk => hk.2) (.int .i64 (wrap64 (rd dl27_ 2)))) (fun _ hk => hk.2) (.int .i64 (wrap64 (rd dl27_ 3)))) (fun _ hk => hk.2) (.slice Ao35 t305.length co35)) (fun _ hk => trivial), bb_⟩
                ·try go_wp2_with (first | ((with_reducible refine gate_callee (f := 183) rfl ?_); refine goesL_ (some 53) rfl rfl Try.func183 (by kernel_rfl) rfl #[.slice A40 ((l0.take 3).drop 1).length (c0 - 1)] rfl (by (try simp only [List.map_toArray, List.map_cons, List.map_nil]); first | done | (rw [show ((l0.take 3).drop 1).length = (3 - 1) from (by rw [List.length_drop, List.length_take]; have h_ : (3 : Int) ≤ (l0.length : Int) := of_decide_eq_true as_; omega)] <;> rfl) | rfl | (simp only [List.length_drop, List.length_take]; rfl)) ?_; (with_reducible refine (impl_numberOf.calls kj1 _ _ ((l0.take 3).drop 1) t310 _ ?side1 ?side2 A20.out).mono ?_); (case side1 => exact Kd.C_below HR309.out bb_); (case side2 => exact HC309.out); rintro e w' ⟨rfl, ⟨nd, rfl⟩⟩; refine ⟨_, rfl, ?_⟩) | ((with_reducible refine gate_callee (f := 138) rfl ?_); refine goesL_ (some 55) rfl rfl Try.func138 (by kernel_rfl) rfl #[.slice (some ad302) dl27_.length (c0 - 3)] rfl (by (try simp only [List.map_toArray, List.map_cons, List.map_nil]); first | done | (rw [show dl27_.length = ((wrap64 (3 + (wrap64 (rd l0 0)))).toNat - 3) from (by rw [List.length_drop, List.length_take]; have h_ : ((wrap64 (3 + (wrap64 (rd l0 0)))) : Int) ≤ (l0.length : Int) := of_decide_eq_true as_; omega)] <;> rfl) | rfl | (simp only [List.length_drop, List.length_take]; rfl)) ?_; (with_reducible refine (impl_SumBytes.calls kj1 _ _ dl27_ t311 _ ?side1 ?side2 A21.out).mono ?_); (case side1 => exact Kd.C_below HR299.out bb_); (case side2 => exact HC299.out); rintro e w' ⟨rfl, ⟨nd, rfl⟩⟩; refine ⟨_, rfl, ?_⟩; have p312 : 0 ≤ (4 : Int) := (by omega); have q312 : 4 < (dl27_.length : Int) := of_decide_eq_true as_; obtain ⟨ad312, e312, hx312_0⟩ := Kd.at_int HR299.out 4 p312 q312; obtain rfl : ad302 = ad312 := (by injection e312); (try simp only [show (4 : Int).toNat = 4 from rfl, Nat.reduceMul, Nat.reduceEqDiff, Go.Addr.add, ↓reduceIte] at hx312_0); have qi312 : (4 < dl27_.length) = True := eq_true (by omega); (try rw [show ((4 : Int)).toNat = 4 from rfl] at hx312_0); have hn312_0 : ad302.block ≠ gb308 := Nat.ne_of_lt (Nat.lt_of_lt_of_le (by have := World.block_lt_of_cell? _ _ hx312_0; first | rwa [add_block] at this | exact this) GW308.out); have hn312_1 : ad302.block ≠ gb308 := Nat.ne_of_lt (Nat.lt_of_lt_of_le (by have := World.block_lt_of_cell? _ _ hx312_0; first | rwa [add_block] at this | exact this) GW308.out); have hn312_2 : ad302.block ≠ gb308 := Nat.ne_of_lt (Nat.lt_of_lt_of_le (by have := World.block_lt_of_cell? _ _ hx312_0; first | rwa [add_block] at this | exact this) GW308.out); have hn312_3 : ad302.block ≠ gb308 := Nat.ne_of_lt (Nat.lt_of_lt_of_le (by have := World.block_lt_of_cell? _ _ hx312_0; first | rwa [add_block] at this | exact this) GW308.out); replace hx312_0 := (HB.out.cell (World.block_lt_of_cell? w _ hx312_0)).trans hx312_0; replace hx312_0 := (cell_far (p := ⟨gb308, 0, none⟩) (by first | (rw [add_block]; exact hn312_0) | (show (Addr.add _ _).block ≠ _; rw [add_block]; exact hn312_0) | exact hn312_0) (.int .i64 t301)).trans hx312_0; replace hx312_0 := (cell_far (p := ⟨gb308, 1, none⟩) (by first | (rw [add_block]; exact hn312_1) | (show (Addr.add _ _).block ≠ _; rw [add_block]; exact hn312_1) | exact hn312_1) (.int .i64 (wrap64 (rd dl27_ 2)))).trans hx312_0; replace hx312_0 := (cell_far (p := ⟨gb308, 2, none⟩) (by first | (rw [add_block]; exact hn312_2) | (show (Addr.add _ _).block ≠ _; rw [add_block]; exact hn312_2) | exact hn312_2) (.int .i64 (wrap64 (rd dl27_ 3)))).trans hx312_0; replace hx312_0 := (cell_far (p := ⟨gb308, 3, none⟩) (by first | (rw [add_block]; exact hn312_3) | (show (Addr.add _ _).block ≠ _; rw [add_block]; exact hn312_3) | exact hn312_3) (.slice Ao35 t305.length co35)).trans hx312_0; clear hn312_0; clear hn312_1; clear hn312_2; clear hn312_3; replace p312 := eq_true p312; replace q312 := eq_true q312; have hnb60 := NB308_295.out; have hnc60 := NB295_308.out; obtain ⟨hcz61_0, hcz61_1, hcz61_2, hcz61_3, hfz61_0, hfz61_1, hfz61_2, hfz61_3⟩ := cf4_ BK308) | (go_at_call 50; (with_reducible refine (impl_EntryFault.calls kj1 t301 (wrap64 (rd dl27_ 2)) (wrap64 (rd dl27_ 3)) _ _ t305 t313 _ ?side1 ?side2 A25.out).mono ?_); (case side1 => refine (Kd.R_reads' (e := 5) (base := w.heap.size) (ok := fun k_ => True) (n := t305.length) (c := co35) ?_).2.2; exact (by (with_reducible repeat (first | apply Kd.R_alloc | apply Kd.R_drewN | apply Kd.R_drew)); exact (Kd.R_mono (Kd.R_far (p := ⟨gb308, 3, none⟩) (Kd.R_far (p := ⟨gb308, 2, none⟩) (Kd.R_far (p := ⟨gb308, 1, none⟩) (Kd.R_far (p := ⟨gb308, 0, none⟩) (Kd.R_types HO307.out BK308.out (by decide)) (fun _ hk => hk.2) (.int .i64 t301)) (fun _ hk => hk.2) (.int .i64 (wrap64 (rd dl27_ 2)))) (fun _ hk => hk.2) (.int .i64 (wrap64 (rd dl27_ 3)))) (fun _ hk => hk.2) (.slice Ao35 t305.length co35)) (fun _ h_ => h_.1)))); (case side2 => exact (Kd.R_reads' HO307.out).2.1); rintro e w62 ⟨rfl, hb⟩; replace HO307 := Aside0.mk (Kd.R_below (by (with_reducible repeat (first | apply Kd.R_alloc | apply Kd.R_drewN | apply Kd.R_drew)); exact (Kd.R_mono (Kd.R_far (p := ⟨gb308, 3, none⟩) (Kd.R_far (p := ⟨gb308, 2, none⟩) (Kd.R_far (p := ⟨gb308, 1, none⟩) (Kd.R_far (p := ⟨gb308, 0, none⟩) (Kd.R_types HO307.out BK308.out (by decide)) (fun _ hk => hk.2) (.int .i64 t301)) (fun _ hk => hk.2) (.int .i64 (wrap64 (rd dl27_ 2)))) (fun _ hk => hk.2) (.int .i64 (wrap64 (rd dl27_ 3)))) (fun _ hk => hk.2) (.slice Ao35 t305.length co35)) (fun _ h_ => h_.1))) hb); replace BK295 := Aside0.mk (blk_below (kb_ BK295) hb); replace BK308 := Aside0.mk (blk_below (g := gb308) (o := .cells #[.int .i64 t301, .int .i64 (wrap64 (rd dl27_ 2)), .int .i64 (wrap64 (rd dl27_ 3)), .slice Ao35 t305.length co35] 61 (0, 0)) (by (with_reducible repeat (first | refine blk_drewN ?_ _ | refine blk_drew ?_ | refine blk_alloc ?_ _)); refine blk_put (cs := #[.int .i64 t301, .int .i64 (wrap64 (rd dl27_ 2)), .int .i64 (wrap64 (rd dl27_ 3)), .slice none 0 0]) ?_ 3 _ rfl; (with_reducible repeat (first | refine blk_drewN ?_ _ | refine blk_drew ?_ | refine blk_alloc ?_ _)); refine blk_put (cs := #[.int .i64 t301, .int .i64 (wrap64 (rd dl27_ 2)), .int .i64 0, .slice none 0 0]) ?_ 2 _ rfl; (with_reducible repeat (first | refine blk_drewN ?_ _ | refine blk_drew ?_ | refine blk_alloc ?_ _)); refine blk_put (cs := #[.int .i64 t301, .int .i64 0, .int .i64 0, .slice none 0 0]) ?_ 1 _ rfl; (with_reducible repeat (first | refine blk_drewN ?_ _ | refine blk_drew ?_ | refine blk_alloc ?_ _)); refine blk_put (cs := #[.int .i64 0, .int .i64 0, .int .i64 0, .slice none 0 0]) ?_ 0 _ rfl; (with_reducible repeat (first | refine blk_drewN ?_ _ | refine blk_drew ?_ | refine blk_alloc ?_ _)); exact BK308.out) hb); replace HB := Aside0.mk (below_step bb_ hb); (try clear hb); (try clear hb2); (try clear hk); (try clear hi); obtain ⟨hcz63_0, hcz63_1, hcz63_2, hcz63_3, hfz63_0, hfz63_1, hfz63_2, hfz63_3⟩ := cf4_ BK295))
                 refine bodyPost_ret (results_ct rfl _ _ gb295 61 #[.int .i64 0, .int .i64 0, .int .i64 0, .slice none 0 0] (0, 0) _ rfl (by (with_reducible repeat (first | refine blk_drewN ?_ _ | refine blk_drew ?_ | refine blk_alloc ?_ _)); refine blk_put (cs := #[.int .i64 0, .int .i64 0, .int .i64 0, .slice none 0 0]) ?_ 3 _ rfl; (with_reducible repeat (first | refine blk_drewN ?_ _ | refine blk_drew ?_ | refine blk_alloc ?_ _)); refine blk_put (cs := #[.int .i64 0, .int .i64 0, .int .i64 0, .slice none 0 0]) ?_ 2 _ rfl; (with_reducible repeat (first | refine blk_drewN ?_ _ | refine blk_drew ?_ | refine blk_alloc ?_ _)); refine blk_put (cs := #[.int .i64 0, .int .i64 0, .int .i64 0, .slice none 0 0]) ?_ 1 _ rfl; (with_reducible repeat (first | refine blk_drewN ?_ _ | refine blk_drew ?_ | refine blk_alloc ?_ _)); refine blk_put (cs := #[.int .i64 0, .int .i64 0, .int .i64 0, .slice none 0 0]) ?_ 0 _ rfl; (with_reducible repeat (first | refine blk_drewN ?_ _ | refine blk_drew ?_ | refine blk_alloc ?_ _)); exact BK295.out) Try.underlying61 rfl (by kernel_rfl)) rfl ?_
                 exact ⟨_, er_, by first | exact Kd.R_nil _ _ _ _ _ | exact Kd.N_nil _ _ _ _ _ | exact Kd.V_nil _ _ _ _ _ | exact Kd.Q_nil _ _ _ _ _ | exact Kd.S_nil _ _ _ _ _, bb_⟩
               ·rw [if_neg c24] at H
                have c24b0 : ((wrap64 (rd ((l0.take ((wrap64 (3 + (wrap64 (rd l0 0)))) : Int).toNat).drop 3) 4)) == (wrap64 ((((l0.take ((wrap64 (3 + (wrap64 (rd l0 0)))) : Int).toNat).drop 3).length : Int) - 5))) = false := beq_eq_false_iff_ne.mpr c24
                (try (have c24b0d := c24b0; simp only [List.length_drop, List.length_take] at c24b0d))
                have c24b1 : ((wrap64 (rd ((l0.take ((wrap64 (3 + (wrap64 (rd l0 0)))) : Int).toNat).drop 3) 4)) != (wrap64 ((((l0.take ((wrap64 (3 + (wrap64 (rd l0 0)))) : Int).toNat).drop 3).length : Int) - 5))) = true := bne_iff_ne.mpr c24
                (try (have c24b1d := c24b1; simp only [List.length_drop, List.length_take] at c24b1d))
                simp only [Option.some.injEq, Prod.mk.injEq] at H
                obtain ⟨rfl, rfl, rfl, rfl, rfl⟩ := H
                have p298 : 0 ≤ (0 : Int) := (by omega)
                have q298 : 0 < (l0.length : Int) := of_decide_eq_true as_
                obtain ⟨ad298, e298, hx298_0⟩ := Kd.at_int HR0.out 0 p298 q298
                cases e298
                have qi298 : (0 < l0.length) = True := eq_true (by omega)
                (try rw [show ((0 : Int)).toNat = 0 from rfl] at hx298_0)
                (try rw [Addr.add_zero'] at hx298_0)
                replace hx298_0 := (HB.out.cell (World.block_lt_of_cell? w _ hx298_0)).trans hx298_0
                replace p298 := eq_true p298
                replace q298 := eq_true q298
                obtain ⟨i064, hi064, _, hsz64, _⟩ := info_parts info5
                obtain ⟨A64, hcut64, hA64, hC64⟩ := print_mid_of (P := Try.prog) (Value.int .u8) 0 22 5 .i64 .i64 Try.underlying22 hi064 hsz64 (some ad298) c0 l0 3 (wrap64 (3 + (wrap64 (rd l0 0)))) (by omega) (by first | omega | exact of_decide_eq_true as_) (of_decide_eq_true as_) HC0.out
                have HR299 := Aside0.mk (Kd.C_of_reads (h1 := fun _ => rfl) (hA64 _ (Kd.reads_of_C HR0.out)))
                have HC299 := Aside0.mk hC64
                clear hA64 hC64 hi064 hsz64
                (try simp only [show (3 : Int).toNat = 3 from rfl] at hcut64 HR299 HC299)
                generalize hdl64_ : ((l0.take ((wrap64 (3 + (wrap64 (rd l0 0)))) : Int).toNat).drop 3) = dl64_ at *
                try go_wp2
                have n0_ := Aside0.mk (blk_drew BK295.out)
                have n1_ := Aside0.mk (below_drew1 HB.out)
                clear BK295
                clear HB
                have BK295 := n0_
                have HB := n1_
                clear n0_ n1_
                obtain ⟨i066, hi066, _, hsz66, _⟩ := info_parts info5
                obtain ⟨hcut66, hA66, hC66⟩ := print_take_of (P := Try.prog) (Value.int .u8) 0 22 5 .i64 Try.underlying22 hi066 hsz66 A64 (c0 - 3) dl64_ 2 (by omega) (of_decide_eq_true as_) HC299.out
                have HR300 := Aside0.mk (Kd.C_of_reads (h1 := fun _ => rfl) (hA66 _ (Kd.reads_of_C HR299.out)))
                have HC300 := Aside0.mk hC66
                clear hA66 hC66 hi066 hsz66
                have p302 : 0 ≤ (2 : Int) := (by omega)
                have q302 : 2 < (dl64_.length : Int) := of_decide_eq_true as_
                obtain ⟨ad302, e302, hx302_0⟩ := Kd.at_int HR299.out 2 p302 q302
                have hw302_0 := hx302_0
                (try rw [show ((2 : Int)).toNat = 2 from rfl] at hw302_0)
                (try rw [show 2 * 1 = 2 from rfl] at hw302_0)
                (try simp only [Nat.reduceMul, Nat.reduceEqDiff, Go.Addr.add, ↓reduceIte] at hw302_0)
                cases e302
                (try simp only [show (2 : Int).toNat = 2 from rfl, Nat.reduceMul, Nat.reduceEqDiff, Go.Addr.add, ↓reduceIte] at hx302_0)
                have qi302 : (2 < dl64_.length) = True := eq_true (by omega)
                (try rw [show ((2 : Int)).toNat = 2 from rfl] at hx302_0)
                replace hx302_0 := (HB.out.cell (World.block_lt_of_cell? w _ hx302_0)).trans hx302_0
                replace p302 := eq_true p302
                replace q302 := eq_true q302
                have p303 : 0 ≤ (3 : Int) := (by omega)
                have q303 : 3 < (dl64_.length : Int) := of_decide_eq_true as_
                obtain ⟨ad303, e303, hx303_0⟩ := Kd.at_int HR299.out 3 p303 q303
                have hw303_0 := hx303_0
                (try rw [show ((3 : Int)).toNat = 3 from rfl] at hw303_0)
                (try rw [show 3 * 1 = 3 from rfl] at hw303_0)
                (try simp only [Nat.reduceMul, Nat.reduceEqDiff, Go.Addr.add, ↓reduceIte] at hw303_0)
                obtain rfl : ad302 = ad303 := (by injection e303)
                (try simp only [show (3 : Int).toNat = 3 from rfl, Nat.reduceMul, Nat.reduceEqDiff, Go.Addr.add, ↓reduceIte] at hx303_0)
                have qi303 : (3 < dl64_.length) = True := eq_true (by omega)
                (try rw [show ((3 : Int)).toNat = 3 from rfl] at hx303_0)
                replace hx303_0 := (HB.out.cell (World.block_lt_of_cell? w _ hx303_0)).trans hx303_0
                replace p303 := eq_true p303
                replace q303 := eq_true q303
                obtain ⟨i067, hi067, _, hsz67, _⟩ := info_parts info5
                obtain ⟨A67, hcut67, hA67, hC67⟩ := print_drop_of (P := Try.prog) (Value.int .u8) 0 22 5 .i64 Try.underlying22 hi067 hsz67 (some ad302) (c0 - 3) dl64_ 5 (by omega) (of_decide_eq_true as_) HC299.out
                have HR304 := Aside0.mk (Kd.C_of_reads (h1 := fun _ => rfl) (hA67 _ (Kd.reads_of_C HR299.out)))
                have HC304 := Aside0.mk hC67
                clear hA67 hC67 hi067 hsz67
                (try simp only [show (5 : Int).toNat = 5 from rfl] at hcut67 HR304 HC304)
                generalize hdl67_ : (dl64_.drop 5) = dl67_ at *
                refine start_ (n := 18) (S := fun w' => w'.cell? ⟨ad302.block, ad302.off + 2, none⟩ = some (.int .u8 (rd dl64_ 2)) ∧ w'.cell? ⟨ad302.block, ad302.off + 3, none⟩ = some (.int .u8 (rd dl64_ 3))) (ds := []) #[false, false, false, false, false, false, false, false, false, false, false, false, false, false, false, false, false, false] (by kernel_rfl) rfl rfl ⟨((HB.out.cell (World.block_lt_of_cell? w _ hw302_0)).trans hw302_0), ((HB.out.cell (World.block_lt_of_cell? w _ hw303_0)).trans hw303_0)⟩ (fun hHeld => ?_); refine with_tabW impl_nextEntry.tab5 impl_nextEntry.bits5 (fun HT_ HW_ => ?_)
                generalize wc.drew = w65 at BK295 HB HR300 HR304 hx302_0 hx303_0 hHeld ⊢
                refine pure_ (i := 0) (N := some 35) (v := ?_) (a' := ?_) #[true, false, false, false, false, false, false, false, false, false, false, false, false, false, false, false, false, false] rfl rfl (any_of HT_.out (by kernel_rfl)) (fun _ _ _ h => h) (Or.inl ⟨by rfl, ?_⟩) ?_ ?_
                rotate_left
                ·intro w'
                 go_simp
                 with_reducible rfl
                rotate_left
                ·simp only [Act.put, List.setIfInBounds_toArray, List.set_cons_zero, List.set_cons_succ, i64_w, i32_w]
                 rfl
                refine pure_ (i := 1) (N := some 36) (v := ?_) (a' := ?_) #[true, true, false, false, false, false, false, false, false, false, false, false, false, false, false, false, false, false] rfl rfl (any_of HT_.out (by kernel_rfl)) (fun _ _ _ h => h) (Or.inl ⟨by rfl, ?_⟩) ?_ ?_
                rotate_left
                ·intro w'
                 go_simp
                 with_reducible rfl
                rotate_left
                ·simp only [Act.put, List.setIfInBounds_toArray, List.set_cons_zero, List.set_cons_succ, i64_w, i32_w]
                 rfl
                refine pure_ (i := 3) (N := some 38) (v := ?_) (a' := ?_) #[true, true, false, true, false, false, false, false, false, false, false, false, false, false, false, false, false, false] rfl rfl (any_of HT_.out (by kernel_rfl)) (fun _ _ _ h => h) (Or.inl ⟨by rfl, ?_⟩) ?_ ?_
                rotate_left
                ·intro w'
                 go_simp
                 with_reducible rfl
                rotate_left
                ·simp only [Act.put, List.setIfInBounds_toArray, List.set_cons_zero, List.set_cons_succ, i64_w, i32_w]
                 rfl
                refine pure_ (i := 4) (N := some 39) (v := ?_) (a' := ?_) #[true, true, false, true, true, false, false, false, false, false, false, false, false, false, false, false, false, false] rfl rfl (any_of HT_.out (by kernel_rfl)) (fun _ _ _ h => h) (Or.inl ⟨by rfl, ?_⟩) ?_ ?_
                rotate_left
                ·intro w'
                 go_simp
                 with_reducible rfl
                rotate_left
                ·simp only [Act.put, List.setIfInBounds_toArray, List.set_cons_zero, List.set_cons_succ, i64_w, i32_w]
                 rfl
                refine pure_ (i := 7) (N := some 42) (v := ?_) (a' := ?_) #[true, true, false, true, true, false, false, true, false, false, false, false, false, false, false, false, false, false] rfl rfl (any_of HT_.out (by kernel_rfl)) (fun _ _ _ h => h) (Or.inl ⟨by rfl, ?_⟩) ?_ ?_
                rotate_left
                ·intro w'
                 go_simp
                 with_reducible rfl
                rotate_left
                ·simp only [Act.put, List.setIfInBounds_toArray, List.set_cons_zero, List.set_cons_succ, i64_w, i32_w]
                 rfl
                refine pure_ (i := 8) (N := some 43) (v := ?_) (a' := ?_) #[true, true, false, true, true, false, false, true, true, false, false, false, false, false, false, false, false, false] rfl rfl (any_of HT_.out (by kernel_rfl)) (fun _ _ _ h => h) (Or.inl ⟨by rfl, ?_⟩) ?_ ?_
                rotate_left
                ·intro w'
                 go_simp
                 with_reducible rfl
                rotate_left
                ·simp only [Act.put, List.setIfInBounds_toArray, List.set_cons_zero, List.set_cons_succ, i64_w, i32_w]
                 rfl
                refine pure_ (i := 11) (N := some 46) (v := ?_) (a' := ?_) #[true, true, false, true, true, false, false, true, true, false, false, true, false, false, false, false, false, false] rfl rfl (any_of HT_.out (by kernel_rfl)) (fun _ _ _ h => h) (Or.inl ⟨by rfl, ?_⟩) ?_ ?_
                rotate_left
                ·intro w'
                 go_simp
                 with_reducible rfl
                rotate_left
                ·simp only [Act.put, List.setIfInBounds_toArray, List.set_cons_zero, List.set_cons_succ, i64_w, i32_w]
                 rfl
                refine pure_ (i := 12) (N := some 47) (v := ?_) (a' := ?_) #[true, true, false, true, true, false, false, true, true, false, false, true, true, false, false, false, false, false] rfl rfl (any_of HT_.out (by kernel_rfl)) (fun _ _ _ h => h) (Or.inl ⟨by rfl, ?_⟩) ?_ ?_
                rotate_left
                ·intro w'
                 go_simp
                 with_reducible rfl
                rotate_left
                ·simp only [Act.put, List.setIfInBounds_toArray, List.set_cons_zero, List.set_cons_succ, i64_w, i32_w]
                 rfl
                refine take_ (i := 5) (N := some 40) (v := ?_) (a' := ?_) #[true, true, false, true, true, true, false, true, true, false, false, true, true, false, false, false, false, false] rfl rfl (take_ofW HT_.out HW_.out (by kernel_rfl)) (fun _ _ _ h => h) (Or.inl ⟨by rfl, ?_⟩) hHeld ?_ ?_
                rotate_left
                ·rintro w' ⟨s0, s1⟩
                 go_simp
                 with_reducible rfl
                rotate_left
                ·simp only [Act.put, List.setIfInBounds_toArray, List.set_cons_zero, List.set_cons_succ, i64_w, i32_w]
                 rfl
                refine pure_ (i := 6) (N := some 41) (v := ?_) (a' := ?_) #[true, true, false, true, true, true, true, true, true, false, false, true, true, false, false, false, false, false] rfl rfl (any_of HT_.out (by kernel_rfl)) (fun _ _ _ h => h) (Or.inl ⟨by rfl, ?_⟩) ?_ ?_
                rotate_left
                ·intro w'
                 go_simp
                 with_reducible rfl
                rotate_left
                ·simp only [Act.put, List.setIfInBounds_toArray, List.set_cons_zero, List.set_cons_succ, i64_w, i32_w]
                 rfl
                refine take_ (i := 9) (N := some 44) (v := ?_) (a' := ?_) #[true, true, false, true, true, true, true, true, true, true, false, true, true, false, false, false, false, false] rfl rfl (take_ofW HT_.out HW_.out (by kernel_rfl)) (fun _ _ _ h => h) (Or.inl ⟨by rfl, ?_⟩) hHeld ?_ ?_
                rotate_left
                ·rintro w' ⟨s0, s1⟩
                 go_simp
                 with_reducible rfl
                rotate_left
                ·simp only [Act.put, List.setIfInBounds_toArray, List.set_cons_zero, List.set_cons_succ, i64_w, i32_w]
                 rfl
                refine pure_ (i := 10) (N := some 45) (v := ?_) (a' := ?_) #[true, true, false, true, true, true, true, true, true, true, true, true, true, false, false, false, false, false] rfl rfl (any_of HT_.out (by kernel_rfl)) (fun _ _ _ h => h) (Or.inl ⟨by rfl, ?_⟩) ?_ ?_
                rotate_left
                ·intro w'
                 go_simp
                 with_reducible rfl
                rotate_left
                ·simp only [Act.put, List.setIfInBounds_toArray, List.set_cons_zero, List.set_cons_succ, i64_w, i32_w]
                 rfl
                refine join_ (σ := Value × Nat) 1 #[true, true, true, true, true, true, true, true, true, true, true, true, true, true, true, true, true, false] (fun s_ => [(37, .int .i64 t301), (48, s_.1), (6, .pointer (some ⟨s_.2, 0, none⟩)), (49, .agg #[.int .i64 (wrap64 (rd dl64_ 2)), .int .i64 (wrap64 (rd dl64_ 3)), s_.1]), (50, .agg #[.int .i64 t301, .int .i64 (wrap64 (rd dl64_ 2)), .int .i64 (wrap64 (rd dl64_ 3)), s_.1])]) (fun s_ w' => (w'.cell? ⟨ad302.block, ad302.off + 2, none⟩ = some (.int .u8 (rd dl64_ 2)) ∧ w'.cell? ⟨ad302.block, ad302.off + 3, none⟩ = some (.int .u8 (rd dl64_ 3))) ∧ (Kd.R (Kd.int .u8) 5 w' w.heap.size (fun _ => True) s_.1 t305) ∧ (w'.heap[gb295]? = some (.cells #[.int .i64 0, .int .i64 0, .int .i64 0, .slice none 0 0] 61 (0, 0))) ∧ (w'.heap[s_.2]? = some (.cells #[.int .i64 0, .int .i64 0, .int .i64 0, .slice none 0 0] 61 (0, 0))) ∧ (w.heap.size ≤ s_.2) ∧ (w.heap.size ≤ s_.2) ∧ (gb295 ≠ s_.2) ∧ (s_.2 ≠ gb295) ∧ (Below w.heap.size w w')) ?_ ?_
                rotate_left
                ·intro hCont
                 refine two_ (i := 2) (j := 16) (Ni := some 37) (Nj := some 6) #[true, true, true, true, true, true, true, true, true, true, true, true, true, false, false, false, false, false] #[true, true, false, true, true, true, true, true, true, true, true, true, true, false, false, false, true, false] rfl rfl rfl rfl (two_of HT_.out (by kernel_rfl)) (by decide) (by decide) (fun K hK => ?_) (fun K hK => ?_)
                 ·skip
                  refine goes_ Try.func183 (by kernel_rfl) rfl #[.slice (some ad302) (dl64_.take 2).length (c0 - 3)] (by rfl) rfl rfl (by (try simp only [List.map_toArray, List.map_cons, List.map_nil]); first | done | (rw [show (dl64_.take 2).length = 2 from (by rw [List.length_take]; have h_ : (2 : Int) ≤ (dl64_.length : Int) := of_decide_eq_true as_; omega)] <;> rfl) | rfl | (simp only [List.length_drop, List.length_take]; rfl)) ?_
                  with_reducible refine (impl_numberOf.calls kj1 _ _ (dl64_.take 2) t301 _ ?side1 ?side2 A13.out).mono ?_
                  (case side1 => exact kc_ (Kd.C_below HR300.out HB.out))
                  (case side2 => exact HC300.out)
                  rintro e w' ⟨rfl, ⟨nd, rfl⟩⟩
                  refine ⟨_, rfl, ?_⟩
                  refine hK.out _ _ ⟨((HB.out.cell (World.block_lt_of_cell? w _ hw302_0)).trans hw302_0), ((HB.out.cell (World.block_lt_of_cell? w _ hw303_0)).trans hw303_0)⟩ (fun hHeld => ?_)
                  clear hK K
                  refine norm_ (a' := ?_) ?_ ?_
                  rotate_left
                  ·show Act.put _ (some 37) _ = _
                   simp only [Act.put, List.setIfInBounds_toArray, List.set_cons_zero, List.set_cons_succ, i64_w, i32_w]
                   rfl
                  refine two_ (i := 13) (j := 16) (Ni := some 48) (Nj := some 6) #[true, true, true, true, true, true, true, true, true, true, true, true, true, true, false, false, false, false] #[true, true, true, true, true, true, true, true, true, true, true, true, true, false, false, false, true, false] rfl rfl rfl rfl (two_of HT_.out (by kernel_rfl)) (by decide) (by decide) (fun K hK => ?_) (fun K hK => ?_)
                  ·skip
                   refine goes_ Try.func132 (by kernel_rfl) rfl #[.slice A67 dl67_.length ((c0 - 3) - 5)] (by rfl) rfl rfl (by (try simp only [List.map_toArray, List.map_cons, List.map_nil]); first | done | (rw [show dl67_.length = (dl64_.length - 5) from List.length_drop] <;> rfl) | rfl | (simp only [List.length_drop, List.length_take]; rfl)) ?_
                   with_reducible refine (slices_Clone_byte_byte.calls _ _ dl67_ t305 _ ?side1 ?side2 A17.out).mono ?_
                   (case side1 => exact kc_ (Kd.C_below HR304.out bb_))
                   (case side2 => exact HC304.out)
                   rintro e w68 ⟨v306, rfl, ho0, hb⟩
                   refine ⟨_, rfl, ?_⟩
                   have n0_ := Aside0.mk (Kd.R_lower ho0 (below_size bb_))
                   have n1_ := Aside0.mk (blk_below (kb_ BK295) hb)
                   have n2_ := Aside0.mk (below_step bb_ hb)
                   clear BK295
                   clear HB
                   have HO307 := n0_
                   have BK295 := n1_
                   have HB := n2_
                   clear n0_ n1_ n2_
                   (try clear hb)
                   (try clear hb2)
                   (try clear hk)
                   (try clear hi)
                   (try clear ho0)
                   obtain ⟨Ao69, co69, eo69⟩ := Kd.R_slice HO307.out
                   (first | subst eo69 | (injection eo69 with f1_ f2_ f3_; have f4_ := f1_.symm; have f5_ := f3_.symm; clear f1_ f2_ f3_; subst f4_; subst f5_))
                   refine hK.out _ _ ⟨((HB.out.cell (World.block_lt_of_cell? w _ hw302_0)).trans hw302_0), ((HB.out.cell (World.block_lt_of_cell? w _ hw303_0)).trans hw303_0)⟩ (fun hHeld => ?_)
                   clear hK K
                   refine norm_ (a' := ?_) ?_ ?_
                   rotate_left
                   ·show Act.put _ (some 48) _ = _
                    simp only [Act.put, List.setIfInBounds_toArray, List.set_cons_zero, List.set_cons_succ, i64_w, i32_w]
                    rfl
                   refine pure_ (i := 14) (N := some 49) (v := ?_) (a' := ?_) #[true, true, true, true, true, true, true, true, true, true, true, true, true, true, true, false, false, false] rfl rfl (any_of HT_.out (by kernel_rfl)) (fun _ _ _ h => h) (Or.inl ⟨by rfl, ?_⟩) ?_ ?_
                   rotate_left
                   ·intro w'
                    go_simp
                    with_reducible rfl
                   rotate_left
                   ·simp only [Act.put, List.setIfInBounds_toArray, List.set_cons_zero, List.set_cons_succ, i64_w, i32_w]
                    rfl
                   refine pure_ (i := 15) (N := some 50) (v := ?_) (a' := ?_) #[true, true, true, true, true, true, true, true, true, true, true, true, true, true, true, true, false, false] rfl rfl (any_of HT_.out (by kernel_rfl)) (fun _ _ _ h => h) (Or.inl ⟨by rfl, ?_⟩) ?_ ?_
                   rotate_left
                   ·intro w'
                    go_simp
                    with_reducible rfl
                   rotate_left
                   ·simp only [Act.put, List.setIfInBounds_toArray, List.set_cons_zero, List.set_cons_succ, i64_w, i32_w]
                    rfl
                   refine one_ (i := 16) (N := some 6) #[true, true, true, true, true, true, true, true, true, true, true, true, true, true, true, true, true, false] rfl rfl (one_of HT_.out (by kernel_rfl)) (by decide) (fun K hK => ?_)
                   refine box_step ?hg (N := 6) ?hd (cs := #[.int .i64 0, .int .i64 0, .int .i64 0, .slice none 0 0]) (t := 61) ?hr ?_; (case hd => rfl); (case hg => rfl); (case hr => first | (go_simp; done) | (go_simp; rfl))
                   intro gb308 hg w70 hbox hb
                   have n0_ := Aside0.mk (Kd.R_below (kr_ HO307) hb)
                   have n1_ := Aside0.mk (blk_below (kb_ BK295) hb)
                   have n2_ := Aside0.mk (below_step bb_ hb)
                   have n3_ := Aside0.mk (hbox)
                   have n4_ := (bs_ hg : Aside0 (w.heap.size ≤ _))
                   have n5_ := (bs_ hg : Aside0 (w.heap.size ≤ _))
                   have n6_ := (nl_ hg BK295 : Aside0 (gb295 ≠ gb308))
                   have n7_ := (nr_ hg BK295 : Aside0 (gb308 ≠ gb295))
                   clear HO307
                   clear BK295
                   clear HB
                   have HO307 := n0_
                   have BK295 := n1_
                   have HB := n2_
                   have BK308 := n3_
                   have GW308 := n4_
                   have GE308 := n5_
                   have NB295_308 := n6_
                   have NB308_295 := n7_
                   clear n0_ n1_ n2_ n3_ n4_ n5_ n6_ n7_
                   clear hb hbox hg
                   refine hK.out _ _ ⟨((HB.out.cell (World.block_lt_of_cell? w _ hw302_0)).trans hw302_0), ((HB.out.cell (World.block_lt_of_cell? w _ hw303_0)).trans hw303_0)⟩ (fun hHeld => ?_)
                   clear hK K
                   refine norm_ (a' := ?_) ?_ ?_
                   rotate_left
                   ·show Act.put _ (some 6) _ = _
                    simp only [Act.put, List.setIfInBounds_toArray, List.set_cons_zero, List.set_cons_succ, i64_w, i32_w]
                    rfl
                   exact norm_ (by simp only [putAll, Act.put, List.setIfInBounds_toArray, List.set_cons_zero, List.set_cons_succ]) (hCont (.slice Ao69 t305.length co69, gb308) _ ⟨hHeld, (kr_ HO307), (by (with_reducible repeat (first | refine blk_drewN ?_ _ | refine blk_drew ?_ | refine blk_alloc ?_ _)); exact BK295.out), (by (with_reducible repeat (first | refine blk_drewN ?_ _ | refine blk_drew ?_ | refine blk_alloc ?_ _)); exact BK308.out), GW308.out, GE308.out, NB295_308.out, NB308_295.out, bb_⟩)
                  ·skip
                   refine box_step ?hg (N := 6) ?hd (cs := #[.int .i64 0, .int .i64 0, .int .i64 0, .slice none 0 0]) (t := 61) ?hr ?_; (case hd => rfl); (case hg => rfl); (case hr => first | (go_simp; done) | (go_simp; rfl))
                   intro gb308 hg w68 hbox hb
                   have n0_ := Aside0.mk (blk_below (kb_ BK295) hb)
                   have n1_ := Aside0.mk (below_step bb_ hb)
                   have n2_ := Aside0.mk (hbox)
                   have n3_ := (bs_ hg : Aside0 (w.heap.size ≤ _))
                   have n4_ := (bs_ hg : Aside0 (w.heap.size ≤ _))
                   have n5_ := (nl_ hg BK295 : Aside0 (gb295 ≠ gb308))
                   have n6_ := (nr_ hg BK295 : Aside0 (gb308 ≠ gb295))
                   clear BK295
                   clear HB
                   have BK295 := n0_
                   have HB := n1_
                   have BK308 := n2_
                   have GW308 := n3_
                   have GE308 := n4_
                   have NB295_308 := n5_
                   have NB308_295 := n6_
                   clear n0_ n1_ n2_ n3_ n4_ n5_ n6_
                   clear hb hbox hg
                   refine hK.out _ _ ⟨((HB.out.cell (World.block_lt_of_cell? w _ hw302_0)).trans hw302_0), ((HB.out.cell (World.block_lt_of_cell? w _ hw303_0)).trans hw303_0)⟩ (fun hHeld => ?_)
                   clear hK K
                   refine norm_ (a' := ?_) ?_ ?_
                   rotate_left
                   ·show Act.put _ (some 6) _ = _
                    simp only [Act.put, List.setIfInBounds_toArray, List.set_cons_zero, List.set_cons_succ, i64_w, i32_w]
                    rfl
                   refine one_ (i := 13) (N := some 48) #[true, true, true, true, true, true, true, true, true, true, true, true, true, true, false, false, true, false] rfl rfl (one_of HT_.out (by kernel_rfl)) (by decide) (fun K hK => ?_)
                   refine goes_ Try.func132 (by kernel_rfl) rfl #[.slice A67 dl67_.length ((c0 - 3) - 5)] (by rfl) rfl rfl (by (try simp only [List.map_toArray, List.map_cons, List.map_nil]); first | done | (rw [show dl67_.length = (dl64_.length - 5) from List.length_drop] <;> rfl) | rfl | (simp only [List.length_drop, List.length_take]; rfl)) ?_
                   with_reducible refine (slices_Clone_byte_byte.calls _ _ dl67_ t305 _ ?side1 ?side2 A17.out).mono ?_
                   (case side1 => exact kc_ (Kd.C_below HR304.out HB.out))
                   (case side2 => exact HC304.out)
                   rintro e w69 ⟨v306, rfl, ho0, hb⟩
                   refine ⟨_, rfl, ?_⟩
                   have n0_ := Aside0.mk (Kd.R_lower ho0 (below_size bb_))
                   have n1_ := Aside0.mk (blk_below (kb_ BK295) hb)
                   have n2_ := Aside0.mk (blk_below (kb_ BK308) hb)
                   have n3_ := Aside0.mk (below_step bb_ hb)
                   clear BK295
                   clear BK308
                   clear HB
                   have HO307 := n0_
                   have BK295 := n1_
                   have BK308 := n2_
                   have HB := n3_
                   clear n0_ n1_ n2_ n3_
                   (try clear hb)
                   (try clear hb2)
                   (try clear hk)
                   (try clear hi)
                   (try clear ho0)
                   obtain ⟨Ao70, co70, eo70⟩ := Kd.R_slice HO307.out
                   (first | subst eo70 | (injection eo70 with f1_ f2_ f3_; have f4_ := f1_.symm; have f5_ := f3_.symm; clear f1_ f2_ f3_; subst f4_; subst f5_))
                   refine hK.out _ _ ⟨((HB.out.cell (World.block_lt_of_cell? w _ hw302_0)).trans hw302_0), ((HB.out.cell (World.block_lt_of_cell? w _ hw303_0)).trans hw303_0)⟩ (fun hHeld => ?_)
                   clear hK K
                   refine norm_ (a' := ?_) ?_ ?_
                   rotate_left
                   ·show Act.put _ (some 48) _ = _
                    simp only [Act.put, List.setIfInBounds_toArray, List.set_cons_zero, List.set_cons_succ, i64_w, i32_w]
                    rfl
                   refine pure_ (i := 14) (N := some 49) (v := ?_) (a' := ?_) #[true, true, true, true, true, true, true, true, true, true, true, true, true, true, true, false, true, false] rfl rfl (any_of HT_.out (by kernel_rfl)) (fun _ _ _ h => h) (Or.inl ⟨by rfl, ?_⟩) ?_ ?_
                   rotate_left
                   ·intro w'
                    go_simp
                    with_reducible rfl
                   rotate_left
                   ·simp only [Act.put, List.setIfInBounds_toArray, List.set_cons_zero, List.set_cons_succ, i64_w, i32_w]
                    rfl
                   refine pure_ (i := 15) (N := some 50) (v := ?_) (a' := ?_) #[true, true, true, true, true, true, true, true, true, true, true, true, true, true, true, true, true, false] rfl rfl (any_of HT_.out (by kernel_rfl)) (fun _ _ _ h => h) (Or.inl ⟨by rfl, ?_⟩) ?_ ?_
                   rotate_left
                   ·intro w'
                    go_simp
                    with_reducible rfl
                   rotate_left
                   ·simp only [Act.put, List.setIfInBounds_toArray, List.set_cons_zero, List.set_cons_succ, i64_w, i32_w]
                    rfl
                   exact norm_ (by simp only [putAll, Act.put, List.setIfInBounds_toArray, List.set_cons_zero, List.set_cons_succ]) (hCont (.slice Ao70 t305.length co70, gb308) _ ⟨hHeld, (kr_ HO307), (by (with_reducible repeat (first | refine blk_drewN ?_ _ | refine blk_drew ?_ | refine blk_alloc ?_ _)); exact BK295.out), (by (with_reducible repeat (first | refine blk_drewN ?_ _ | refine blk_drew ?_ | refine blk_alloc ?_ _)); exact BK308.out), GW308.out, GE308.out, NB295_308.out, NB308_295.out, bb_⟩)
                 ·skip
                  refine box_step ?hg (N := 6) ?hd (cs := #[.int .i64 0, .int .i64 0, .int .i64 0, .slice none 0 0]) (t := 61) ?hr ?_; (case hd => rfl); (case hg => rfl); (case hr => first | (go_simp; done) | (go_simp; rfl))
                  intro gb308 hg w68 hbox hb
                  have n0_ := Aside0.mk (blk_below (kb_ BK295) hb)
                  have n1_ := Aside0.mk (below_step bb_ hb)
                  have n2_ := Aside0.mk (hbox)
                  have n3_ := (bs_ hg : Aside0 (w.heap.size ≤ _))
                  have n4_ := (bs_ hg : Aside0 (w.heap.size ≤ _))
                  have n5_ := (nl_ hg BK295 : Aside0 (gb295 ≠ gb308))
                  have n6_ := (nr_ hg BK295 : Aside0 (gb308 ≠ gb295))
                  clear BK295
                  clear HB
                  have BK295 := n0_
                  have HB := n1_
                  have BK308 := n2_
                  have GW308 := n3_
                  have GE308 := n4_
                  have NB295_308 := n5_
                  have NB308_295 := n6_
                  clear n0_ n1_ n2_ n3_ n4_ n5_ n6_
                  clear hb hbox hg
                  refine hK.out _ _ ⟨((HB.out.cell (World.block_lt_of_cell? w _ hw302_0)).trans hw302_0), ((HB.out.cell (World.block_lt_of_cell? w _ hw303_0)).trans hw303_0)⟩ (fun hHeld => ?_)
                  clear hK K
                  refine norm_ (a' := ?_) ?_ ?_
                  rotate_left
                  ·show Act.put _ (some 6) _ = _
                   simp only [Act.put, List.setIfInBounds_toArray, List.set_cons_zero, List.set_cons_succ, i64_w, i32_w]
                   rfl
                  refine one_ (i := 2) (N := some 37) #[true, true, true, true, true, true, true, true, true, true, true, true, true, false, false, false, true, false] rfl rfl (one_of HT_.out (by kernel_rfl)) (by decide) (fun K hK => ?_)
                  refine goes_ Try.func183 (by kernel_rfl) rfl #[.slice (some ad302) (dl64_.take 2).length (c0 - 3)] (by rfl) rfl rfl (by (try simp only [List.map_toArray, List.map_cons, List.map_nil]); first | done | (rw [show (dl64_.take 2).length = 2 from (by rw [List.length_take]; have h_ : (2 : Int) ≤ (dl64_.length : Int) := of_decide_eq_true as_; omega)] <;> rfl) | rfl | (simp only [List.length_drop, List.length_take]; rfl)) ?_
                  with_reducible refine (impl_numberOf.calls kj1 _ _ (dl64_.take 2) t301 _ ?side1 ?side2 A13.out).mono ?_
                  (case side1 => exact kc_ (Kd.C_below HR300.out HB.out))
                  (case side2 => exact HC300.out)
                  rintro e w' ⟨rfl, ⟨nd, rfl⟩⟩
                  refine ⟨_, rfl, ?_⟩
                  refine hK.out _ _ ⟨((HB.out.cell (World.block_lt_of_cell? w _ hw302_0)).trans hw302_0), ((HB.out.cell (World.block_lt_of_cell? w _ hw303_0)).trans hw303_0)⟩ (fun hHeld => ?_)
                  clear hK K
                  refine norm_ (a' := ?_) ?_ ?_
                  rotate_left
                  ·show Act.put _ (some 37) _ = _
                   simp only [Act.put, List.setIfInBounds_toArray, List.set_cons_zero, List.set_cons_succ, i64_w, i32_w]
                   rfl
                  refine one_ (i := 13) (N := some 48) #[true, true, true, true, true, true, true, true, true, true, true, true, true, true, false, false, true, false] rfl rfl (one_of HT_.out (by kernel_rfl)) (by decide) (fun K hK => ?_)
                  refine goes_ Try.func132 (by kernel_rfl) rfl #[.slice A67 dl67_.length ((c0 - 3) - 5)] (by rfl) rfl rfl (by (try simp only [List.map_toArray, List.map_cons, List.map_nil]); first | done | (rw [show dl67_.length = (dl64_.length - 5) from List.length_drop] <;> rfl) | rfl | (simp only [List.length_drop, List.length_take]; rfl)) ?_
                  with_reducible refine (slices_Clone_byte_byte.calls _ _ dl67_ t305 _ ?side1 ?side2 A17.out).mono ?_
                  (case side1 => exact kc_ (Kd.C_below HR304.out bb_))
                  (case side2 => exact HC304.out)
                  rintro e w69 ⟨v306, rfl, ho0, hb⟩
                  refine ⟨_, rfl, ?_⟩
                  have n0_ := Aside0.mk (Kd.R_lower ho0 (below_size bb_))
                  have n1_ := Aside0.mk (blk_below (kb_ BK295) hb)
                  have n2_ := Aside0.mk (blk_below (kb_ BK308) hb)
                  have n3_ := Aside0.mk (below_step bb_ hb)
                  clear BK295
                  clear BK308
                  clear HB
                  have HO307 := n0_
                  have BK295 := n1_
                  have BK308 := n2_
                  have HB := n3_
                  clear n0_ n1_ n2_ n3_
                  (try clear hb)
                  (try clear hb2)
                  (try clear hk)
                  (try clear hi)
                  (try clear ho0)
                  obtain ⟨Ao70, co70, eo70⟩ := Kd.R_slice HO307.out
                  (first | subst eo70 | (injection eo70 with f1_ f2_ f3_; have f4_ := f1_.symm; have f5_ := f3_.symm; clear f1_ f2_ f3_; subst f4_; subst f5_))
                  refine hK.out _ _ ⟨((HB.out.cell (World.block_lt_of_cell? w _ hw302_0)).trans hw302_0), ((HB.out.cell (World.block_lt_of_cell? w _ hw303_0)).trans hw303_0)⟩ (fun hHeld => ?_)
                  clear hK K
                  refine norm_ (a' := ?_) ?_ ?_
                  rotate_left
                  ·show Act.put _ (some 48) _ = _
                   simp only [Act.put, List.setIfInBounds_toArray, List.set_cons_zero, List.set_cons_succ, i64_w, i32_w]
                   rfl
                  refine pure_ (i := 14) (N := some 49) (v := ?_) (a' := ?_) #[true, true, true, true, true, true, true, true, true, true, true, true, true, true, true, false, true, false] rfl rfl (any_of HT_.out (by kernel_rfl)) (fun _ _ _ h => h) (Or.inl ⟨by rfl, ?_⟩) ?_ ?_
                  rotate_left
                  ·intro w'
                   go_simp
                   with_reducible rfl
                  rotate_left
                  ·simp only [Act.put, List.setIfInBounds_toArray, List.set_cons_zero, List.set_cons_succ, i64_w, i32_w]
                   rfl
                  refine pure_ (i := 15) (N := some 50) (v := ?_) (a' := ?_) #[true, true, true, true, true, true, true, true, true, true, true, true, true, true, true, true, true, false] rfl rfl (any_of HT_.out (by kernel_rfl)) (fun _ _ _ h => h) (Or.inl ⟨by rfl, ?_⟩) ?_ ?_
                  rotate_left
                  ·intro w'
                   go_simp
                   with_reducible rfl
                  rotate_left
                  ·simp only [Act.put, List.setIfInBounds_toArray, List.set_cons_zero, List.set_cons_succ, i64_w, i32_w]
                   rfl
                  exact norm_ (by simp only [putAll, Act.put, List.setIfInBounds_toArray, List.set_cons_zero, List.set_cons_succ]) (hCont (.slice Ao70 t305.length co70, gb308) _ ⟨hHeld, (kr_ HO307), (by (with_reducible repeat (first | refine blk_drewN ?_ _ | refine blk_drew ?_ | refine blk_alloc ?_ _)); exact BK295.out), (by (with_reducible repeat (first | refine blk_drewN ?_ _ | refine blk_drew ?_ | refine blk_alloc ?_ _)); exact BK308.out), GW308.out, GE308.out, NB295_308.out, NB308_295.out, bb_⟩)
                rintro ⟨v306, gb308⟩ w71 ⟨hS_, h0_, h1_, h2_, h3_, h4_, h5_, h6_, h7_⟩
                have n0_ : Aside0 (Kd.R (Kd.int .u8) 5 w71 w.heap.size (fun _ => True) v306 t305) := ⟨h0_⟩
                have n1_ : Aside0 (w71.heap[gb295]? = some (.cells #[.int .i64 0, .int .i64 0, .int .i64 0, .slice none 0 0] 61 (0, 0))) := ⟨h1_⟩
                have n2_ : Aside0 (w71.heap[gb308]? = some (.cells #[.int .i64 0, .int .i64 0, .int .i64 0, .slice none 0 0] 61 (0, 0))) := ⟨h2_⟩
                have n3_ : Aside0 (w.heap.size ≤ gb308) := ⟨h3_⟩
                have n4_ : Aside0 (w.heap.size ≤ gb308) := ⟨h4_⟩
                have n5_ : Aside0 (gb295 ≠ gb308) := ⟨h5_⟩
                have n6_ : Aside0 (gb308 ≠ gb295) := ⟨h6_⟩
                have n7_ : Aside0 (Below w.heap.size w w71) := ⟨h7_⟩
                clear BK295
                clear HB
                clear h0_ h1_ h2_ h3_ h4_ h5_ h6_ h7_
                have HO307 := n0_
                have BK295 := n1_
                have BK308 := n2_
                have GW308 := n3_
                have GE308 := n4_
                have NB295_308 := n5_
                have NB308_295 := n6_
                have HB := n7_
                clear n0_ n1_ n2_ n3_ n4_ n5_ n6_ n7_
                have hHeld : w71.cell? ⟨ad302.block, ad302.off + 2, none⟩ = some (.int .u8 (rd dl64_ 2)) ∧ w71.cell? ⟨ad302.block, ad302.off + 3, none⟩ = some (.int .u8 (rd dl64_ 3)) := hS_
                obtain ⟨Ao72, co72, eo72⟩ := Kd.R_slice HO307.out
                (first | subst eo72 | (injection eo72 with f1_ f2_ f3_; have f4_ := f1_.symm; have f5_ := f3_.symm; clear f1_ f2_ f3_; subst f4_; subst f5_))
                refine norm_ (a' := ?_) ?_ ?_
                rotate_left
                ·simp only [putAll, Act.put, List.setIfInBounds_toArray, List.set_cons_zero, List.set_cons_succ]
                 rfl
                refine one_ (i := 17) (N := none) #[true, true, true, true, true, true, true, true, true, true, true, true, true, true, true, true, true, true] rfl rfl (one_of HT_.out (by kernel_rfl)) (by decide) (fun K hK => ?_)
                have hs73 : w71.cell? ⟨gb308, 0, none⟩ = some (.int .i64 0) := (blk_cell BK308.out 0).trans rfl
                have hfs73 := blk_frozen BK308.out 0
                have hns73_0 := NB295_308.out
                have hms73_0 := NB308_295.out
                have hs74 : w71.cell? ⟨gb308, 1, none⟩ = some (.int .i64 0) := (blk_cell BK308.out 1).trans rfl
                have hfs74 := blk_frozen BK308.out 1
                have hns74_0 := NB295_308.out
                have hms74_0 := NB308_295.out
                have hs75 : w71.cell? ⟨gb308, 2, none⟩ = some (.int .i64 0) := (blk_cell BK308.out 2).trans rfl
                have hfs75 := blk_frozen BK308.out 2
                have hns75_0 := NB295_308.out
                have hms75_0 := NB308_295.out
                have hs76 : w71.cell? ⟨gb308, 3, none⟩ = some (.slice none 0 0) := (blk_cell BK308.out 3).trans rfl
                have hfs76 := blk_frozen BK308.out 3
                have hns76_0 := NB295_308.out
                have hms76_0 := NB308_295.out
                refine skip_ (w1 := ?_) ?_ ?_ ?_ ?_
                rotate_left
                ·first | kernel_rfl | rfl
                ·rfl
                ·go_simp
                 rfl
                refine hK.out _ _ ⟨((cell_far (p := ⟨gb308, _, none⟩) (by first | exact Nat.ne_of_lt (Nat.lt_of_lt_of_le (by have := World.block_lt_of_cell? _ _ hw302_0; first | rwa [add_block] at this | exact this) GW308.out) | (rw [add_block]; exact Nat.ne_of_lt (Nat.lt_of_lt_of_le (by have := World.block_lt_of_cell? _ _ hw302_0; first | rwa [add_block] at this | exact this) GW308.out)) | (show (Addr.add _ _).block ≠ _; rw [add_block]; exact Nat.ne_of_lt (Nat.lt_of_lt_of_le (by have := World.block_lt_of_cell? _ _ hw302_0; first | rwa [add_block] at this | exact this) GW308.out)) | (dsimp only; exact Nat.ne_of_lt (Nat.lt_of_lt_of_le (by have := World.block_lt_of_cell? _ _ hw302_0; first | rwa [add_block] at this | exact this) GW308.out))) _).trans (((cell_far (p := ⟨gb308, _, none⟩) (by first | exact Nat.ne_of_lt (Nat.lt_of_lt_of_le (by have := World.block_lt_of_cell? _ _ hw302_0; first | rwa [add_block] at this | exact this) GW308.out) | (rw [add_block]; exact Nat.ne_of_lt (Nat.lt_of_lt_of_le (by have := World.block_lt_of_cell? _ _ hw302_0; first | rwa [add_block] at this | exact this) GW308.out)) | (show (Addr.add _ _).block ≠ _; rw [add_block]; exact Nat.ne_of_lt (Nat.lt_of_lt_of_le (by have := World.block_lt_of_cell? _ _ hw302_0; first | rwa [add_block] at this | exact this) GW308.out)) | (dsimp only; exact Nat.ne_of_lt (Nat.lt_of_lt_of_le (by have := World.block_lt_of_cell? _ _ hw302_0; first | rwa [add_block] at this | exact this) GW308.out))) _).trans (((cell_far (p := ⟨gb308, _, none⟩) (by first | exact Nat.ne_of_lt (Nat.lt_of_lt_of_le (by have := World.block_lt_of_cell? _ _ hw302_0; first | rwa [add_block] at this | exact this) GW308.out) | (rw [add_block]; exact Nat.ne_of_lt (Nat.lt_of_lt_of_le (by have := World.block_lt_of_cell? _ _ hw302_0; first | rwa [add_block] at this | exact this) GW308.out)) | (show (Addr.add _ _).block ≠ _; rw [add_block]; exact Nat.ne_of_lt (Nat.lt_of_lt_of_le (by have := World.block_lt_of_cell? _ _ hw302_0; first | rwa [add_block] at this | exact this) GW308.out)) | (dsimp only; exact Nat.ne_of_lt (Nat.lt_of_lt_of_le (by have := World.block_lt_of_cell? _ _ hw302_0; first | rwa [add_block] at this | exact this) GW308.out))) _).trans (((cell_far (p := ⟨gb308, _, none⟩) (by first | exact Nat.ne_of_lt (Nat.lt_of_lt_of_le (by have := World.block_lt_of_cell? _ _ hw302_0; first | rwa [add_block] at this | exact this) GW308.out) | (rw [add_block]; exact Nat.ne_of_lt (Nat.lt_of_lt_of_le (by have := World.block_lt_of_cell? _ _ hw302_0; first | rwa [add_block] at this | exact this) GW308.out)) | (show (Addr.add _ _).block ≠ _; rw [add_block]; exact Nat.ne_of_lt (Nat.lt_of_lt_of_le (by have := World.block_lt_of_cell? _ _ hw302_0; first | rwa [add_block] at this | exact this) GW308.out)) | (dsimp only; exact Nat.ne_of_lt (Nat.lt_of_lt_of_le (by have := World.block_lt_of_cell? _ _ hw302_0; first | rwa [add_block] at this | exact this) GW308.out))) _).trans (hHeld.1)))))))), ((cell_far (p := ⟨gb308, _, none⟩) (by first | exact Nat.ne_of_lt (Nat.lt_of_lt_of_le (by have := World.block_lt_of_cell? _ _ hw303_0; first | rwa [add_block] at this | exact this) GW308.out) | (rw [add_block]; exact Nat.ne_of_lt (Nat.lt_of_lt_of_le (by have := World.block_lt_of_cell? _ _ hw303_0; first | rwa [add_block] at this | exact this) GW308.out)) | (show (Addr.add _ _).block ≠ _; rw [add_block]; exact Nat.ne_of_lt (Nat.lt_of_lt_of_le (by have := World.block_lt_of_cell? _ _ hw303_0; first | rwa [add_block] at this | exact this) GW308.out)) | (dsimp only; exact Nat.ne_of_lt (Nat.lt_of_lt_of_le (by have := World.block_lt_of_cell? _ _ hw303_0; first | rwa [add_block] at this | exact this) GW308.out))) _).trans (((cell_far (p := ⟨gb308, _, none⟩) (by first | exact Nat.ne_of_lt (Nat.lt_of_lt_of_le (by have := World.block_lt_of_cell? _ _ hw303_0; first | rwa [add_block] at this | exact this) GW308.out) | (rw [add_block]; exact Nat.ne_of_lt (Nat.lt_of_lt_of_le (by have := World.block_lt_of_cell? _ _ hw303_0; first | rwa [add_block] at this | exact this) GW308.out)) | (show (Addr.add _ _).block ≠ _; rw [add_block]; exact Nat.ne_of_lt (Nat.lt_of_lt_of_le (by have := World.block_lt_of_cell? _ _ hw303_0; first | rwa [add_block] at this | exact this) GW308.out)) | (dsimp only; exact Nat.ne_of_lt (Nat.lt_of_lt_of_le (by have := World.block_lt_of_cell? _ _ hw303_0; first | rwa [add_block] at this | exact this) GW308.out))) _).trans (((cell_far (p := ⟨gb308, _, none⟩) (by first | exact Nat.ne_of_lt (Nat.lt_of_lt_of_le (by have := World.block_lt_of_cell? _ _ hw303_0; first | rwa [add_block] at this | exact this) GW308.out) | (rw [add_block]; exact Nat.ne_of_lt (Nat.lt_of_lt_of_le (by have := World.block_lt_of_cell? _ _ hw303_0; first | rwa [add_block] at this | exact this) GW308.out)) | (show (Addr.add _ _).block ≠ _; rw [add_block]; exact Nat.ne_of_lt (Nat.lt_of_lt_of_le (by have := World.block_lt_of_cell? _ _ hw303_0; first | rwa [add_block] at this | exact this) GW308.out)) | (dsimp only; exact Nat.ne_of_lt (Nat.lt_of_lt_of_le (by have := World.block_lt_of_cell? _ _ hw303_0; first | rwa [add_block] at this | exact this) GW308.out))) _).trans (((cell_far (p := ⟨gb308, _, none⟩) (by first | exact Nat.ne_of_lt (Nat.lt_of_lt_of_le (by have := World.block_lt_of_cell? _ _ hw303_0; first | rwa [add_block] at this | exact this) GW308.out) | (rw [add_block]; exact Nat.ne_of_lt (Nat.lt_of_lt_of_le (by have := World.block_lt_of_cell? _ _ hw303_0; first | rwa [add_block] at this | exact this) GW308.out)) | (show (Addr.add _ _).block ≠ _; rw [add_block]; exact Nat.ne_of_lt (Nat.lt_of_lt_of_le (by have := World.block_lt_of_cell? _ _ hw303_0; first | rwa [add_block] at this | exact this) GW308.out)) | (dsimp only; exact Nat.ne_of_lt (Nat.lt_of_lt_of_le (by have := World.block_lt_of_cell? _ _ hw303_0; first | rwa [add_block] at this | exact this) GW308.out))) _).trans (hHeld.2))))))))⟩ (fun hHeld => ?_)
                clear hK K
                refine done_ (done_of HT_.out (by kernel_rfl)) ?_
                obtain ⟨i077, hi077, _, hsz77, _⟩ := info_parts info5
                obtain ⟨A77, hcut77, hA77, hC77⟩ := print_mid_of (P := Try.prog) (Value.int .u8) 0 22 5 .i64 .i64 Try.underlying22 hi077 hsz77 (some ad298) c0 l0 1 3 (by omega) (by first | omega | exact of_decide_eq_true as_) (of_decide_eq_true as_) HC0.out
                have HR309 := Aside0.mk (Kd.C_of_reads (h1 := fun _ => rfl) (hA77 _ (Kd.reads_of_C HR0.out)))
                have HC309 := Aside0.mk hC77
                clear hA77 hC77 hi077 hsz77
                try go_wp2_with (first | ((with_reducible refine gate_callee (f := 183) rfl ?_); refine goesL_ (some 53) rfl rfl Try.func183 (by kernel_rfl) rfl #[.slice A77 ((l0.take 3).drop 1).length (c0 - 1)] rfl (by (try simp only [List.map_toArray, List.map_cons, List.map_nil]); first | done | (rw [show ((l0.take 3).drop 1).length = (3 - 1) from (by rw [List.length_drop, List.length_take]; have h_ : (3 : Int) ≤ (l0.length : Int) := of_decide_eq_true as_; omega)] <;> rfl) | rfl | (simp only [List.length_drop, List.length_take]; rfl)) ?_; (with_reducible refine (impl_numberOf.calls kj1 _ _ ((l0.take 3).drop 1) t310 _ ?side1 ?side2 A20.out).mono ?_); (case side1 => exact Kd.C_below HR309.out bb_); (case side2 => exact HC309.out); rintro e w' ⟨rfl, ⟨nd, rfl⟩⟩; refine ⟨_, rfl, ?_⟩) | ((with_reducible refine gate_callee (f := 138) rfl ?_); refine goesL_ (some 55) rfl rfl Try.func138 (by kernel_rfl) rfl #[.slice (some ad302) dl64_.length (c0 - 3)] rfl (by (try simp only [List.map_toArray, List.map_cons, List.map_nil]); first | done | (rw [show dl64_.length = ((wrap64 (3 + (wrap64 (rd l0 0)))).toNat - 3) from (by rw [List.length_drop, List.length_take]; have h_ : ((wrap64 (3 + (wrap64 (rd l0 0)))) : Int) ≤ (l0.length : Int) := of_decide_eq_true as_; omega)] <;> rfl) | rfl | (simp only [List.length_drop, List.length_take]; rfl)) ?_; (with_reducible refine (impl_SumBytes.calls kj1 _ _ dl64_ t311 _ ?side1 ?side2 A21.out).mono ?_); (case side1 => exact Kd.C_below HR299.out bb_); (case side2 => exact HC299.out); rintro e w' ⟨rfl, ⟨nd, rfl⟩⟩; refine ⟨_, rfl, ?_⟩; have p312 : 0 ≤ (4 : Int) := (by omega); have q312 : 4 < (dl64_.length : Int) := of_decide_eq_true as_; obtain ⟨ad312, e312, hx312_0⟩ := Kd.at_int HR299.out 4 p312 q312; obtain rfl : ad302 = ad312 := (by injection e312); (try simp only [show (4 : Int).toNat = 4 from rfl, Nat.reduceMul, Nat.reduceEqDiff, Go.Addr.add, ↓reduceIte] at hx312_0); have qi312 : (4 < dl64_.length) = True := eq_true (by omega); (try rw [show ((4 : Int)).toNat = 4 from rfl] at hx312_0); have hn312_0 : ad302.block ≠ gb308 := Nat.ne_of_lt (Nat.lt_of_lt_of_le (by have := World.block_lt_of_cell? _ _ hx312_0; first | rwa [add_block] at this | exact this) GW308.out); have hn312_1 : ad302.block ≠ gb308 := Nat.ne_of_lt (Nat.lt_of_lt_of_le (by have := World.block_lt_of_cell? _ _ hx312_0; first | rwa [add_block] at this | exact this) GW308.out); have hn312_2 : ad302.block ≠ gb308 := Nat.ne_of_lt (Nat.lt_of_lt_of_le (by have := World.block_lt_of_cell? _ _ hx312_0; first | rwa [add_block] at this | exact this) GW308.out); have hn312_3 : ad302.block ≠ gb308 := Nat.ne_of_lt (Nat.lt_of_lt_of_le (by have := World.block_lt_of_cell? _ _ hx312_0; first | rwa [add_block] at this | exact this) GW308.out); replace hx312_0 := (HB.out.cell (World.block_lt_of_cell? w _ hx312_0)).trans hx312_0; replace hx312_0 := (cell_far (p := ⟨gb308, 0, none⟩) (by first | (rw [add_block]; exact hn312_0) | (show (Addr.add _ _).block ≠ _; rw [add_block]; exact hn312_0) | exact hn312_0) (.int .i64 t301)).trans hx312_0; replace hx312_0 := (cell_far (p := ⟨gb308, 1, none⟩) (by first | (rw [add_block]; exact hn312_1) | (show (Addr.add _ _).block ≠ _; rw [add_block]; exact hn312_1) | exact hn312_1) (.int .i64 (wrap64 (rd dl64_ 2)))).trans hx312_0; replace hx312_0 := (cell_far (p := ⟨gb308, 2, none⟩) (by first | (rw [add_block]; exact hn312_2) | (show (Addr.add _ _).block ≠ _; rw [add_block]; exact hn312_2) | exact hn312_2) (.int .i64 (wrap64 (rd dl64_ 3)))).trans hx312_0; replace hx312_0 := (cell_far (p := ⟨gb308, 3, none⟩) (by first | (rw [add_block]; exact hn312_3) | (show (Addr.add _ _).block ≠ _; rw [add_block]; exact hn312_3) | exact hn312_3) (.slice Ao72 t305.length co72)).trans hx312_0; clear hn312_0; clear hn312_1; clear hn312_2; clear hn312_3; replace p312 := eq_true p312; replace q312 := eq_true q312; have hnb78 := NB295_308.out; have hnc78 := NB308_295.out; obtain ⟨hcz79_0, hcz79_1, hcz79_2, hcz79_3, hfz79_0, hfz79_1, hfz79_2, hfz79_3⟩ := cf4_ BK295))
                refine bodyPost_ret (results_ct rfl _ _ gb295 61 #[.int .i64 0, .int .i64 0, .int .i64 0, .slice none 0 0] (0, 0) _ rfl (by (with_reducible repeat (first | refine blk_drewN ?_ _ | refine blk_drew ?_ | refine blk_alloc ?_ _)); refine blk_put (cs := #[.int .i64 0, .int .i64 0, .int .i64 0, .slice none 0 0]) ?_ 3 _ rfl; (with_reducible repeat (first | refine blk_drewN ?_ _ | refine blk_drew ?_ | refine blk_alloc ?_ _)); refine blk_put (cs := #[.int .i64 0, .int .i64 0, .int .i64 0, .slice none 0 0]) ?_ 2 _ rfl; (with_reducible repeat (first | refine blk_drewN ?_ _ | refine blk_drew ?_ | refine blk_alloc ?_ _)); refine blk_put (cs := #[.int .i64 0, .int .i64 0, .int .i64 0, .slice none 0 0]) ?_ 1 _ rfl; (with_reducible repeat (first | refine blk_drewN ?_ _ | refine blk_drew ?_ | refine blk_alloc ?_ _)); refine blk_put (cs := #[.int .i64 0, .int .i64 0, .int .i64 0, .slice none 0 0]) ?_ 0 _ rfl; (with_reducible repeat (first | refine blk_drewN ?_ _ | refine blk_drew ?_ | refine blk_alloc ?_ _)); refine blk_far ?_ NB295_308.out _; (with_reducible repeat (first | refine blk_drewN ?_ _ | refine blk_drew ?_ | refine blk_alloc ?_ _)); refine blk_far ?_ NB295_308.out _; (with_reducible repeat (first | refine blk_drewN ?_ _ | refine blk_drew ?_ | refine blk_alloc ?_ _)); refine blk_far ?_ NB295_308.out _; (with_reducible repeat (first | refine blk_drewN ?_ _ | refine blk_drew ?_ | refine blk_alloc ?_ _)); refine blk_far ?_ NB295_308.out _; (with_reducible repeat (first | refine blk_drewN ?_ _ | refine blk_drew ?_ | refine blk_alloc ?_ _)); exact BK295.out) Try.underlying61 rfl (by kernel_rfl)) rfl ?_
                exact ⟨_, er_, by first | exact Kd.R_nil _ _ _ _ _ | exact Kd.N_nil _ _ _ _ _ | exact Kd.V_nil _ _ _ _ _ | exact Kd.Q_nil _ _ _ _ _ | exact Kd.S_nil _ _ _ _ _, bb_⟩
              ·rw [if_neg c23] at H
               exact absurd H (by simp)
             ·rw [if_neg c22] at H
              have c22b0 : (t310 == t311) = false := beq_eq_false_iff_ne.mpr c22
              have c22b1 : (t310 != t311) = true := bne_iff_ne.mpr c22
              simp only [Option.some.injEq, Prod.mk.injEq] at H
              obtain ⟨rfl, rfl, rfl, rfl, rfl⟩ := H
              have p298 : 0 ≤ (0 : Int) := (by omega)
              have q298 : 0 < (l0.length : Int) := of_decide_eq_true as_
              obtain ⟨ad298, e298, hx298_0⟩ := Kd.at_int HR0.out 0 p298 q298
              cases e298
              have qi298 : (0 < l0.length) = True := eq_true (by omega)
              (try rw [show ((0 : Int)).toNat = 0 from rfl] at hx298_0)
              (try rw [Addr.add_zero'] at hx298_0)
              replace hx298_0 := (HB.out.cell (World.block_lt_of_cell? w _ hx298_0)).trans hx298_0
              replace p298 := eq_true p298
              replace q298 := eq_true q298
              obtain ⟨i080, hi080, _, hsz80, _⟩ := info_parts info5
              obtain ⟨A80, hcut80, hA80, hC80⟩ := print_mid_of (P := Try.prog) (Value.int .u8) 0 22 5 .i64 .i64 Try.underlying22 hi080 hsz80 (some ad298) c0 l0 3 (wrap64 (3 + (wrap64 (rd l0 0)))) (by omega) (by first | omega | exact of_decide_eq_true as_) (of_decide_eq_true as_) HC0.out
              have HR299 := Aside0.mk (Kd.C_of_reads (h1 := fun _ => rfl) (hA80 _ (Kd.reads_of_C HR0.out)))
              have HC299 := Aside0.mk hC80
              clear hA80 hC80 hi080 hsz80
              (try simp only [show (3 : Int).toNat = 3 from rfl] at hcut80 HR299 HC299)
              generalize hdl80_ : ((l0.take ((wrap64 (3 + (wrap64 (rd l0 0)))) : Int).toNat).drop 3) = dl80_ at *
              try go_wp2
              have n0_ := Aside0.mk (blk_drew BK295.out)
              have n1_ := Aside0.mk (below_drew1 HB.out)
              clear BK295
              clear HB
              have BK295 := n0_
              have HB := n1_
              clear n0_ n1_
              obtain ⟨i082, hi082, _, hsz82, _⟩ := info_parts info5
              obtain ⟨hcut82, hA82, hC82⟩ := print_take_of (P := Try.prog) (Value.int .u8) 0 22 5 .i64 Try.underlying22 hi082 hsz82 A80 (c0 - 3) dl80_ 2 (by omega) (of_decide_eq_true as_) HC299.out
              have HR300 := Aside0.mk (Kd.C_of_reads (h1 := fun _ => rfl) (hA82 _ (Kd.reads_of_C HR299.out)))
              have HC300 := Aside0.mk hC82
              clear hA82 hC82 hi082 hsz82
              have p302 : 0 ≤ (2 : Int) := (by omega)
              have q302 : 2 < (dl80_.length : Int) := of_decide_eq_true as_
              obtain ⟨ad302, e302, hx302_0⟩ := Kd.at_int HR299.out 2 p302 q302
              have hw302_0 := hx302_0
              (try rw [show ((2 : Int)).toNat = 2 from rfl] at hw302_0)
              (try rw [show 2 * 1 = 2 from rfl] at hw302_0)
              (try simp only [Nat.reduceMul, Nat.reduceEqDiff, Go.Addr.add, ↓reduceIte] at hw302_0)
              cases e302
              (try simp only [show (2 : Int).toNat = 2 from rfl, Nat.reduceMul, Nat.reduceEqDiff, Go.Addr.add, ↓reduceIte] at hx302_0)
              have qi302 : (2 < dl80_.length) = True := eq_true (by omega)
              (try rw [show ((2 : Int)).toNat = 2 from rfl] at hx302_0)
              replace hx302_0 := (HB.out.cell (World.block_lt_of_cell? w _ hx302_0)).trans hx302_0
              replace p302 := eq_true p302
              replace q302 := eq_true q302
              have p303 : 0 ≤ (3 : Int) := (by omega)
              have q303 : 3 < (dl80_.length : Int) := of_decide_eq_true as_
              obtain ⟨ad303, e303, hx303_0⟩ := Kd.at_int HR299.out 3 p303 q303
              have hw303_0 := hx303_0
              (try rw [show ((3 : Int)).toNat = 3 from rfl] at hw303_0)
              (try rw [show 3 * 1 = 3 from rfl] at hw303_0)
              (try simp only [Nat.reduceMul, Nat.reduceEqDiff, Go.Addr.add, ↓reduceIte] at hw303_0)
              obtain rfl : ad302 = ad303 := (by injection e303)
              (try simp only [show (3 : Int).toNat = 3 from rfl, Nat.reduceMul, Nat.reduceEqDiff, Go.Addr.add, ↓reduceIte] at hx303_0)
              have qi303 : (3 < dl80_.length) = True := eq_true (by omega)
              (try rw [show ((3 : Int)).toNat = 3 from rfl] at hx303_0)
              replace hx303_0 := (HB.out.cell (World.block_lt_of_cell? w _ hx303_0)).trans hx303_0
              replace p303 := eq_true p303
              replace q303 := eq_true q303
              obtain ⟨i083, hi083, _, hsz83, _⟩ := info_parts info5
              obtain ⟨A83, hcut83, hA83, hC83⟩ := print_drop_of (P := Try.prog) (Value.int .u8) 0 22 5 .i64 Try.underlying22 hi083 hsz83 (some ad302) (c0 - 3) dl80_ 5 (by omega) (of_decide_eq_true as_) HC299.out
              have HR304 := Aside0.mk (Kd.C_of_reads (h1 := fun _ => rfl) (hA83 _ (Kd.reads_of_C HR299.out)))
              have HC304 := Aside0.mk hC83
              clear hA83 hC83 hi083 hsz83
              (try simp only [show (5 : Int).toNat = 5 from rfl] at hcut83 HR304 HC304)
              generalize hdl83_ : (dl80_.drop 5) = dl83_ at *
              refine start_ (n := 18) (S := fun w' => w'.cell? ⟨ad302.block, ad302.off + 2, none⟩ = some (.int .u8 (rd dl80_ 2)) ∧ w'.cell? ⟨ad302.block, ad302.off + 3, none⟩ = some (.int .u8 (rd dl80_ 3))) (ds := []) #[false, false, false, false, false, false, false, false, false, false, false, false, false, false, false, false, false, false] (by kernel_rfl) rfl rfl ⟨((HB.out.cell (World.block_lt_of_cell? w _ hw302_0)).trans hw302_0), ((HB.out.cell (World.block_lt_of_cell? w _ hw303_0)).trans hw303_0)⟩ (fun hHeld => ?_); refine with_tabW impl_nextEntry.tab5 impl_nextEntry.bits5 (fun HT_ HW_ => ?_)
              generalize wc.drew = w81 at BK295 HB HR300 HR304 hx302_0 hx303_0 hHeld ⊢
              refine pure_ (i := 0) (N := some 35) (v := ?_) (a' := ?_) #[true, false, false, false, false, false, false, false, false, false, false, false, false, false, false, false, false, false] rfl rfl (any_of HT_.out (by kernel_rfl)) (fun _ _ _ h => h) (Or.inl ⟨by rfl, ?_⟩) ?_ ?_
              rotate_left
              ·intro w'
               go_simp
               with_reducible rfl
              rotate_left
              ·simp only [Act.put, List.setIfInBounds_toArray, List.set_cons_zero, List.set_cons_succ, i64_w, i32_w]
               rfl
              refine pure_ (i := 1) (N := some 36) (v := ?_) (a' := ?_) #[true, true, false, false, false, false, false, false, false, false, false, false, false, false, false, false, false, false] rfl rfl (any_of HT_.out (by kernel_rfl)) (fun _ _ _ h => h) (Or.inl ⟨by rfl, ?_⟩) ?_ ?_
              rotate_left
              ·intro w'
               go_simp
               with_reducible rfl
              rotate_left
              ·simp only [Act.put, List.setIfInBounds_toArray, List.set_cons_zero, List.set_cons_succ, i64_w, i32_w]
               rfl
              refine pure_ (i := 3) (N := some 38) (v := ?_) (a' := ?_) #[true, true, false, true, false, false, false, false, false, false, false, false, false, false, false, false, false, false] rfl rfl (any_of HT_.out (by kernel_rfl)) (fun _ _ _ h => h) (Or.inl ⟨by rfl, ?_⟩) ?_ ?_
              rotate_left
              ·intro w'
               go_simp
               with_reducible rfl
              rotate_left
              ·simp only [Act.put, List.setIfInBounds_toArray, List.set_cons_zero, List.set_cons_succ, i64_w, i32_w]
               rfl
              refine pure_ (i := 4) (N := some 39) (v := ?_) (a' := ?_) #[true, true, false, true, true, false, false, false, false, false, false, false, false, false, false, false, false, false] rfl rfl (any_of HT_.out (by kernel_rfl)) (fun _ _ _ h => h) (Or.inl ⟨by rfl, ?_⟩) ?_ ?_
              rotate_left
              ·intro w'
               go_simp
               with_reducible rfl
              rotate_left
              ·simp only [Act.put, List.setIfInBounds_toArray, List.set_cons_zero, List.set_cons_succ, i64_w, i32_w]
               rfl
              refine pure_ (i := 7) (N := some 42) (v := ?_) (a' := ?_) #[true, true, false, true, true, false, false, true, false, false, false, false, false, false, false, false, false, false] rfl rfl (any_of HT_.out (by kernel_rfl)) (fun _ _ _ h => h) (Or.inl ⟨by rfl, ?_⟩) ?_ ?_
              rotate_left
              ·intro w'
               go_simp
               with_reducible rfl
              rotate_left
              ·simp only [Act.put, List.setIfInBounds_toArray, List.set_cons_zero, List.set_cons_succ, i64_w, i32_w]
               rfl
              refine pure_ (i := 8) (N := some 43) (v := ?_) (a' := ?_) #[true, true, false, true, true, false, false, true, true, false, false, false, false, false, false, false, false, false] rfl rfl (any_of HT_.out (by kernel_rfl)) (fun _ _ _ h => h) (Or.inl ⟨by rfl, ?_⟩) ?_ ?_
              rotate_left
              ·intro w'
               go_simp
               with_reducible rfl
              rotate_left
              ·simp only [Act.put, List.setIfInBounds_toArray, List.set_cons_zero, List.set_cons_succ, i64_w, i32_w]
               rfl
              refine pure_ (i := 11) (N := some 46) (v := ?_) (a' := ?_) #[true, true, false, true, true, false, false, true, true, false, false, true, false, false, false, false, false, false] rfl rfl (any_of HT_.out (by kernel_rfl)) (fun _ _ _ h => h) (Or.inl ⟨by rfl, ?_⟩) ?_ ?_
              rotate_left
              ·intro w'
               go_simp
               with_reducible rfl
              rotate_left
              ·simp only [Act.put, List.setIfInBounds_toArray, List.set_cons_zero, List.set_cons_succ, i64_w, i32_w]
               rfl
              refine pure_ (i := 12) (N := some 47) (v := ?_) (a' := ?_) #[true, true, false, true, true, false, false, true, true, false, false, true, true, false, false, false, false, false] rfl rfl (any_of HT_.out (by kernel_rfl)) (fun _ _ _ h => h) (Or.inl ⟨by rfl, ?_⟩) ?_ ?_
              rotate_left
              ·intro w'
               go_simp
               with_reducible rfl
              rotate_left
              ·simp only [Act.put, List.setIfInBounds_toArray, List.set_cons_zero, List.set_cons_succ, i64_w, i32_w]
               rfl
              refine take_ (i := 5) (N := some 40) (v := ?_) (a' := ?_) #[true, true, false, true, true, true, false, true, true, false, false, true, true, false, false, false, false, false] rfl rfl (take_ofW HT_.out HW_.out (by kernel_rfl)) (fun _ _ _ h => h) (Or.inl ⟨by rfl, ?_⟩) hHeld ?_ ?_
              rotate_left
              ·rintro w' ⟨s0, s1⟩
               go_simp
               with_reducible rfl
              rotate_left
              ·simp only [Act.put, List.setIfInBounds_toArray, List.set_cons_zero, List.set_cons_succ, i64_w, i32_w]
               rfl
              refine pure_ (i := 6) (N := some 41) (v := ?_) (a' := ?_) #[true, true, false, true, true, true, true, true, true, false, false, true, true, false, false, false, false, false] rfl rfl (any_of HT_.out (by kernel_rfl)) (fun _ _ _ h => h) (Or.inl ⟨by rfl, ?_⟩) ?_ ?_
              rotate_left
              ·intro w'
               go_simp
               with_reducible rfl
              rotate_left
              ·simp only [Act.put, List.setIfInBounds_toArray, List.set_cons_zero, List.set_cons_succ, i64_w, i32_w]
               rfl
              refine take_ (i := 9) (N := some 44) (v := ?_) (a' := ?_) #[true, true, false, true, true, true, true, true, true, true, false, true, true, false, false, false, false, false] rfl rfl (take_ofW HT_.out HW_.out (by kernel_rfl)) (fun _ _ _ h => h) (Or.inl ⟨by rfl, ?_⟩) hHeld ?_ ?_
              rotate_left
              ·rintro w' ⟨s0, s1⟩
               go_simp
               with_reducible rfl
              rotate_left
              ·simp only [Act.put, List.setIfInBounds_toArray, List.set_cons_zero, List.set_cons_succ, i64_w, i32_w]
               rfl
              refine pure_ (i := 10) (N := some 45) (v := ?_) (a' := ?_) #[true, true, false, true, true, true, true, true, true, true, true, true, true, false, false, false, false, false] rfl rfl (any_of HT_.out (by kernel_rfl)) (fun _ _ _ h => h) (Or.inl ⟨by rfl, ?_⟩) ?_ ?_
              rotate_left
              ·intro w'
               go_simp
               with_reducible rfl
              rotate_left
              ·simp only [Act.put, List.setIfInBounds_toArray, List.set_cons_zero, List.set_cons_succ, i64_w, i32_w]
               rfl
              refine join_ (σ := Value × Nat) 1 #[true, true, true, true, true, true, true, true, true, true, true, true, true, true, true, true, true, false] (fun s_ => [(37, .int .i64 t301), (48, s_.1), (6, .pointer (some ⟨s_.2, 0, none⟩)), (49, .agg #[.int .i64 (wrap64 (rd dl80_ 2)), .int .i64 (wrap64 (rd dl80_ 3)), s_.1]), (50, .agg #[.int .i64 t301, .int .i64 (wrap64 (rd dl80_ 2)), .int .i64 (wrap64 (rd dl80_ 3)), s_.1])]) (fun s_ w' => (w'.cell? ⟨ad302.block, ad302.off + 2, none⟩ = some (.int .u8 (rd dl80_ 2)) ∧ w'.cell? ⟨ad302.block, ad302.off + 3, none⟩ = some (.int .u8 (rd dl80_ 3))) ∧ (Kd.R (Kd.int .u8) 5 w' w.heap.size (fun _ => True) s_.1 t305) ∧ (w'.heap[gb295]? = some (.cells #[.int .i64 0, .int .i64 0, .int .i64 0, .slice none 0 0] 61 (0, 0))) ∧ (w'.heap[s_.2]? = some (.cells #[.int .i64 0, .int .i64 0, .int .i64 0, .slice none 0 0] 61 (0, 0))) ∧ (w.heap.size ≤ s_.2) ∧ (w.heap.size ≤ s_.2) ∧ (gb295 ≠ s_.2) ∧ (s_.2 ≠ gb295) ∧ (Below w.heap.size w w')) ?_ ?_
              rotate_left
              ·intro hCont
               refine two_ (i := 2) (j := 16) (Ni := some 37) (Nj := some 6) #[true, true, true, true, true, true, true, true, true, true, true, true, true, false, false, false, false, false] #[true, true, false, true, true, true, true, true, true, true, true, true, true, false, false, false, true, false] rfl rfl rfl rfl (two_of HT_.out (by kernel_rfl)) (by decide) (by decide) (fun K hK => ?_) (fun K hK => ?_)
               ·skip
                refine goes_ Try.func183 (by kernel_rfl) rfl #[.slice (some ad302) (dl80_.take 2).length (c0 - 3)] (by rfl) rfl rfl (by (try simp only [List.map_toArray, List.map_cons, List.map_nil]); first | done | (rw [show (dl80_.take 2).length = 2 from (by rw [List.length_take]; have h_ : (2 : Int) ≤ (dl80_.length : Int) := of_decide_eq_true as_; omega)] <;> rfl) | rfl | (simp only [List.length_drop, List.length_take]; rfl)) ?_
                with_reducible refine (impl_numberOf.calls kj1 _ _ (dl80_.take 2) t301 _ ?side1 ?side2 A13.out).mono ?_
                (case side1 => exact kc_ (Kd.C_below HR300.out HB.out))
                (case side2 => exact HC300.out)
                rintro e w' ⟨rfl, ⟨nd, rfl⟩⟩
                refine ⟨_, rfl, ?_⟩
                refine hK.out _ _ ⟨((HB.out.cell (World.block_lt_of_cell? w _ hw302_0)).trans hw302_0), ((HB.out.cell (World.block_lt_of_cell? w _ hw303_0)).trans hw303_0)⟩ (fun hHeld => ?_)
                clear hK K
                refine norm_ (a' := ?_) ?_ ?_
                rotate_left
                ·show Act.put _ (some 37) _ = _
                 simp only [Act.put, List.setIfInBounds_toArray, List.set_cons_zero, List.set_cons_succ, i64_w, i32_w]
                 rfl
                refine two_ (i := 13) (j := 16) (Ni := some 48) (Nj := some 6) #[true, true, true, true, true, true, true, true, true, true, true, true, true, true, false, false, false, false] #[true, true, true, true, true, true, true, true, true, true, true, true, true, false, false, false, true, false] rfl rfl rfl rfl (two_of HT_.out (by kernel_rfl)) (by decide) (by decide) (fun K hK => ?_) (fun K hK => ?_)
                ·skip
                 refine goes_ Try.func132 (by kernel_rfl) rfl #[.slice A83 dl83_.length ((c0 - 3) - 5)] (by rfl) rfl rfl (by (try simp only [List.map_toArray, List.map_cons, List.map_nil]); first | done | (rw [show dl83_.length = (dl80_.length - 5) from List.length_drop] <;> rfl) | rfl | (simp only [List.length_drop, List.length_take]; rfl)) ?_
                 with_reducible refine (slices_Clone_byte_byte.calls _ _ dl83_ t305 _ ?side1 ?side2 A17.out).mono ?_
                 (case side1 => exact kc_ (Kd.C_below HR304.out bb_))
                 (case side2 => exact HC304.out)
                 rintro e w84 ⟨v306, rfl, ho0, hb⟩
                 refine ⟨_, rfl, ?_⟩
                 have n0_ := Aside0.mk (Kd.R_lower ho0 (below_size bb_))
                 have n1_ := Aside0.mk (blk_below (kb_ BK295) hb)
                 have n2_ := Aside0.mk (below_step bb_ hb)
                 clear BK295
                 clear HB
                 have HO307 := n0_
                 have BK295 := n1_
                 have HB := n2_
                 clear n0_ n1_ n2_
                 (try clear hb)
                 (try clear hb2)
                 (try clear hk)
                 (try clear hi)
                 (try clear ho0)
                 obtain ⟨Ao85, co85, eo85⟩ := Kd.R_slice HO307.out
                 (first | subst eo85 | (injection eo85 with f1_ f2_ f3_; have f4_ := f1_.symm; have f5_ := f3_.symm; clear f1_ f2_ f3_; subst f4_; subst f5_))
                 refine hK.out _ _ ⟨((HB.out.cell (World.block_lt_of_cell? w _ hw302_0)).trans hw302_0), ((HB.out.cell (World.block_lt_of_cell? w _ hw303_0)).trans hw303_0)⟩ (fun hHeld => ?_)
                 clear hK K
                 refine norm_ (a' := ?_) ?_ ?_
                 rotate_left
                 ·show Act.put _ (some 48) _ = _
                  simp only [Act.put, List.setIfInBounds_toArray, List.set_cons_zero, List.set_cons_succ, i64_w, i32_w]
                  rfl
                 refine pure_ (i := 14) (N := some 49) (v := ?_) (a' := ?_) #[true, true, true, true, true, true, true, true, true, true, true, true, true, true, true, false, false, false] rfl rfl (any_of HT_.out (by kernel_rfl)) (fun _ _ _ h => h) (Or.inl ⟨by rfl, ?_⟩) ?_ ?_
                 rotate_left
                 ·intro w'
                  go_simp
                  with_reducible rfl
                 rotate_left
                 ·simp only [Act.put, List.setIfInBounds_toArray, List.set_cons_zero, List.set_cons_succ, i64_w, i32_w]
                  rfl
                 refine pure_ (i := 15) (N := some 50) (v := ?_) (a' := ?_) #[true, true, true, true, true, true, true, true, true, true, true, true, true, true, true, true, false, false] rfl rfl (any_of HT_.out (by kernel_rfl)) (fun _ _ _ h => h) (Or.inl ⟨by rfl, ?_⟩) ?_ ?_
                 rotate_left
                 ·intro w'
                  go_simp
                  with_reducible rfl
                 rotate_left
                 ·simp only [Act.put, List.setIfInBounds_toArray, List.set_cons_zero, List.set_cons_succ, i64_w, i32_w]
                  rfl
                 refine one_ (i := 16) (N := some 6) #[true, true, true, true, true, true, true, true, true, true, true, true, true, true, true, true, true, false] rfl rfl (one_of HT_.out (by kernel_rfl)) (by decide) (fun K hK => ?_)
                 refine box_step ?hg (N := 6) ?hd (cs := #[.int .i64 0, .int .i64 0, .int .i64 0, .slice none 0 0]) (t := 61) ?hr ?_; (case hd => rfl); (case hg => rfl); (case hr => first | (go_simp; done) | (go_simp; rfl))
                 intro gb308 hg w86 hbox hb
                 have n0_ := Aside0.mk (Kd.R_below (kr_ HO307) hb)
                 have n1_ := Aside0.mk (blk_below (kb_ BK295) hb)
                 have n2_ := Aside0.mk (below_step bb_ hb)
                 have n3_ := Aside0.mk (hbox)
                 have n4_ := (bs_ hg : Aside0 (w.heap.size ≤ _))
                 have n5_ := (bs_ hg : Aside0 (w.heap.size ≤ _))
                 have n6_ := (nl_ hg BK295 : Aside0 (gb295 ≠ gb308))
                 have n7_ := (nr_ hg BK295 : Aside0 (gb308 ≠ gb295))
                 clear HO307
                 clear BK295
                 clear HB
                 have HO307 := n0_
                 have BK295 := n1_
                 have HB := n2_
                 have BK308 := n3_
                 have GW308 := n4_
                 have GE308 := n5_
                 have NB295_308 := n6_
                 have NB308_295 := n7_
                 clear n0_ n1_ n2_ n3_ n4_ n5_ n6_ n7_
                 clear hb hbox hg
                 refine hK.out _ _ ⟨((HB.out.cell (World.block_lt_of_cell? w _ hw302_0)).trans hw302_0), ((HB.out.cell (World.block_lt_of_cell? w _ hw303_0)).trans hw303_0)⟩ (fun hHeld => ?_)
                 clear hK K
                 refine norm_ (a' := ?_) ?_ ?_
                 rotate_left
                 ·show Act.put _ (some 6) _ = _
                  simp only [Act.put, List.setIfInBounds_toArray, List.set_cons_zero, List.set_cons_succ, i64_w, i32_w]
                  rfl
                 exact norm_ (by simp only [putAll, Act.put, List.setIfInBounds_toArray, List.set_cons_zero, List.set_cons_succ]) (hCont (.slice Ao85 t305.length co85, gb308) _ ⟨hHeld, (kr_ HO307), (by (with_reducible repeat (first | refine blk_drewN ?_ _ | refine blk_drew ?_ | refine blk_alloc ?_ _)); exact BK295.out), (by (with_reducible repeat (first | refine blk_drewN ?_ _ | refine blk_drew ?_ | refine blk_alloc ?_ _)); exact BK308.out), GW308.out, GE308.out, NB295_308.out, NB308_295.out, bb_⟩)
                ·skip
                 refine box_step ?hg (N := 6) ?hd (cs := #[.int .i64 0, .int .i64 0, .int .i64 0, .slice none 0 0]) (t := 61) ?hr ?_; (case hd => rfl); (case hg => rfl); (case hr => first | (go_simp; done) | (go_simp; rfl))
                 intro gb308 hg w84 hbox hb
                 have n0_ := Aside0.mk (blk_below (kb_ BK295) hb)
                 have n1_ := Aside0.mk (below_step bb_ hb)
                 have n2_ := Aside0.mk (hbox)
                 have n3_ := (bs_ hg : Aside0 (w.heap.size ≤ _))
                 have n4_ := (bs_ hg : Aside0 (w.heap.size ≤ _))
                 have n5_ := (nl_ hg BK295 : Aside0 (gb295 ≠ gb308))
                 have n6_ := (nr_ hg BK295 : Aside0 (gb308 ≠ gb295))
                 clear BK295
                 clear HB
                 have BK295 := n0_
                 have HB := n1_
                 have BK308 := n2_
                 have GW308 := n3_
                 have GE308 := n4_
                 have NB295_308 := n5_
                 have NB308_295 := n6_
                 clear n0_ n1_ n2_ n3_ n4_ n5_ n6_
                 clear hb hbox hg
                 refine hK.out _ _ ⟨((HB.out.cell (World.block_lt_of_cell? w _ hw302_0)).trans hw302_0), ((HB.out.cell (World.block_lt_of_cell? w _ hw303_0)).trans hw303_0)⟩ (fun hHeld => ?_)
                 clear hK K
                 refine norm_ (a' := ?_) ?_ ?_
                 rotate_left
                 ·show Act.put _ (some 6) _ = _
                  simp only [Act.put, List.setIfInBounds_toArray, List.set_cons_zero, List.set_cons_succ, i64_w, i32_w]
                  rfl
                 refine one_ (i := 13) (N := some 48) #[true, true, true, true, true, true, true, true, true, true, true, true, true, true, false, false, true, false] rfl rfl (one_of HT_.out (by kernel_rfl)) (by decide) (fun K hK => ?_)
                 refine goes_ Try.func132 (by kernel_rfl) rfl #[.slice A83 dl83_.length ((c0 - 3) - 5)] (by rfl) rfl rfl (by (try simp only [List.map_toArray, List.map_cons, List.map_nil]); first | done | (rw [show dl83_.length = (dl80_.length - 5) from List.length_drop] <;> rfl) | rfl | (simp only [List.length_drop, List.length_take]; rfl)) ?_
                 with_reducible refine (slices_Clone_byte_byte.calls _ _ dl83_ t305 _ ?side1 ?side2 A17.out).mono ?_
                 (case side1 => exact kc_ (Kd.C_below HR304.out HB.out))
                 (case side2 => exact HC304.out)
                 rintro e w85 ⟨v306, rfl, ho0, hb⟩
                 refine ⟨_, rfl, ?_⟩
                 have n0_ := Aside0.mk (Kd.R_lower ho0 (below_size bb_))
                 have n1_ := Aside0.mk (blk_below (kb_ BK295) hb)
                 have n2_ := Aside0.mk (blk_below (kb_ BK308) hb)
                 have n3_ := Aside0.mk (below_step bb_ hb)
                 clear BK295
                 clear BK308
                 clear HB
                 have HO307 := n0_
                 have BK295 := n1_
                 have BK308 := n2_
                 have HB := n3_
                 clear n0_ n1_ n2_ n3_
                 (try clear hb)
                 (try clear hb2)
                 (try clear hk)
                 (try clear hi)
                 (try clear ho0)
                 obtain ⟨Ao86, co86, eo86⟩ := Kd.R_slice HO307.out
                 (first | subst eo86 | (injection eo86 with f1_ f2_ f3_; have f4_ := f1_.symm; have f5_ := f3_.symm; clear f1_ f2_ f3_; subst f4_; subst f5_))
                 refine hK.out _ _ ⟨((HB.out.cell (World.block_lt_of_cell? w _ hw302_0)).trans hw302_0), ((HB.out.cell (World.block_lt_of_cell? w _ hw303_0)).trans hw303_0)⟩ (fun hHeld => ?_)
                 clear hK K
                 refine norm_ (a' := ?_) ?_ ?_
                 rotate_left
                 ·show Act.put _ (some 48) _ = _
                  simp only [Act.put, List.setIfInBounds_toArray, List.set_cons_zero, List.set_cons_succ, i64_w, i32_w]
                  rfl
                 refine pure_ (i := 14) (N := some 49) (v := ?_) (a' := ?_) #[true, true, true, true, true, true, true, true, true, true, true, true, true, true, true, false, true, false] rfl rfl (any_of HT_.out (by kernel_rfl)) (fun _ _ _ h => h) (Or.inl ⟨by rfl, ?_⟩) ?_ ?_
                 rotate_left
                 ·intro w'
                  go_simp
                  with_reducible rfl
                 rotate_left
                 ·simp only [Act.put, List.setIfInBounds_toArray, List.set_cons_zero, List.set_cons_succ, i64_w, i32_w]
                  rfl
                 refine pure_ (i := 15) (N := some 50) (v := ?_) (a' := ?_) #[true, true, true, true, true, true, true, true, true, true, true, true, true, true, true, true, true, false] rfl rfl (any_of HT_.out (by kernel_rfl)) (fun _ _ _ h => h) (Or.inl ⟨by rfl, ?_⟩) ?_ ?_
                 rotate_left
                 ·intro w'
                  go_simp
                  with_reducible rfl
                 rotate_left
                 ·simp only [Act.put, List.setIfInBounds_toArray, List.set_cons_zero, List.set_cons_succ, i64_w, i32_w]
                  rfl
                 exact norm_ (by simp only [putAll, Act.put, List.setIfInBounds_toArray, List.set_cons_zero, List.set_cons_succ]) (hCont (.slice Ao86 t305.length co86, gb308) _ ⟨hHeld, (kr_ HO307), (by (with_reducible repeat (first | refine blk_drewN ?_ _ | refine blk_drew ?_ | refine blk_alloc ?_ _)); exact BK295.out), (by (with_reducible repeat (first | refine blk_drewN ?_ _ | refine blk_drew ?_ | refine blk_alloc ?_ _)); exact BK308.out), GW308.out, GE308.out, NB295_308.out, NB308_295.out, bb_⟩)
               ·skip
                refine box_step ?hg (N := 6) ?hd (cs := #[.int .i64 0, .int .i64 0, .int .i64 0, .slice none 0 0]) (t := 61) ?hr ?_; (case hd => rfl); (case hg => rfl); (case hr => first | (go_simp; done) | (go_simp; rfl))
                intro gb308 hg w84 hbox hb
                have n0_ := Aside0.mk (blk_below (kb_ BK295) hb)
                have n1_ := Aside0.mk (below_step bb_ hb)
                have n2_ := Aside0.mk (hbox)
                have n3_ := (bs_ hg : Aside0 (w.heap.size ≤ _))
                have n4_ := (bs_ hg : Aside0 (w.heap.size ≤ _))
                have n5_ := (nl_ hg BK295 : Aside0 (gb295 ≠ gb308))
                have n6_ := (nr_ hg BK295 : Aside0 (gb308 ≠ gb295))
                clear BK295
                clear HB
                have BK295 := n0_
                have HB := n1_
                have BK308 := n2_
                have GW308 := n3_
                have GE308 := n4_
                have NB295_308 := n5_
                have NB308_295 := n6_
                clear n0_ n1_ n2_ n3_ n4_ n5_ n6_
                clear hb hbox hg
                refine hK.out _ _ ⟨((HB.out.cell (World.block_lt_of_cell? w _ hw302_0)).trans hw302_0), ((HB.out.cell (World.block_lt_of_cell? w _ hw303_0)).trans hw303_0)⟩ (fun hHeld => ?_)
                clear hK K
                refine norm_ (a' := ?_) ?_ ?_
                rotate_left
                ·show Act.put _ (some 6) _ = _
                 simp only [Act.put, List.setIfInBounds_toArray, List.set_cons_zero, List.set_cons_succ, i64_w, i32_w]
                 rfl
                refine one_ (i := 2) (N := some 37) #[true, true, true, true, true, true, true, true, true, true, true, true, true, false, false, false, true, false] rfl rfl (one_of HT_.out (by kernel_rfl)) (by decide) (fun K hK => ?_)
                refine goes_ Try.func183 (by kernel_rfl) rfl #[.slice (some ad302) (dl80_.take 2).length (c0 - 3)] (by rfl) rfl rfl (by (try simp only [List.map_toArray, List.map_cons, List.map_nil]); first | done | (rw [show (dl80_.take 2).length = 2 from (by rw [List.length_take]; have h_ : (2 : Int) ≤ (dl80_.length : Int) := of_decide_eq_true as_; omega)] <;> rfl) | rfl | (simp only [List.length_drop, List.length_take]; rfl)) ?_
                with_reducible refine (impl_numberOf.calls kj1 _ _ (dl80_.take 2) t301 _ ?side1 ?side2 A13.out).mono ?_
                (case side1 => exact kc_ (Kd.C_below HR300.out HB.out))
                (case side2 => exact HC300.out)
                rintro e w' ⟨rfl, ⟨nd, rfl⟩⟩
                refine ⟨_, rfl, ?_⟩
                refine hK.out _ _ ⟨((HB.out.cell (World.block_lt_of_cell? w _ hw302_0)).trans hw302_0), ((HB.out.cell (World.block_lt_of_cell? w _ hw303_0)).trans hw303_0)⟩ (fun hHeld => ?_)
                clear hK K
                refine norm_ (a' := ?_) ?_ ?_
                rotate_left
                ·show Act.put _ (some 37) _ = _
                 simp only [Act.put, List.setIfInBounds_toArray, List.set_cons_zero, List.set_cons_succ, i64_w, i32_w]
                 rfl
                refine one_ (i := 13) (N := some 48) #[true, true, true, true, true, true, true, true, true, true, true, true, true, true, false, false, true, false] rfl rfl (one_of HT_.out (by kernel_rfl)) (by decide) (fun K hK => ?_)
                refine goes_ Try.func132 (by kernel_rfl) rfl #[.slice A83 dl83_.length ((c0 - 3) - 5)] (by rfl) rfl rfl (by (try simp only [List.map_toArray, List.map_cons, List.map_nil]); first | done | (rw [show dl83_.length = (dl80_.length - 5) from List.length_drop] <;> rfl) | rfl | (simp only [List.length_drop, List.length_take]; rfl)) ?_
                with_reducible refine (slices_Clone_byte_byte.calls _ _ dl83_ t305 _ ?side1 ?side2 A17.out).mono ?_
                (case side1 => exact kc_ (Kd.C_below HR304.out bb_))
                (case side2 => exact HC304.out)
                rintro e w85 ⟨v306, rfl, ho0, hb⟩
                refine ⟨_, rfl, ?_⟩
                have n0_ := Aside0.mk (Kd.R_lower ho0 (below_size bb_))
                have n1_ := Aside0.mk (blk_below (kb_ BK295) hb)
                have n2_ := Aside0.mk (blk_below (kb_ BK308) hb)
                have n3_ := Aside0.mk (below_step bb_ hb)
                clear BK295
                clear BK308
                clear HB
                have HO307 := n0_
                have BK295 := n1_
                have BK308 := n2_
                have HB := n3_
                clear n0_ n1_ n2_ n3_
                (try clear hb)
                (try clear hb2)
                (try clear hk)
                (try clear hi)
                (try clear ho0)
                obtain ⟨Ao86, co86, eo86⟩ := Kd.R_slice HO307.out
                (first | subst eo86 | (injection eo86 with f1_ f2_ f3_; have f4_ := f1_.symm; have f5_ := f3_.symm; clear f1_ f2_ f3_; subst f4_; subst f5_))
                refine hK.out _ _ ⟨((HB.out.cell (World.block_lt_of_cell? w _ hw302_0)).trans hw302_0), ((HB.out.cell (World.block_lt_of_cell? w _ hw303_0)).trans hw303_0)⟩ (fun hHeld => ?_)
                clear hK K
                refine norm_ (a' := ?_) ?_ ?_
                rotate_left
                ·show Act.put _ (some 48) _ = _
                 simp only [Act.put, List.setIfInBounds_toArray, List.set_cons_zero, List.set_cons_succ, i64_w, i32_w]
                 rfl
                refine pure_ (i := 14) (N := some 49) (v := ?_) (a' := ?_) #[true, true, true, true, true, true, true, true, true, true, true, true, true, true, true, false, true, false] rfl rfl (any_of HT_.out (by kernel_rfl)) (fun _ _ _ h => h) (Or.inl ⟨by rfl, ?_⟩) ?_ ?_
                rotate_left
                ·intro w'
                 go_simp
                 with_reducible rfl
                rotate_left
                ·simp only [Act.put, List.setIfInBounds_toArray, List.set_cons_zero, List.set_cons_succ, i64_w, i32_w]
                 rfl
                refine pure_ (i := 15) (N := some 50) (v := ?_) (a' := ?_) #[true, true, true, true, true, true, true, true, true, true, true, true, true, true, true, true, true, false] rfl rfl (any_of HT_.out (by kernel_rfl)) (fun _ _ _ h => h) (Or.inl ⟨by rfl, ?_⟩) ?_ ?_
                rotate_left
                ·intro w'
                 go_simp
                 with_reducible rfl
                rotate_left
                ·simp only [Act.put, List.setIfInBounds_toArray, List.set_cons_zero, List.set_cons_succ, i64_w, i32_w]
                 rfl
                exact norm_ (by simp only [putAll, Act.put, List.setIfInBounds_toArray, List.set_cons_zero, List.set_cons_succ]) (hCont (.slice Ao86 t305.length co86, gb308) _ ⟨hHeld, (kr_ HO307), (by (with_reducible repeat (first | refine blk_drewN ?_ _ | refine blk_drew ?_ | refine blk_alloc ?_ _)); exact BK295.out), (by (with_reducible repeat (first | refine blk_drewN ?_ _ | refine blk_drew ?_ | refine blk_alloc ?_ _)); exact BK308.out), GW308.out, GE308.out, NB295_308.out, NB308_295.out, bb_⟩)
              rintro ⟨v306, gb308⟩ w87 ⟨hS_, h0_, h1_, h2_, h3_, h4_, h5_, h6_, h7_⟩
              have n0_ : Aside0 (Kd.R (Kd.int .u8) 5 w87 w.heap.size (fun _ => True) v306 t305) := ⟨h0_⟩
              have n1_ : Aside0 (w87.heap[gb295]? = some (.cells #[.int .i64 0, .int .i64 0, .int .i64 0, .slice none 0 0] 61 (0, 0))) := ⟨h1_⟩
              have n2_ : Aside0 (w87.heap[gb308]? = some (.cells #[.int .i64 0, .int .i64 0, .int .i64 0, .slice none 0 0] 61 (0, 0))) := ⟨h2_⟩
              have n3_ : Aside0 (w.heap.size ≤ gb308) := ⟨h3_⟩
              have n4_ : Aside0 (w.heap.size ≤ gb308) := ⟨h4_⟩
              have n5_ : Aside0 (gb295 ≠ gb308) := ⟨h5_⟩
              have n6_ : Aside0 (gb308 ≠ gb295) := ⟨h6_⟩
              have n7_ : Aside0 (Below w.heap.size w w87) := ⟨h7_⟩
              clear BK295
              clear HB
              clear h0_ h1_ h2_ h3_ h4_ h5_ h6_ h7_
              have HO307 := n0_
              have BK295 := n1_
              have BK308 := n2_
              have GW308 := n3_
              have GE308 := n4_
              have NB295_308 := n5_
              have NB308_295 := n6_
              have HB := n7_
              clear n0_ n1_ n2_ n3_ n4_ n5_ n6_ n7_
              have hHeld : w87.cell? ⟨ad302.block, ad302.off + 2, none⟩ = some (.int .u8 (rd dl80_ 2)) ∧ w87.cell? ⟨ad302.block, ad302.off + 3, none⟩ = some (.int .u8 (rd dl80_ 3)) := hS_
              obtain ⟨Ao88, co88, eo88⟩ := Kd.R_slice HO307.out
              (first | subst eo88 | (injection eo88 with f1_ f2_ f3_; have f4_ := f1_.symm; have f5_ := f3_.symm; clear f1_ f2_ f3_; subst f4_; subst f5_))
              refine norm_ (a' := ?_) ?_ ?_
              rotate_left
              ·simp only [putAll, Act.put, List.setIfInBounds_toArray, List.set_cons_zero, List.set_cons_succ]
               rfl
              refine one_ (i := 17) (N := none) #[true, true, true, true, true, true, true, true, true, true, true, true, true, true, true, true, true, true] rfl rfl (one_of HT_.out (by kernel_rfl)) (by decide) (fun K hK => ?_)
              have hs89 : w87.cell? ⟨gb308, 0, none⟩ = some (.int .i64 0) := (blk_cell BK308.out 0).trans rfl
              have hfs89 := blk_frozen BK308.out 0
              have hns89_0 := NB295_308.out
              have hms89_0 := NB308_295.out
              have hs90 : w87.cell? ⟨gb308, 1, none⟩ = some (.int .i64 0) := (blk_cell BK308.out 1).trans rfl
              have hfs90 := blk_frozen BK308.out 1
              have hns90_0 := NB295_308.out
              have hms90_0 := NB308_295.out
              have hs91 : w87.cell? ⟨gb308, 2, none⟩ = some (.int .i64 0) := (blk_cell BK308.out 2).trans rfl
              have hfs91 := blk_frozen BK308.out 2
              have hns91_0 := NB295_308.out
              have hms91_0 := NB308_295.out
              have hs92 : w87.cell? ⟨gb308, 3, none⟩ = some (.slice none 0 0) := (blk_cell BK308.out 3).trans rfl
              have hfs92 := blk_frozen BK308.out 3
              have hns92_0 := NB295_308.out
              have hms92_0 := NB308_295.out
              refine skip_ (w1 := ?_) ?_ ?_ ?_ ?_
              rotate_left
              ·first | kernel_rfl | rfl
              ·rfl
              ·go_simp
               rfl
              refine hK.out _ _ ⟨((cell_far (p := ⟨gb308, _, none⟩) (by first | exact Nat.ne_of_lt (Nat.lt_of_lt_of_le (by have := World.block_lt_of_cell? _ _ hw302_0; first | rwa [add_block] at this | exact this) GW308.out) | (rw [add_block]; exact Nat.ne_of_lt (Nat.lt_of_lt_of_le (by have := World.block_lt_of_cell? _ _ hw302_0; first | rwa [add_block] at this | exact this) GW308.out)) | (show (Addr.add _ _).block ≠ _; rw [add_block]; exact Nat.ne_of_lt (Nat.lt_of_lt_of_le (by have := World.block_lt_of_cell? _ _ hw302_0; first | rwa [add_block] at this | exact this) GW308.out)) | (dsimp only; exact Nat.ne_of_lt (Nat.lt_of_lt_of_le (by have := World.block_lt_of_cell? _ _ hw302_0; first | rwa [add_block] at this | exact this) GW308.out))) _).trans (((cell_far (p := ⟨gb308, _, none⟩) (by first | exact Nat.ne_of_lt (Nat.lt_of_lt_of_le (by have := World.block_lt_of_cell? _ _ hw302_0; first | rwa [add_block] at this | exact this) GW308.out) | (rw [add_block]; exact Nat.ne_of_lt (Nat.lt_of_lt_of_le (by have := World.block_lt_of_cell? _ _ hw302_0; first | rwa [add_block] at this | exact this) GW308.out)) | (show (Addr.add _ _).block ≠ _; rw [add_block]; exact Nat.ne_of_lt (Nat.lt_of_lt_of_le (by have := World.block_lt_of_cell? _ _ hw302_0; first | rwa [add_block] at this | exact this) GW308.out)) | (dsimp only; exact Nat.ne_of_lt (Nat.lt_of_lt_of_le (by have := World.block_lt_of_cell? _ _ hw302_0; first | rwa [add_block] at this | exact this) GW308.out))) _).trans (((cell_far (p := ⟨gb308, _, none⟩) (by first | exact Nat.ne_of_lt (Nat.lt_of_lt_of_le (by have := World.block_lt_of_cell? _ _ hw302_0; first | rwa [add_block] at this | exact this) GW308.out) | (rw [add_block]; exact Nat.ne_of_lt (Nat.lt_of_lt_of_le (by have := World.block_lt_of_cell? _ _ hw302_0; first | rwa [add_block] at this | exact this) GW308.out)) | (show (Addr.add _ _).block ≠ _; rw [add_block]; exact Nat.ne_of_lt (Nat.lt_of_lt_of_le (by have := World.block_lt_of_cell? _ _ hw302_0; first | rwa [add_block] at this | exact this) GW308.out)) | (dsimp only; exact Nat.ne_of_lt (Nat.lt_of_lt_of_le (by have := World.block_lt_of_cell? _ _ hw302_0; first | rwa [add_block] at this | exact this) GW308.out))) _).trans (((cell_far (p := ⟨gb308, _, none⟩) (by first | exact Nat.ne_of_lt (Nat.lt_of_lt_of_le (by have := World.block_lt_of_cell? _ _ hw302_0; first | rwa [add_block] at this | exact this) GW308.out) | (rw [add_block]; exact Nat.ne_of_lt (Nat.lt_of_lt_of_le (by have := World.block_lt_of_cell? _ _ hw302_0; first | rwa [add_block] at this | exact this) GW308.out)) | (show (Addr.add _ _).block ≠ _; rw [add_block]; exact Nat.ne_of_lt (Nat.lt_of_lt_of_le (by have := World.block_lt_of_cell? _ _ hw302_0; first | rwa [add_block] at this | exact this) GW308.out)) | (dsimp only; exact Nat.ne_of_lt (Nat.lt_of_lt_of_le (by have := World.block_lt_of_cell? _ _ hw302_0; first | rwa [add_block] at this | exact this) GW308.out))) _).trans (hHeld.1)))))))), ((cell_far (p := ⟨gb308, _, none⟩) (by first | exact Nat.ne_of_lt (Nat.lt_of_lt_of_le (by have := World.block_lt_of_cell? _ _ hw303_0; first | rwa [add_block] at this | exact this) GW308.out) | (rw [add_block]; exact Nat.ne_of_lt (Nat.lt_of_lt_of_le (by have := World.block_lt_of_cell? _ _ hw303_0; first | rwa [add_block] at this | exact this) GW308.out)) | (show (Addr.add _ _).block ≠ _; rw [add_block]; exact Nat.ne_of_lt (Nat.lt_of_lt_of_le (by have := World.block_lt_of_cell? _ _ hw303_0; first | rwa [add_block] at this | exact this) GW308.out)) | (dsimp only; exact Nat.ne_of_lt (Nat.lt_of_lt_of_le (by have := World.block_lt_of_cell? _ _ hw303_0; first | rwa [add_block] at this | exact this) GW308.out))) _).trans (((cell_far (p := ⟨gb308, _, none⟩) (by first | exact Nat.ne_of_lt (Nat.lt_of_lt_of_le (by have := World.block_lt_of_cell? _ _ hw303_0; first | rwa [add_block] at this | exact this) GW308.out) | (rw [add_block]; exact Nat.ne_of_lt (Nat.lt_of_lt_of_le (by have := World.block_lt_of_cell? _ _ hw303_0; first | rwa [add_block] at this | exact this) GW308.out)) | (show (Addr.add _ _).block ≠ _; rw [add_block]; exact Nat.ne_of_lt (Nat.lt_of_lt_of_le (by have := World.block_lt_of_cell? _ _ hw303_0; first | rwa [add_block] at this | exact this) GW308.out)) | (dsimp only; exact Nat.ne_of_lt (Nat.lt_of_lt_of_le (by have := World.block_lt_of_cell? _ _ hw303_0; first | rwa [add_block] at this | exact this) GW308.out))) _).trans (((cell_far (p := ⟨gb308, _, none⟩) (by first | exact Nat.ne_of_lt (Nat.lt_of_lt_of_le (by have := World.block_lt_of_cell? _ _ hw303_0; first | rwa [add_block] at this | exact this) GW308.out) | (rw [add_block]; exact Nat.ne_of_lt (Nat.lt_of_lt_of_le (by have := World.block_lt_of_cell? _ _ hw303_0; first | rwa [add_block] at this | exact this) GW308.out)) | (show (Addr.add _ _).block ≠ _; rw [add_block]; exact Nat.ne_of_lt (Nat.lt_of_lt_of_le (by have := World.block_lt_of_cell? _ _ hw303_0; first | rwa [add_block] at this | exact this) GW308.out)) | (dsimp only; exact Nat.ne_of_lt (Nat.lt_of_lt_of_le (by have := World.block_lt_of_cell? _ _ hw303_0; first | rwa [add_block] at this | exact this) GW308.out))) _).trans (((cell_far (p := ⟨gb308, _, none⟩) (by first | exact Nat.ne_of_lt (Nat.lt_of_lt_of_le (by have := World.block_lt_of_cell? _ _ hw303_0; first | rwa [add_block] at this | exact this) GW308.out) | (rw [add_block]; exact Nat.ne_of_lt (Nat.lt_of_lt_of_le (by have := World.block_lt_of_cell? _ _ hw303_0; first | rwa [add_block] at this | exact this) GW308.out)) | (show (Addr.add _ _).block ≠ _; rw [add_block]; exact Nat.ne_of_lt (Nat.lt_of_lt_of_le (by have := World.block_lt_of_cell? _ _ hw303_0; first | rwa [add_block] at this | exact this) GW308.out)) | (dsimp only; exact Nat.ne_of_lt (Nat.lt_of_lt_of_le (by have := World.block_lt_of_cell? _ _ hw303_0; first | rwa [add_block] at this | exact this) GW308.out))) _).trans (hHeld.2))))))))⟩ (fun hHeld => ?_)
              clear hK K
              refine done_ (done_of HT_.out (by kernel_rfl)) ?_
              obtain ⟨i093, hi093, _, hsz93, _⟩ := info_parts info5
              obtain ⟨A93, hcut93, hA93, hC93⟩ := print_mid_of (P := Try.prog) (Value.int .u8) 0 22 5 .i64 .i64 Try.underlying22 hi093 hsz93 (some ad298) c0 l0 1 3 (by omega) (by first | omega | exact of_decide_eq_true as_) (of_decide_eq_true as_) HC0.out
              have HR309 := Aside0.mk (Kd.C_of_reads (h1 := fun _ => rfl) (hA93 _ (Kd.reads_of_C HR0.out)))
              have HC309 := Aside0.mk hC93
              clear hA93 hC93 hi093 hsz93
              try go_wp2_with (first | ((with_reducible refine gate_callee (f := 183) rfl ?_); refine goesL_ (some 53) rfl rfl Try.func183 (by kernel_rfl) rfl #[.slice A93 ((l0.take 3).drop 1).length (c0 - 1)] rfl (by (try simp only [List.map_toArray, List.map_cons, List.map_nil]); first | done | (rw [show ((l0.take 3).drop 1).length = (3 - 1) from (by rw [List.length_drop, List.length_take]; have h_ : (3 : Int) ≤ (l0.length : Int) := of_decide_eq_true as_; omega)] <;> rfl) | rfl | (simp only [List.length_drop, List.length_take]; rfl)) ?_; (with_reducible refine (impl_numberOf.calls kj1 _ _ ((l0.take 3).drop 1) t310 _ ?side1 ?side2 A20.out).mono ?_); (case side1 => exact Kd.C_below HR309.out bb_); (case side2 => exact HC309.out); rintro e w' ⟨rfl, ⟨nd, rfl⟩⟩; refine ⟨_, rfl, ?_⟩) | ((with_reducible refine gate_callee (f := 138) rfl ?_); refine goesL_ (some 55) rfl rfl Try.func138 (by kernel_rfl) rfl #[.slice (some ad302) dl80_.length (c0 - 3)] rfl (by (try simp only [List.map_toArray, List.map_cons, List.map_nil]); first | done | (rw [show dl80_.length = ((wrap64 (3 + (wrap64 (rd l0 0)))).toNat - 3) from (by rw [List.length_drop, List.length_take]; have h_ : ((wrap64 (3 + (wrap64 (rd l0 0)))) : Int) ≤ (l0.length : Int) := of_decide_eq_true as_; omega)] <;> rfl) | rfl | (simp only [List.length_drop, List.length_take]; rfl)) ?_; (with_reducible refine (impl_SumBytes.calls kj1 _ _ dl80_ t311 _ ?side1 ?side2 A21.out).mono ?_); (case side1 => exact Kd.C_below HR299.out bb_); (case side2 => exact HC299.out); rintro e w' ⟨rfl, ⟨nd, rfl⟩⟩; refine ⟨_, rfl, ?_⟩; have hnb94 := NB295_308.out; have hnc94 := NB308_295.out; obtain ⟨hcz95_0, hcz95_1, hcz95_2, hcz95_3, hfz95_0, hfz95_1, hfz95_2, hfz95_3⟩ := cf4_ BK295))
              refine bodyPost_ret (results_ct rfl _ _ gb295 61 #[.int .i64 0, .int .i64 0, .int .i64 0, .slice none 0 0] (0, 0) _ rfl (by (with_reducible repeat (first | refine blk_drewN ?_ _ | refine blk_drew ?_ | refine blk_alloc ?_ _)); refine blk_put (cs := #[.int .i64 0, .int .i64 0, .int .i64 0, .slice none 0 0]) ?_ 3 _ rfl; (with_reducible repeat (first | refine blk_drewN ?_ _ | refine blk_drew ?_ | refine blk_alloc ?_ _)); refine blk_put (cs := #[.int .i64 0, .int .i64 0, .int .i64 0, .slice none 0 0]) ?_ 2 _ rfl; (with_reducible repeat (first | refine blk_drewN ?_ _ | refine blk_drew ?_ | refine blk_alloc ?_ _)); refine blk_put (cs := #[.int .i64 0, .int .i64 0, .int .i64 0, .slice none 0 0]) ?_ 1 _ rfl; (with_reducible repeat (first | refine blk_drewN ?_ _ | refine blk_drew ?_ | refine blk_alloc ?_ _)); refine blk_put (cs := #[.int .i64 0, .int .i64 0, .int .i64 0, .slice none 0 0]) ?_ 0 _ rfl; (with_reducible repeat (first | refine blk_drewN ?_ _ | refine blk_drew ?_ | refine blk_alloc ?_ _)); refine blk_far ?_ NB295_308.out _; (with_reducible repeat (first | refine blk_drewN ?_ _ | refine blk_drew ?_ | refine blk_alloc ?_ _)); refine blk_far ?_ NB295_308.out _; (with_reducible repeat (first | refine blk_drewN ?_ _ | refine blk_drew ?_ | refine blk_alloc ?_ _)); refine blk_far ?_ NB295_308.out _; (with_reducible repeat (first | refine blk_drewN ?_ _ | refine blk_drew ?_ | refine blk_alloc ?_ _)); refine blk_far ?_ NB295_308.out _; (with_reducible repeat (first | refine blk_drewN ?_ _ | refine blk_drew ?_ | refine blk_alloc ?_ _)); exact BK295.out) Try.underlying61 rfl (by kernel_rfl)) rfl ?_
              exact ⟨_, er_, by first | exact Kd.R_nil _ _ _ _ _ | exact Kd.N_nil _ _ _ _ _ | exact Kd.V_nil _ _ _ _ _ | exact Kd.Q_nil _ _ _ _ _ | exact Kd.S_nil _ _ _ _ _, bb_⟩
            ·rw [if_neg c19] at H
             exact absurd H (by simp)
           ·rw [if_neg c18] at H
            exact absurd H (by simp)
          ·rw [if_neg c16] at H
           exact absurd H (by simp)
         ·rw [if_neg c15] at H
          exact absurd H (by simp)
        ·rw [if_neg c14] at H
         exact absurd H (by simp)
       ·rw [if_neg c12] at H
        exact absurd H (by simp)
      ·rw [if_neg c11] at H
       exact absurd H (by simp)
     ·rw [if_neg c10] at H
      exact absurd H (by simp)
    ·rw [if_neg c9] at H
     exact absurd H (by simp)
end Go.Proofs.Ythmkjapmnlhflaa.PFnExactCrashJournal
