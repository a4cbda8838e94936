/- The functions that the law FnExactAppendJournal reaches: each as a plain Lean function, with the proof that the call does what it says. -/
import Derived.Lib.SliceRun
import Derived.Test.YthmkjapmnlhflaaYFnExactAppendJournalx0
import Derived.Test.YthmkjapmnlhflaaYFnExactAppendJournalx7
namespace Go.Proofs.Ythmkjapmnlhflaa.PFnExactAppendJournal
open Go.RowKit Go.Proofs.YthmkjapmnlhflaaW.PrintWords Go.Proofs.YthmkjapmnlhflaaW.PrintLast Go.Proofs.YthmkjapmnlhflaaW.PrintMore
attribute [local go_sem] max2_int min2_int max_two min_two max_three min_three max_four min_four
set_option linter.unusedVariables false
set_option linter.unusedSimpArgs false
def laws_toEntry.f (k : Nat) (a0_0 : Int) (a0_1 : Int) (a0_2 : Int) (l0_3 : List Int) : Option (Int × Int × Int × List Int) := (laws_toEvent.f k a0_1 a0_2 l0_3).bind fun bt287 => (some (a0_0, bt287.1, bt287.2.1, bt287.2.2))
theorem laws_toEntry.mono : ∀ a0 a1 a2 a3 k, LeO (laws_toEntry.f k a0 a1 a2 a3) (laws_toEntry.f (k + 1) a0 a1 a2 a3) := by
  intro a0 a1 a2 a3 k; unfold laws_toEntry.f
  repeat' first
      | (with_reducible exact laws_toEvent.mono _ _ _ _)
      | (with_reducible exact LeO.refl _)
      | (with_reducible exact LeO.none _)
      | (with_reducible refine LeO.ite ?_ ?_)
      | (with_reducible refine LeO.bind ?_ (fun _ => ?_))
      | exact laws_toEvent.mono _ _ _ _
      | exact LeO.none _
      | refine LeO.ite ?_ ?_
      | refine LeO.bind ?_ (fun _ => ?_)
set_option maxHeartbeats 8000000 in
set_option maxRecDepth 100000 in
theorem laws_toEntry.calls (k : Nat) (a0_0 : Int) (a0_1 : Int) (a0_2 : Int) (A0_3 : Option Addr) (c0_3 : Nat) (l0_3 : List Int) (r1 : Int) (r2 : Int) (r3 : Int) (r4 : List Int) (w : World) (hr0_3 : Kd.C (Kd.int .u8) w A0_3 l0_3.length l0_3) (hc0_3 : l0_3.length ≤ c0_3) (h : laws_toEntry.f k a0_0 a0_1 a0_2 l0_3 = some (r1, r2, r3, r4)) :
    Calls Try.prog 37 #[.agg #[.int .i64 a0_0, .int .i64 a0_1, .int .i64 a0_2, .slice A0_3 l0_3.length c0_3]] w fun e w' => ∃ v3_ : Value, e = .returned (.agg #[.int .i64 r1, .int .i64 r2, .int .i64 r3, v3_]) ∧ Kd.R (Kd.int .u8) 5 w' w.heap.size (fun _ => True) v3_ r4 ∧ Below w.heap.size w w' := by
  have hu56 := Try.underlying56; have hu61 := Try.underlying61; have hu54 := Try.underlying54; have hu59 := Try.underlying59; have HR0_3 := Aside0.mk hr0_3; have HC0_3 := Aside0.mk hc0_3; clear hr0_3 hc0_3; have HB := Aside0.mk (Below.refl w.heap.size w); have H : ((laws_toEvent.f k a0_1 a0_2 l0_3).bind fun bt287 => (some (a0_0, bt287.1, bt287.2.1, bt287.2.2))) = some (r1, r2, r3, r4) := h; clear h; replace H := Option.bind_eq_some_iff.mp H; obtain ⟨⟨t287, t288, t289⟩, A20, H⟩ := H; replace H : (some (a0_0, t287, t288, t289)) = some (r1, r2, r3, r4) := H; have A2 := Aside0.mk A20; clear A20; simp only [Option.some.injEq, Prod.mk.injEq] at H; obtain ⟨rfl, rfl, rfl, rfl⟩ := H
  go_enter Try.func37, Try.ntmps37
  go_wp2_with (first | ((with_reducible refine gate_dst (N := 1) rfl ?_); refine box_e_ 1 #[.int .i64 a0_0, .int .i64 a0_1, .int .i64 a0_2, .slice A0_3 l0_3.length c0_3] 56 ?_; intro gb284 hg w3 hbox hb; have BK284 := Aside0.mk (hbox); have GW284 := (bs_ hg : Aside0 (w.heap.size ≤ _)); have GE284 := (bs_ hg : Aside0 (w.heap.size ≤ _)); replace HB := bw_ hb; clear hb hbox hg) | ((with_reducible refine gate_dst (N := 2) rfl ?_); refine box_e_ 2 #[.int .i64 0, .int .i64 0, .int .i64 0, .slice none 0 0] 61 ?_; intro gb285 hg w4 hbox hb; have BK285 := Aside0.mk (hbox); have GW285 := (bs_ hg : Aside0 (w.heap.size ≤ _)); have GE285 := (bs_ hg : Aside0 (w.heap.size ≤ _)); replace HB := bw_ hb; have NB284_285 := (nl_ hg BK284 : Aside0 (gb284 ≠ gb285)); have NB285_284 := (nr_ hg BK284 : Aside0 (gb285 ≠ gb284)); replace BK284 := bl_ BK284 hb; clear hb hbox hg) | ((with_reducible refine gate_dst (N := 3) rfl ?_); refine box_e_ 3 #[.int .i64 0, .int .i64 0, .int .i64 0, .slice none 0 0] 61 ?_; intro gb286 hg w5 hbox hb; have BK286 := Aside0.mk (hbox); have GW286 := (bs_ hg : Aside0 (w.heap.size ≤ _)); have GE286 := (bs_ hg : Aside0 (w.heap.size ≤ _)); replace HB := bw_ hb; have NB284_286 := (nl_ hg BK284 : Aside0 (gb284 ≠ gb286)); have NB286_284 := (nr_ hg BK284 : Aside0 (gb286 ≠ gb284)); replace BK284 := bl_ BK284 hb; have NB285_286 := (nl_ hg BK285 : Aside0 (gb285 ≠ gb286)); have NB286_285 := (nr_ hg BK285 : Aside0 (gb286 ≠ gb285)); replace BK285 := bl_ BK285 hb; clear hb hbox hg; have hnb6 := NB284_285.out; have hnc6 := NB285_284.out; have hnb7 := NB284_286.out; have hnc7 := NB286_284.out; obtain ⟨hcz8_0, hcz8_1, hcz8_2, hcz8_3, hfz8_0, hfz8_1, hfz8_2, hfz8_3⟩ := cf4_ BK284; have hnb9 := NB286_285.out; have hnc9 := NB285_286.out; obtain ⟨hcz10_0, hcz10_1, hcz10_2, hcz10_3, hfz10_0, hfz10_1, hfz10_2, hfz10_3⟩ := cf4_ BK286) | ((with_reducible refine gate_callee (f := 97) rfl ?_); refine goe_ (some 9) Try.func97 #[.agg #[.int .i64 a0_1, .int .i64 a0_2, .slice A0_3 l0_3.length c0_3]] ?_; (with_reducible refine (laws_toEvent.calls k a0_1 a0_2 _ _ l0_3 t287 t288 t289 _ ?side1 ?side2 A2.out).mono ?_); (case side1 => exact Kd.C_below HR0_3.out bb_); (case side2 => exact HC0_3.out); rintro e w11 ⟨v290, rfl, ho0, hb⟩; refine ⟨_, rfl, ?_⟩; have HO291 := Aside0.mk (Kd.R_lower ho0 (below_size bb_)); replace BK284 := bl_ BK284 hb; replace BK285 := bl_ BK285 hb; replace BK286 := Aside0.mk (blk_below (g := gb286) (o := .cells #[.int .i64 a0_0, .int .i64 0, .int .i64 0, .slice none 0 0] 61 (0, 0)) (by (with_reducible repeat (first | refine blk_drewN ?_ _ | refine blk_drew ?_ | refine blk_alloc ?_ _)); refine blk_put (cs := #[.int .i64 0, .int .i64 0, .int .i64 0, .slice none 0 0]) ?_ 0 _ rfl; (with_reducible repeat (first | refine blk_drewN ?_ _ | refine blk_drew ?_ | refine blk_alloc ?_ _)); exact BK286.out) hb); replace HB := bw_ hb; (try clear hb); (try clear ho0); obtain ⟨hcz12_0, hcz12_1, hcz12_2, hcz12_3, hfz12_0, hfz12_1, hfz12_2, hfz12_3⟩ := cf4_ BK286; obtain ⟨Ao13, co13, eo13⟩ := Kd.R_slice HO291.out; subst eo13; obtain ⟨hcz14_0, hcz14_1, hcz14_2, hcz14_3, hfz14_0, hfz14_1, hfz14_2, hfz14_3⟩ := cf4_ BK285))
  refine bodyPost_ret (results_cell_row rfl _ _ gb285 61 #[.int .i64 a0_0, .int .i64 t287, .int .i64 t288, .slice Ao13 t289.length co13] (0, 0) _ rfl (by (with_reducible repeat (first | refine blk_drewN ?_ _ | refine blk_drew ?_ | refine blk_alloc ?_ _)); refine blk_put (cs := #[.int .i64 a0_0, .int .i64 t287, .int .i64 t288, .slice none 0 0]) ?_ 3 _ rfl; (with_reducible repeat (first | refine blk_drewN ?_ _ | refine blk_drew ?_ | refine blk_alloc ?_ _)); refine blk_put (cs := #[.int .i64 a0_0, .int .i64 t287, .int .i64 0, .slice none 0 0]) ?_ 2 _ rfl; (with_reducible repeat (first | refine blk_drewN ?_ _ | refine blk_drew ?_ | refine blk_alloc ?_ _)); refine blk_put (cs := #[.int .i64 a0_0, .int .i64 0, .int .i64 0, .slice none 0 0]) ?_ 1 _ rfl; (with_reducible repeat (first | refine blk_drewN ?_ _ | refine blk_drew ?_ | refine blk_alloc ?_ _)); refine blk_put (cs := #[.int .i64 0, .int .i64 0, .int .i64 0, .slice none 0 0]) ?_ 0 _ rfl; (with_reducible repeat (first | refine blk_drewN ?_ _ | refine blk_drew ?_ | refine blk_alloc ?_ _)); refine blk_far ?_ NB285_286.out _; (with_reducible repeat (first | refine blk_drewN ?_ _ | refine blk_drew ?_ | refine blk_alloc ?_ _)); refine blk_far ?_ NB285_286.out _; (with_reducible repeat (first | refine blk_drewN ?_ _ | refine blk_drew ?_ | refine blk_alloc ?_ _)); refine blk_far ?_ NB285_286.out _; (with_reducible repeat (first | refine blk_drewN ?_ _ | refine blk_drew ?_ | refine blk_alloc ?_ _)); exact BK285.out) Try.underlying61 rfl (by kernel_rfl)) rfl ?_; exact ⟨_, er_, by (with_reducible repeat (first | apply Kd.R_alloc | apply Kd.R_drewN | apply Kd.R_drew)); exact Kd.R_mono (Kd.R_far (p := ⟨gb285, 3, none⟩) (Kd.R_far (p := ⟨gb285, 2, none⟩) (Kd.R_far (p := ⟨gb285, 1, none⟩) (Kd.R_far (p := ⟨gb285, 0, none⟩) (Kd.R_far (p := ⟨gb286, 3, none⟩) (Kd.R_far (p := ⟨gb286, 2, none⟩) (Kd.R_far (p := ⟨gb286, 1, none⟩) (Kd.R_types (Kd.R_types HO291.out BK286.out (by decide)) BK285.out (by decide)) (fun _ hk => hk.1.2) (.int .i64 t287)) (fun _ hk => hk.1.2) (.int .i64 t288)) (fun _ hk => hk.1.2) (.slice Ao13 t289.length co13)) (fun _ hk => hk.2) (.int .i64 a0_0)) (fun _ hk => hk.2) (.int .i64 t287)) (fun _ hk => hk.2) (.int .i64 t288)) (fun _ hk => hk.2) (.slice Ao13 t289.length co13)) (fun _ hk => trivial), bb_⟩
def impl_in.f (a0 : Int) (a1 : Int) (a2 : Int) : Option (Bool) := if a0 ≥ a1 then (some (decide (a0 ≤ a2))) else (some false)
set_option maxHeartbeats 8000000 in
set_option maxRecDepth 100000 in
theorem impl_in.calls (a0 : Int) (a1 : Int) (a2 : Int) (r : Bool) (w : World) (h : impl_in.f a0 a1 a2 = some r) :
    Calls Try.prog 79 #[.int .i64 a0, .int .i64 a1, .int .i64 a2] w fun e w' => e = .returned (.bool r) ∧ Drawn0 w w' := by
  have H : (if a0 ≥ a1 then (some (decide (a0 ≤ a2))) else (some false)) = some r := h; clear h
  by_cases c4 : a0 ≥ a1
  · rw [if_pos c4] at H
    have c4b0 : decide (a1 ≤ a0) = true := decide_eq_true c4; clear c4; obtain rfl := Option.some.inj H
    go_enter Try.func79, Try.ntmps79
    go_wp2
    go_ret
    exact ⟨sd_, by repeat (first | exact Drawn0.refl _ | apply Drawn0.step)⟩
  · rw [if_neg c4] at H
    have c4b0 : decide (a1 ≤ a0) = false := decide_eq_false c4; clear c4; obtain rfl := Option.some.inj H
    go_enter Try.func79, Try.ntmps79
    go_wp2
    go_ret
    exact ⟨sd_, by repeat (first | exact Drawn0.refl _ | apply Drawn0.step)⟩
def impl_isEpoch.f (a0 : Int) : Option (Bool) := (impl_in.f a0 1 1000).bind fun t292 => (some t292)
set_option maxHeartbeats 8000000 in
set_option maxRecDepth 100000 in
theorem impl_isEpoch.calls (a0 : Int) (r : Bool) (w : World) (h : impl_isEpoch.f a0 = some r) :
    Calls Try.prog 107 #[.int .i64 a0] w fun e w' => e = .returned (.bool r) ∧ Drawn0 w w' := by
  have H : ((impl_in.f a0 1 1000).bind fun t292 => (some t292)) = some r := h; clear h; replace H := Option.bind_eq_some_iff.mp H; obtain ⟨t292, A20, H⟩ := H; replace H : (some t292) = some r := H; have A2 := Aside0.mk A20; clear A20; obtain rfl := Option.some.inj H
  go_enter Try.func107, Try.ntmps107
  go_wp2_with (first | ((with_reducible refine gate_callee (f := 79) rfl ?_); refine goe_ (some 4) Try.func79 #[.int .i64 a0, .int .i64 1, .int .i64 1000] ?_; (with_reducible refine (impl_in.calls a0 1 1000 t292 _ A2.out).mono ?_); rintro e w' ⟨rfl, ⟨nd, rfl⟩⟩; refine ⟨_, rfl, ?_⟩))
  go_ret
  exact ⟨sd_, by repeat (first | exact Drawn0.refl _ | apply Drawn0.step)⟩
def impl_isPeer.f (a0 : Int) : Option (Bool) := (impl_in.f a0 0 2).bind fun t293 => (some t293)
set_option maxHeartbeats 8000000 in
set_option maxRecDepth 100000 in
theorem impl_isPeer.calls (a0 : Int) (r : Bool) (w : World) (h : impl_isPeer.f a0 = some r) :
    Calls Try.prog 156 #[.int .i64 a0] w fun e w' => e = .returned (.bool r) ∧ Drawn0 w w' := by
  have H : ((impl_in.f a0 0 2).bind fun t293 => (some t293)) = some r := h; clear h; replace H := Option.bind_eq_some_iff.mp H; obtain ⟨t293, A20, H⟩ := H; replace H : (some t293) = some r := H; have A2 := Aside0.mk A20; clear A20; obtain rfl := Option.some.inj H
  go_enter Try.func156, Try.ntmps156
  go_wp2_with (first | ((with_reducible refine gate_callee (f := 79) rfl ?_); refine goe_ (some 4) Try.func79 #[.int .i64 a0, .int .i64 0, .int .i64 2] ?_; (with_reducible refine (impl_in.calls a0 0 2 t293 _ A2.out).mono ?_); rintro e w' ⟨rfl, ⟨nd, rfl⟩⟩; refine ⟨_, rfl, ?_⟩))
  go_ret
  exact ⟨sd_, by repeat (first | exact Drawn0.refl _ | apply Drawn0.step)⟩
def impl_EventFault.j0 : Nat → Bool → Int → Int → List Int → Option (Int)
  | 0, _, _, _, _ => none
  | k + 1, x8, x295000, x295001, x295002 => if x8 = true then (some 3) else (if ((x295000 == 2) != (decide ((x295002.length : Int) > 0))) = true then (some 1) else (if (x295002.length : Int) > 60 then (some 2) else (some 0)))
def impl_EventFault.f (k : Nat) (a0_0 : Int) (a0_1 : Int) (l0_2 : List Int) : Option (Int) := (impl_in.f a0_0 1 4).bind fun t295 => (if t295 = true then ((impl_isPeer.f a0_1).bind fun t296 => (if t296 = true then (if a0_0 = 3 then (impl_EventFault.j0 k (a0_1 != 0) a0_0 a0_1 l0_2) else (impl_EventFault.j0 k false a0_0 a0_1 l0_2)) else (impl_EventFault.j0 k true a0_0 a0_1 l0_2))) else (some 1))
theorem impl_EventFault.mono_l : ∀ k, (∀ y0 y1 y2 y3, LeO (impl_EventFault.j0 k y0 y1 y2 y3) (impl_EventFault.j0 (k + 1) y0 y1 y2 y3))
  | 0 => fun _ _ _ _ r h => by simp [impl_EventFault.j0] at h
  | k + 1 => by
    have ih0 := impl_EventFault.mono_l k
    · intro y0 y1 y2 y3
      unfold impl_EventFault.j0
      repeat' first
      | (with_reducible exact ih0 _ _ _ _)
      | (with_reducible exact LeO.refl _)
      | (with_reducible exact LeO.none _)
      | (with_reducible refine LeO.ite ?_ ?_)
      | (with_reducible refine LeO.bind ?_ (fun _ => ?_))
      | exact ih0 _ _ _ _
      | exact LeO.none _
      | refine LeO.ite ?_ ?_
      | refine LeO.bind ?_ (fun _ => ?_)
theorem impl_EventFault.mono : ∀ a0 a1 a2 k, LeO (impl_EventFault.f k a0 a1 a2) (impl_EventFault.f (k + 1) a0 a1 a2) := by
  intro a0 a1 a2 k; have ih0 := impl_EventFault.mono_l k; unfold impl_EventFault.f
  repeat' first
      | (with_reducible exact ih0 _ _ _ _)
      | (with_reducible exact LeO.refl _)
      | (with_reducible exact LeO.none _)
      | (with_reducible refine LeO.ite ?_ ?_)
      | (with_reducible refine LeO.bind ?_ (fun _ => ?_))
      | exact ih0 _ _ _ _
      | exact LeO.none _
      | refine LeO.ite ?_ ?_
      | refine LeO.bind ?_ (fun _ => ?_)
set_option maxHeartbeats 8000000 in
set_option maxRecDepth 100000 in
theorem impl_EventFault.calls (k : Nat) (a0_0 : Int) (a0_1 : Int) (A0_2 : Option Addr) (c0_2 : Nat) (l0_2 : List Int) (r : Int) (w : World) (hr0_2 : Kd.C (Kd.int .u8) w A0_2 l0_2.length l0_2) (hc0_2 : l0_2.length ≤ c0_2) (h : impl_EventFault.f k a0_0 a0_1 l0_2 = some r) :
    Calls Try.prog 108 #[.agg #[.int .i64 a0_0, .int .i64 a0_1, .slice A0_2 l0_2.length c0_2]] w fun e w' => e = .returned (.int .i64 r) ∧ Below w.heap.size w w' := by
  have hu59 := Try.underlying59; have HR0_2 := Aside0.mk hr0_2; have HC0_2 := Aside0.mk hc0_2; clear hr0_2 hc0_2; have HB := Aside0.mk (Below.refl w.heap.size w); have H : ((impl_in.f a0_0 1 4).bind fun t295 => (if t295 = true then ((impl_isPeer.f a0_1).bind fun t296 => (if t296 = true then (if a0_0 = 3 then (impl_EventFault.j0 k (a0_1 != 0) a0_0 a0_1 l0_2) else (impl_EventFault.j0 k false a0_0 a0_1 l0_2)) else (impl_EventFault.j0 k true a0_0 a0_1 l0_2))) else (some 1))) = some r := h; clear h; replace H := Option.bind_eq_some_iff.mp H; obtain ⟨t295, A20, H⟩ := H; replace H : (if t295 = true then ((impl_isPeer.f a0_1).bind fun t296 => (if t296 = true then (if a0_0 = 3 then (impl_EventFault.j0 k (a0_1 != 0) a0_0 a0_1 l0_2) else (impl_EventFault.j0 k false a0_0 a0_1 l0_2)) else (impl_EventFault.j0 k true a0_0 a0_1 l0_2))) else (some 1)) = some r := H; have A2 := Aside0.mk A20; clear A20
  by_cases c3 : t295 = true
  · subst c3
    have H1 : ((impl_isPeer.f a0_1).bind fun t296 => (if t296 = true then (if a0_0 = 3 then (impl_EventFault.j0 k (a0_1 != 0) a0_0 a0_1 l0_2) else (impl_EventFault.j0 k false a0_0 a0_1 l0_2)) else (impl_EventFault.j0 k true a0_0 a0_1 l0_2))) = some r := by rw [if_pos rfl] at H; exact H
    clear H; have H := H1; clear H1; have HC4 := Aside0.mk H; clear H
    go_enter Try.func108, Try.ntmps108
    go_upto_region 3 with (first | ((with_reducible refine gate_dst (N := 1) rfl ?_); refine box_e_ 1 #[.int .i64 a0_0, .int .i64 a0_1, .slice A0_2 l0_2.length c0_2] 59 ?_; intro gb294 hg w5 hbox hb; have BK294 := Aside0.mk (hbox); have GW294 := (bs_ hg : Aside0 (w.heap.size ≤ _)); have GE294 := (bs_ hg : Aside0 (w.heap.size ≤ _)); replace HB := bw_ hb; clear hb hbox hg; obtain ⟨hcz6_0, hcz6_1, hcz6_2, hfz6_0, hfz6_1, hfz6_2⟩ := cf3_ BK294) | ((with_reducible refine gate_callee (f := 79) rfl ?_); refine goe_ (some 6) Try.func79 #[.int .i64 a0_0, .int .i64 1, .int .i64 4] ?_; (with_reducible refine (impl_in.calls a0_0 1 4 true _ A2.out).mono ?_); rintro e w' ⟨rfl, ⟨nd, rfl⟩⟩; refine ⟨_, rfl, ?_⟩))
    (try simp only [Act.put, List.setIfInBounds_toArray, List.set_cons_zero, List.set_cons_succ])
    go_cut [8] (fun v8 wc => ∃ (kq : Nat) (x8_3 : Bool), v8 = .bool x8_3 ∧ Aside0 (impl_EventFault.j0 kq x8_3 a0_0 a0_1 l0_2 = some r) ∧ Aside0 (kq ≤ k) ∧ Aside0 (wc.heap[gb294]? = some (.cells #[.int .i64 a0_0, .int .i64 a0_1, (.slice A0_2 l0_2.length c0_2)] 59 (0, 0))) ∧ Aside0 (Below w.heap.size w wc))
    case first =>
      have H := HC4.out; clear HC4; replace H := Option.bind_eq_some_iff.mp H; obtain ⟨t296, A70, H⟩ := H; replace H : (if t296 = true then (if a0_0 = 3 then (impl_EventFault.j0 k (a0_1 != 0) a0_0 a0_1 l0_2) else (impl_EventFault.j0 k false a0_0 a0_1 l0_2)) else (impl_EventFault.j0 k true a0_0 a0_1 l0_2)) = some r := H; have A7 := Aside0.mk A70; clear A70
      by_cases c8 : t296 = true
      · subst c8
        have H1 : (if a0_0 = 3 then (impl_EventFault.j0 k (a0_1 != 0) a0_0 a0_1 l0_2) else (impl_EventFault.j0 k false a0_0 a0_1 l0_2)) = some r := by rw [if_pos rfl] at H; exact H
        clear H; have H := H1; clear H1
        by_cases c9 : a0_0 = 3
        · rw [if_pos c9] at H
          have c9b0 : (a0_0 == 3) = true := beq_iff_eq.mpr c9; have c9b1 : (a0_0 != 3) = false := bne_eq_false_iff_eq.mpr c9; clear c9; (first | rw [c9b0] | (simp only [i64_w, i32_w]; rw [c9b0]) | skip); have H' := Aside0.mk H; clear H; obtain ⟨hcz10_0, hcz10_1, hcz10_2, hfz10_0, hfz10_1, hfz10_2⟩ := cf3_ BK294; go_wp2_with (first | ((with_reducible refine gate_callee (f := 156) rfl ?_); refine goe_ (some 11) Try.func156 #[.int .i64 a0_1] ?_; (with_reducible refine (impl_isPeer.calls a0_1 true _ A7.out).mono ?_); rintro e w' ⟨rfl, ⟨nd, rfl⟩⟩; refine ⟨_, rfl, ?_⟩))
          go_meet
          case rel => exact ⟨_, ((a0_1 != 0)), sd_, H', ⟨ol_⟩, ⟨by (with_reducible repeat (first | refine blk_drewN ?_ _ | refine blk_drew ?_ | refine blk_alloc ?_ _)); exact BK294.out⟩, ⟨bb_⟩⟩
        · rw [if_neg c9] at H
          have c9b0 : (a0_0 == 3) = false := beq_eq_false_iff_ne.mpr c9; have c9b1 : (a0_0 != 3) = true := bne_iff_ne.mpr c9; (first | rw [c9b0] | (simp only [i64_w, i32_w]; rw [c9b0]) | skip); have H' := Aside0.mk H; clear H; obtain ⟨hcz11_0, hcz11_1, hcz11_2, hfz11_0, hfz11_1, hfz11_2⟩ := cf3_ BK294; go_wp2_with (first | ((with_reducible refine gate_callee (f := 156) rfl ?_); refine goe_ (some 11) Try.func156 #[.int .i64 a0_1] ?_; (with_reducible refine (impl_isPeer.calls a0_1 true _ A7.out).mono ?_); rintro e w' ⟨rfl, ⟨nd, rfl⟩⟩; refine ⟨_, rfl, ?_⟩))
          go_meet
          case rel => exact ⟨_, (false), sd_, H', ⟨ol_⟩, ⟨by (with_reducible repeat (first | refine blk_drewN ?_ _ | refine blk_drew ?_ | refine blk_alloc ?_ _)); exact BK294.out⟩, ⟨bb_⟩⟩
      · replace c8 := Bool.eq_false_iff.mpr c8
        subst c8; have H1 : (impl_EventFault.j0 k true a0_0 a0_1 l0_2) = some r := by rw [if_neg (show ¬ (false = true) by decide)] at H; exact H
        clear H; have H := H1; clear H1; have H' := Aside0.mk H; clear H; obtain ⟨hcz12_0, hcz12_1, hcz12_2, hfz12_0, hfz12_1, hfz12_2⟩ := cf3_ BK294; go_wp2_with (first | ((with_reducible refine gate_callee (f := 156) rfl ?_); refine goe_ (some 11) Try.func156 #[.int .i64 a0_1] ?_; (with_reducible refine (impl_isPeer.calls a0_1 false _ A7.out).mono ?_); rintro e w' ⟨rfl, ⟨nd, rfl⟩⟩; refine ⟨_, rfl, ?_⟩))
        go_meet
        case rel => exact ⟨_, (true), sd_, H', ⟨ol_⟩, ⟨by (with_reducible repeat (first | refine blk_drewN ?_ _ | refine blk_drew ?_ | refine blk_alloc ?_ _)); exact BK294.out⟩, ⟨bb_⟩⟩
    case rest =>
      clear HC4; try clear c1
      try clear p2
      try clear c3
      try clear c7
      try clear c8
      try clear c9
      try clear c9b0
      try clear c9b1
      try clear c10
      try clear hcz10_0
      try clear hcz10_1
      try clear hcz10_2
      try clear hcz11_0
      try clear hcz11_1
      try clear hcz11_2
      try clear hcz12_0
      try clear hcz12_1
      try clear hcz12_2
      try clear hcz6_0
      try clear hcz6_1
      try clear hcz6_2
      try clear hfz10_0
      try clear hfz10_1
      try clear hfz10_2
      try clear hfz11_0
      try clear hfz11_1
      try clear hfz11_2
      try clear hfz12_0
      try clear hfz12_1
      try clear hfz12_2
      try clear hfz6_0
      try clear hfz6_1
      try clear hfz6_2
      obtain ⟨kq, x8_3, rfl, HA, HJ3, BK294, HB⟩ := hcut
      cases kq with
      | zero => exact absurd HA.out (by simp [impl_EventFault.j0])
      | succ kj3 =>
        have H := HA.out; clear HA; simp only [impl_EventFault.j0] at H
        by_cases c13 : x8_3 = true
        · subst c13
          have H1 : (some 3) = some r := by rw [if_pos rfl] at H; exact H
          clear H; have H := H1; clear H1; obtain rfl := Option.some.inj H; go_wp2
          go_ret
          exact ⟨er_, bb_⟩
        · replace c13 := Bool.eq_false_iff.mpr c13
          subst c13; have H1 : (if ((a0_0 == 2) != (decide ((l0_2.length : Int) > 0))) = true then (some 1) else (if (l0_2.length : Int) > 60 then (some 2) else (some 0))) = some r := by rw [if_neg (show ¬ (false = true) by decide)] at H; exact H
          clear H; have H := H1; clear H1
          by_cases c14 : ((a0_0 == 2) != (decide ((l0_2.length : Int) > 0))) = true
          · rw [if_pos c14] at H
            have c14h : decide ((l0_2.length : Int) > 0) = decide (0 < l0_2.length) := by simp
            have c14b0 : ((a0_0 == 2) != (decide (0 < l0_2.length))) = true := by rw [← c14h]; exact c14
            have c14b1 : (decide (0 < l0_2.length) = true ∧ (a0_0 == 2) = false) ∨ (decide (0 < l0_2.length) = false ∧ (a0_0 == 2) = true) := by
              revert c14b0
              cases decide (0 < l0_2.length) <;> cases (a0_0 == 2) <;> simp
            clear c14 c14b0 c14h
            rcases c14b1 with ⟨d1_, d2_⟩ | ⟨d1_, d2_⟩
            all_goals
              obtain rfl := Option.some.inj H; obtain ⟨hcz15_0, hcz15_1, hcz15_2, hfz15_0, hfz15_1, hfz15_2⟩ := cf3_ BK294; go_wp2
              go_ret
              exact ⟨er_, bb_⟩
          · rw [if_neg c14] at H
            have c14h : decide ((l0_2.length : Int) > 0) = decide (0 < l0_2.length) := by simp
            have c14b0 : ((a0_0 == 2) != (decide (0 < l0_2.length))) = false := by rw [← c14h]; exact Bool.eq_false_iff.mpr c14
            have c14b1 : (decide (0 < l0_2.length) = true ∧ (a0_0 == 2) = true) ∨ (decide (0 < l0_2.length) = false ∧ (a0_0 == 2) = false) := by
              revert c14b0
              cases decide (0 < l0_2.length) <;> cases (a0_0 == 2) <;> simp
            clear c14 c14b0 c14h
            rcases c14b1 with ⟨d1_, d2_⟩ | ⟨d1_, d2_⟩
            all_goals
              by_cases c16 : (l0_2.length : Int) > 60
              · rw [if_pos c16] at H
                have c16b0 : decide (60 < (l0_2.length : Int)) = true := decide_eq_true c16; have c16b1 : decide (60 < l0_2.length) = true := decide_eq_true (by omega); clear c16; obtain rfl := Option.some.inj H; obtain ⟨hcz17_0, hcz17_1, hcz17_2, hfz17_0, hfz17_1, hfz17_2⟩ := cf3_ BK294; go_wp2
                go_ret
                exact ⟨er_, bb_⟩
              · rw [if_neg c16] at H
                have c16b0 : decide (60 < (l0_2.length : Int)) = false := decide_eq_false c16; have c16b1 : decide (60 < l0_2.length) = false := decide_eq_false (by omega); clear c16; obtain rfl := Option.some.inj H; obtain ⟨hcz18_0, hcz18_1, hcz18_2, hfz18_0, hfz18_1, hfz18_2⟩ := cf3_ BK294; go_wp2
                go_ret
                exact ⟨er_, bb_⟩
  · replace c3 := Bool.eq_false_iff.mpr c3
    subst c3; have H1 : (some 1) = some r := by rw [if_neg (show ¬ (false = true) by decide)] at H; exact H
    clear H; have H := H1; clear H1; obtain rfl := Option.some.inj H
    go_enter Try.func108, Try.ntmps108
    go_wp2_with (first | ((with_reducible refine gate_dst (N := 1) rfl ?_); refine box_e_ 1 #[.int .i64 a0_0, .int .i64 a0_1, .slice A0_2 l0_2.length c0_2] 59 ?_; intro gb294 hg w19 hbox hb; have BK294 := Aside0.mk (hbox); have GW294 := (bs_ hg : Aside0 (w.heap.size ≤ _)); have GE294 := (bs_ hg : Aside0 (w.heap.size ≤ _)); replace HB := bw_ hb; clear hb hbox hg; obtain ⟨hcz20_0, hcz20_1, hcz20_2, hfz20_0, hfz20_1, hfz20_2⟩ := cf3_ BK294) | ((with_reducible refine gate_callee (f := 79) rfl ?_); refine goe_ (some 6) Try.func79 #[.int .i64 a0_0, .int .i64 1, .int .i64 4] ?_; (with_reducible refine (impl_in.calls a0_0 1 4 false _ A2.out).mono ?_); rintro e w' ⟨rfl, ⟨nd, rfl⟩⟩; refine ⟨_, rfl, ?_⟩))
    go_ret
    exact ⟨er_, bb_⟩
def impl_EntryFault.f (k : Nat) (a0_0 : Int) (a0_1 : Int) (a0_2 : Int) (l0_3 : List Int) : Option (Int) := (impl_isEpoch.f a0_0).bind fun t298 => (if t298 = true then ((impl_EventFault.f k a0_1 a0_2 l0_3).bind fun t299 => (some t299)) else (some 3))
theorem impl_EntryFault.mono : ∀ a0 a1 a2 a3 k, LeO (impl_EntryFault.f k a0 a1 a2 a3) (impl_EntryFault.f (k + 1) a0 a1 a2 a3) := by
  intro a0 a1 a2 a3 k; unfold impl_EntryFault.f
  repeat' first
      | (with_reducible exact impl_EventFault.mono _ _ _ _)
      | (with_reducible exact LeO.refl _)
      | (with_reducible exact LeO.none _)
      | (with_reducible refine LeO.ite ?_ ?_)
      | (with_reducible refine LeO.bind ?_ (fun _ => ?_))
      | exact impl_EventFault.mono _ _ _ _
      | exact LeO.none _
      | refine LeO.ite ?_ ?_
      | refine LeO.bind ?_ (fun _ => ?_)
set_option maxHeartbeats 8000000 in
set_option maxRecDepth 100000 in
theorem impl_EntryFault.calls (k : Nat) (a0_0 : Int) (a0_1 : Int) (a0_2 : Int) (A0_3 : Option Addr) (c0_3 : Nat) (l0_3 : List Int) (r : Int) (w : World) (hr0_3 : Kd.C (Kd.int .u8) w A0_3 l0_3.length l0_3) (hc0_3 : l0_3.length ≤ c0_3) (h : impl_EntryFault.f k a0_0 a0_1 a0_2 l0_3 = some r) :
    Calls Try.prog 50 #[.agg #[.int .i64 a0_0, .int .i64 a0_1, .int .i64 a0_2, .slice A0_3 l0_3.length c0_3]] w fun e w' => e = .returned (.int .i64 r) ∧ Below w.heap.size w w' := by
  have hu61 := Try.underlying61; have hu59 := Try.underlying59; have HR0_3 := Aside0.mk hr0_3; have HC0_3 := Aside0.mk hc0_3; clear hr0_3 hc0_3; have HB := Aside0.mk (Below.refl w.heap.size w); have H : ((impl_isEpoch.f a0_0).bind fun t298 => (if t298 = true then ((impl_EventFault.f k a0_1 a0_2 l0_3).bind fun t299 => (some t299)) else (some 3))) = some r := h; clear h; replace H := Option.bind_eq_some_iff.mp H; obtain ⟨t298, A20, H⟩ := H; replace H : (if t298 = true then ((impl_EventFault.f k a0_1 a0_2 l0_3).bind fun t299 => (some t299)) else (some 3)) = some r := H; have A2 := Aside0.mk A20; clear A20
  by_cases c3 : t298 = true
  · subst c3
    have H1 : ((impl_EventFault.f k a0_1 a0_2 l0_3).bind fun t299 => (some t299)) = some r := by rw [if_pos rfl] at H; exact H
    clear H; have H := H1; clear H1; replace H := Option.bind_eq_some_iff.mp H; obtain ⟨t299, A40, H⟩ := H; replace H : (some t299) = some r := H; have A4 := Aside0.mk A40; clear A40; obtain rfl := Option.some.inj H
    go_enter Try.func50, Try.ntmps50
    go_wp2_with (first | ((with_reducible refine gate_dst (N := 1) rfl ?_); refine box_e_ 1 #[.int .i64 a0_0, .int .i64 a0_1, .int .i64 a0_2, .slice A0_3 l0_3.length c0_3] 61 ?_; intro gb297 hg w5 hbox hb; have BK297 := Aside0.mk (hbox); have GW297 := (bs_ hg : Aside0 (w.heap.size ≤ _)); have GE297 := (bs_ hg : Aside0 (w.heap.size ≤ _)); replace HB := bw_ hb; clear hb hbox hg; obtain ⟨hcz6_0, hcz6_1, hcz6_2, hcz6_3, hfz6_0, hfz6_1, hfz6_2, hfz6_3⟩ := cf4_ BK297) | ((with_reducible refine gate_callee (f := 107) rfl ?_); refine goe_ (some 5) Try.func107 #[.int .i64 a0_0] ?_; (with_reducible refine (impl_isEpoch.calls a0_0 true _ A2.out).mono ?_); rintro e w' ⟨rfl, ⟨nd, rfl⟩⟩; refine ⟨_, rfl, ?_⟩) | ((with_reducible refine gate_callee (f := 108) rfl ?_); refine goe_ (some 9) Try.func108 #[.agg #[.int .i64 a0_1, .int .i64 a0_2, .slice A0_3 l0_3.length c0_3]] ?_; (with_reducible refine (impl_EventFault.calls k a0_1 a0_2 _ _ l0_3 t299 _ ?side1 ?side2 A4.out).mono ?_); (case side1 => exact kc_ (Kd.C_below HR0_3.out bb_)); (case side2 => exact HC0_3.out); rintro e w7 ⟨rfl, hb⟩; refine ⟨_, rfl, ?_⟩; replace BK297 := bl_ BK297 hb; replace HB := bw_ hb; (try clear hb)))
    go_ret
    exact ⟨er_, bb_⟩
  · replace c3 := Bool.eq_false_iff.mpr c3
    subst c3; have H1 : (some 3) = some r := by rw [if_neg (show ¬ (false = true) by decide)] at H; exact H
    clear H; have H := H1; clear H1; obtain rfl := Option.some.inj H
    go_enter Try.func50, Try.ntmps50
    go_wp2_with (first | ((with_reducible refine gate_dst (N := 1) rfl ?_); refine box_e_ 1 #[.int .i64 a0_0, .int .i64 a0_1, .int .i64 a0_2, .slice A0_3 l0_3.length c0_3] 61 ?_; intro gb297 hg w8 hbox hb; have BK297 := Aside0.mk (hbox); have GW297 := (bs_ hg : Aside0 (w.heap.size ≤ _)); have GE297 := (bs_ hg : Aside0 (w.heap.size ≤ _)); replace HB := bw_ hb; clear hb hbox hg; obtain ⟨hcz9_0, hcz9_1, hcz9_2, hcz9_3, hfz9_0, hfz9_1, hfz9_2, hfz9_3⟩ := cf4_ BK297) | ((with_reducible refine gate_callee (f := 107) rfl ?_); refine goe_ (some 5) Try.func107 #[.int .i64 a0_0] ?_; (with_reducible refine (impl_isEpoch.calls a0_0 false _ A2.out).mono ?_); rintro e w' ⟨rfl, ⟨nd, rfl⟩⟩; refine ⟨_, rfl, ?_⟩))
    go_ret
    exact ⟨er_, bb_⟩
def slices_Clone_byte_byte.f (l0 : List Int) : Option (List Int) := (some (([] : List Int) : List Int)).bind fun y300 => (if y300.length + l0.length < 140737488355328 then (some (y300 ++ l0)) else (none))
set_option maxHeartbeats 8000000 in
set_option maxRecDepth 100000 in
theorem slices_Clone_byte_byte.calls (A0 : Option Addr) (c0 : Nat) (l0 : List Int) (r : List Int) (w : World) (hr0 : Kd.C (Kd.int .u8) w A0 l0.length l0) (hc0 : l0.length ≤ c0) (h : slices_Clone_byte_byte.f l0 = some r) :
    Calls Try.prog 132 #[.slice A0 l0.length c0] w fun e w' => ∃ v0_ : Value, e = .returned (v0_) ∧ Kd.R (Kd.int .u8) 5 w' w.heap.size (fun _ => True) v0_ r ∧ Below w.heap.size w w' := by
  rcases A0 with _ | adA
  · have hl : l0 = [] := (by
      cases l0 with
      | nil => rfl
      | cons x xs =>
        obtain ⟨ad, e, _⟩ := Kd.at_int hr0 0 (by decide) (by simp)
        cases e)
    subst hl; have hr : r = [] := (by simpa [slices_Clone_byte_byte.f] using h.symm); subst hr; have heq_ : ∀ (W_ : World) (c_ : Nat), (binOp .eql 22 (.slice none 0 c_) (.slice none 0 0)).run Try.prog W_ = .ok (.bool true) W_ := fun W_ c_ => Go.Lib.run_eql_slice_nil W_ 22 _ _ _ _ _ _ Try.underlying22
    go_enter Try.func132, Try.ntmps132
    go_wp2
    go_ret
    exact ⟨_, by first | rfl | (simp [errW_none, errW_some] <;> rfl), Kd.R_nil _ _ _ _ _, Below.refl _ _⟩
  · have HR0 := Aside0.mk hr0
    have HC0 := Aside0.mk hc0; clear hr0 hc0; have HB := Aside0.mk (Below.refl w.heap.size w); have H : ((some (([] : List Int) : List Int)).bind fun y300 => (if y300.length + l0.length < 140737488355328 then (some (y300 ++ l0)) else (none))) = some r := h; clear h; obtain ⟨y300, hy300⟩ : ∃ y_ : List Int, y_ = (([] : List Int)) := ⟨_, rfl⟩; replace H : (if y300.length + l0.length < 140737488355328 then (some (y300 ++ l0)) else (none)) = some r := by first | (rw [hy300]; with_reducible exact H) | (have H2_ := (Option.bind_some _ _).symm.trans H; rw [hy300]; with_reducible exact H2_) | (have H2_ := (Option.bind_some _ _).symm.trans H; with_reducible exact H2_) | with_reducible exact H | (rw [hy300]; exact H) | exact H
    have Ny300 := Aside0.mk hy300; clear hy300
    by_cases c2 : y300.length + l0.length < 140737488355328
    · rw [if_pos c2] at H
      have LMc2 := Aside0.mk c2; clear c2; obtain ⟨y303, hy303⟩ : ∃ y_ : List Int, y_ = (y300 ++ l0) := ⟨_, rfl⟩; replace H : (some y303) = some r := by first | (rw [hy303]; with_reducible exact H) | (have H2_ := (Option.bind_some _ _).symm.trans H; rw [hy303]; with_reducible exact H2_) | (have H2_ := (Option.bind_some _ _).symm.trans H; with_reducible exact H2_) | with_reducible exact H | (rw [hy303]; exact H) | exact H
      have Ny303 := Aside0.mk hy303; clear hy303; obtain rfl := Option.some.inj H; have heq_ : ∀ (W_ : World) (n_ c_ : Nat), (binOp .eql 22 (.slice (some adA) n_ c_) (.slice none 0 0)).run Try.prog W_ = .ok (.bool false) W_ := fun W_ n_ c_ => Go.Lib.run_eql_slice_nil W_ 22 _ _ _ _ _ _ Try.underlying22
      go_enter Try.func132, Try.ntmps132
      go_wp2_with (first | ((with_reducible refine gate_dst (N := 5) rfl ?_); refine Kd.R_lit (Kd.int .u8) _ 5 ?hg (N := 5) ?hd (xs := ([] : List Int)) (inner := []) (ok := fun _ => True) (okp := fun _ => True) ?hr ?hp (fun _ hk => hk) trivial (Below.refl _ _) (Nat.le_refl _) (by simp) ?_; (case hd => rfl); (case hg => rfl); (case hr => first | (go_simp; done) | (go_simp; rfl)); (case hp => exact (Reps.none _ _)); intro v301 w3 ho4 hb hg_ hnew_; clear hg_ hnew_; (first | rw [← Ny300.out] at ho4 | (simp only [Int.reduceToNat] at ho4; rw [← Ny300.out] at ho4)); have HO302 := Aside0.mk (Kd.R_lower ho4 (below_size bb_)); replace HB := bw_ hb; clear hb ho4) | ((with_reducible refine gate_builtin (b := .append) (xs := #[.tmp 5, .tmp 6]) rfl ?_); at_builtin; refine Kd.R_append_rows (Kd.int .u8) (w0 := w) w.heap.size rfl (.tmp 5) (.tmp 6) 22 5 (.int .u8 0) 1 rfl Try.underlying22 info5 rfl (by decide) (by omega) v301 y300 l0 _ _ _ (fun _ => True) (fun _ => False) rfl rfl ?aO ?aR (fun _ _ h => h) (fun _ h => h.elim) ?aF ?aB ?aS ?aL ?_; (case aR => repeat (first | exact (Kd.C_below HR0.out HB.out) | (with_reducible refine Kd.C_alloc ?_ _) | (with_reducible refine Kd.C_drewN ?_ _) | (with_reducible refine Kd.C_drew ?_))); (case aB => exact bb_); (case aF => exact (fun _ _ => trivial)); (case aO => exact (kr_ HO302)); (case aS => exact (below_size bb_)); (case aL => have := LMc2.out; omega); intro v304 w5 ho hb hg hat; rw [← Ny303.out] at ho; have n0_ := Aside0.mk (hb); have n1_ := Aside0.mk (ho); clear HB; clear HO302; have HB := n0_; have HO305 := n1_; clear n0_ n1_; clear ho hb hg hat))
      go_ret
      exact ⟨_, er_, kr_ HO305, bb_⟩
    · rw [if_neg c2] at H
      exact absurd H (by simp)
def impl_SumBytes.l0 : Nat → Int → List Int → Int → Int → Option (Int)
  | 0, _, _, _, _ => none
  | k + 1, x3, x6, x7, x8 => if x8 < x7 then (if 0 ≤ x8 then (if x8 < (x6.length : Int) then (impl_SumBytes.l0 k (Int.tmod (wrap64 ((wrap64 ((wrap64 (x3 * 257)) + (wrap64 (rd x6 x8)))) + 1)) 65521) x6 x7 (wrap64 (x8 + 1))) else (none)) else (none)) else (some x3)
def impl_SumBytes.f (k : Nat) (l0 : List Int) : Option (Int) := impl_SumBytes.l0 k 7 l0 (l0.length : Int) 0
theorem impl_SumBytes.mono_l : ∀ k, (∀ y0 y1 y2 y3, LeO (impl_SumBytes.l0 k y0 y1 y2 y3) (impl_SumBytes.l0 (k + 1) y0 y1 y2 y3))
  | 0 => fun _ _ _ _ r h => by simp [impl_SumBytes.l0] at h
  | k + 1 => by
    have ih0 := impl_SumBytes.mono_l k
    · intro y0 y1 y2 y3
      unfold impl_SumBytes.l0
      repeat' first
      | (with_reducible exact ih0 _ _ _ _)
      | (with_reducible exact LeO.refl _)
      | (with_reducible exact LeO.none _)
      | (with_reducible refine LeO.ite ?_ ?_)
      | (with_reducible refine LeO.bind ?_ (fun _ => ?_))
      | exact ih0 _ _ _ _
      | exact LeO.none _
      | refine LeO.ite ?_ ?_
      | refine LeO.bind ?_ (fun _ => ?_)
theorem impl_SumBytes.mono : ∀ a0 k, LeO (impl_SumBytes.f k a0) (impl_SumBytes.f (k + 1) a0) := by
  intro a0 k; have ih0 := impl_SumBytes.mono_l k; unfold impl_SumBytes.f
  repeat' first
      | (with_reducible exact ih0 _ _ _ _)
      | (with_reducible exact LeO.refl _)
      | (with_reducible exact LeO.none _)
      | (with_reducible refine LeO.ite ?_ ?_)
      | (with_reducible refine LeO.bind ?_ (fun _ => ?_))
      | exact ih0 _ _ _ _
      | exact LeO.none _
      | refine LeO.ite ?_ ?_
      | refine LeO.bind ?_ (fun _ => ?_)
set_option maxHeartbeats 8000000 in
set_option maxRecDepth 100000 in
theorem impl_SumBytes.calls (k : Nat) (A0 : Option Addr) (c0 : Nat) (l0 : List Int) (r : Int) (w : World) (hr0 : Kd.C (Kd.int .u8) w A0 l0.length l0) (hc0 : l0.length ≤ c0) (h : impl_SumBytes.f k l0 = some r) :
    Calls Try.prog 138 #[.slice A0 l0.length c0] w fun e w' => e = .returned (.int .i64 r) ∧ Drawn0 w w' := by
  have HR0 := Aside0.mk hr0; have HC0 := Aside0.mk hc0; clear hr0 hc0; have H : (impl_SumBytes.l0 k 7 l0 (l0.length : Int) 0) = some r := h; clear h; have H' := Aside0.mk H; clear H
  go_enter Try.func138, Try.ntmps138
  go_wp2
  go_loopg [3, 8] k (fun kq v3 v8 w' => ∃ (x3_1 : Int) (x8_1 : Int), v3 = .int .i64 x3_1 ∧ v8 = .int .i64 x8_1 ∧ Aside0 (impl_SumBytes.l0 kq x3_1 l0 (l0.length : Int) x8_1 = some r) ∧ Aside0 (kq ≤ k) ∧ Drawn0 w w')
  case atStart => exact ⟨(7), (0), sd_, sd_, H', ⟨Nat.le_refl _⟩, by repeat (first | exact Drawn0.refl _ | apply Drawn0.step)⟩
  case round =>
    clear H'; try clear c1
    obtain ⟨x3_1, x8_1, rfl, rfl, HA, HK1, ⟨m1, rfl⟩⟩ := hrel
    cases gk with
    | zero => exact absurd HA.out (by simp [impl_SumBytes.l0])
    | succ k1 =>
      have H := HA.out; clear HA; simp only [impl_SumBytes.l0] at H
      by_cases c2 : x8_1 < (l0.length : Int)
      · rw [if_pos c2] at H
        have c2b0 : decide (x8_1 < (l0.length : Int)) = true := decide_eq_true c2; clear c2
        by_cases c3 : 0 ≤ x8_1
        · rw [if_pos c3] at H
          have c3b0 : decide (0 ≤ x8_1) = true := decide_eq_true c3; clear c3
          by_cases c4 : x8_1 < (l0.length : Int)
          · rw [if_pos c4] at H
            have c4b0 : decide (x8_1 < (l0.length : Int)) = true := decide_eq_true c4; clear c4; have H' := Aside0.mk H; clear H; have p306 : 0 ≤ (x8_1 : Int) := of_decide_eq_true as_; have q306 : x8_1 < (l0.length : Int) := of_decide_eq_true as_; obtain ⟨ad306, e306, hx306_0⟩ := Kd.at_int HR0.out x8_1 p306 q306
            cases e306
            replace p306 := eq_true p306; replace q306 := eq_true q306; go_wp2
            go_roundg k1
            case measure => have := HK1.out; omega
            case rel => exact ⟨(Int.tmod (wrap64 ((wrap64 ((wrap64 (x3_1 * 257)) + (wrap64 (rd l0 x8_1)))) + 1)) 65521), (wrap64 (x8_1 + 1)), sd_, sd_, H', ⟨by have := HK1.out; omega⟩, by repeat (first | exact Drawn0.refl _ | apply Drawn0.step)⟩
          · rw [if_neg c4] at H
            exact absurd H (by simp)
        · rw [if_neg c3] at H
          exact absurd H (by simp)
      · rw [if_neg c2] at H
        have c2b0 : decide (x8_1 < (l0.length : Int)) = false := decide_eq_false c2; clear c2; obtain rfl := Option.some.inj H; go_wp2
        go_ret
        exact ⟨sd_, by repeat (first | exact Drawn0.refl _ | apply Drawn0.step)⟩
end Go.Proofs.Ythmkjapmnlhflaa.PFnExactAppendJournal
