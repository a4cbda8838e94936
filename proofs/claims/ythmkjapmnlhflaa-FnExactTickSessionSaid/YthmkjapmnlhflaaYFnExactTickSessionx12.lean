/- The functions that the law FnExactTickSession reaches: each as a plain Lean function, with the proof that the call does what it says. -/
import Derived.Test.YthmkjapmnlhflaaYFnExactTickSessionx0
import Derived.Test.YthmkjapmnlhflaaYFnExactTickSessionx1
import Derived.Test.YthmkjapmnlhflaaYFnExactTickSessionx11
namespace Go.Proofs.Ythmkjapmnlhflaa.PFnExactTickSession
open Go.RowKit Go.Proofs.YthmkjapmnlhflaaW.PrintWords Go.Proofs.YthmkjapmnlhflaaW.PrintLast Go.Proofs.YthmkjapmnlhflaaW.PrintMore
attribute [local go_sem] max2_int min2_int max_two min_two max_three min_three max_four min_four
set_option linter.unusedVariables false
set_option linter.unusedSimpArgs false
attribute [local go_sem high] eqA42
def impl_SessionFault.j0 : Nat → Bool → Int → Int → Int → Int → Int → Option (Int)
  | 0, _, _, _, _, _, _ => none
  | k + 1, x31, x253000, x253001, x253002, x253003, x253004 => if x31 = true then (some 3) else (if x253000 = 0 then (if ((x253000 == 0 && (x253001 == 0 && (x253002 == 0 && (x253003 == 0 && (x253004 == 0))))) = true) then (some 0) else (some 1)) else (if x253000 = 1 then (if x253001 = 0 then (if x253002 = 0 then (some 0) else (some 1)) else (some 1)) else (if x253001 = 0 then (some 1) else (some 0))))
def impl_SessionFault.f (k : Nat) (a0_0 : Int) (a0_1 : Int) (a0_2 : Int) (a0_3 : Int) (a0_4 : Int) : Option (Int) := (impl_in.f a0_0 0 3).bind fun t253 => (if t253 = true then ((impl_isTwo.f a0_1).bind fun t254 => (if t254 = true then ((impl_isHold.f a0_2).bind fun t255 => (if t255 = true then ((impl_in.f a0_3 0 1000).bind fun t256 => (if t256 = true then ((impl_in.f a0_4 0 1000).bind fun t257 => (impl_SessionFault.j0 k (!t257) a0_0 a0_1 a0_2 a0_3 a0_4)) else (impl_SessionFault.j0 k true a0_0 a0_1 a0_2 a0_3 a0_4))) else (impl_SessionFault.j0 k true a0_0 a0_1 a0_2 a0_3 a0_4))) else (impl_SessionFault.j0 k true a0_0 a0_1 a0_2 a0_3 a0_4))) else (impl_SessionFault.j0 k true a0_0 a0_1 a0_2 a0_3 a0_4))
theorem impl_SessionFault.mono_l : ∀ k, (∀ y0 y1 y2 y3 y4 y5, LeO (impl_SessionFault.j0 k y0 y1 y2 y3 y4 y5) (impl_SessionFault.j0 (k + 1) y0 y1 y2 y3 y4 y5))
  | 0 => fun _ _ _ _ _ _ r h => by simp [impl_SessionFault.j0] at h
  | k + 1 => by
    have ih0 := impl_SessionFault.mono_l k
    · intro y0 y1 y2 y3 y4 y5
      unfold impl_SessionFault.j0
      repeat' first
      | (with_reducible exact ih0 _ _ _ _ _ _)
      | (with_reducible exact LeO.refl _)
      | (with_reducible exact LeO.none _)
      | (with_reducible refine LeO.ite ?_ ?_)
      | (with_reducible refine LeO.bind ?_ (fun _ => ?_))
      | exact ih0 _ _ _ _ _ _
      | exact LeO.none _
      | refine LeO.ite ?_ ?_
      | refine LeO.bind ?_ (fun _ => ?_)
theorem impl_SessionFault.mono : ∀ a0 a1 a2 a3 a4 k, LeO (impl_SessionFault.f k a0 a1 a2 a3 a4) (impl_SessionFault.f (k + 1) a0 a1 a2 a3 a4) := by
  intro a0 a1 a2 a3 a4 k
  have ih0 := impl_SessionFault.mono_l k
  unfold impl_SessionFault.f
  repeat' first
      | (with_reducible exact ih0 _ _ _ _ _ _)
      | (with_reducible exact LeO.refl _)
      | (with_reducible exact LeO.none _)
      | (with_reducible refine LeO.ite ?_ ?_)
      | (with_reducible refine LeO.bind ?_ (fun _ => ?_))
      | exact ih0 _ _ _ _ _ _
      | exact LeO.none _
      | refine LeO.ite ?_ ?_
      | refine LeO.bind ?_ (fun _ => ?_)
set_option maxHeartbeats 8000000 in
set_option maxRecDepth 100000 in
theorem impl_SessionFault.calls (k : Nat) (a0_0 : Int) (a0_1 : Int) (a0_2 : Int) (a0_3 : Int) (a0_4 : Int) (r : Int) (w : World) (h : impl_SessionFault.f k a0_0 a0_1 a0_2 a0_3 a0_4 = some r) :
    Calls Try.prog 142 #[.agg #[.int .i64 a0_0, .int .i64 a0_1, .int .i64 a0_2, .int .i64 a0_3, .int .i64 a0_4]] w fun e w' => e = .returned (.int .i64 r) ∧ Below w.heap.size w w' := by
  have hu42 := Try.underlying42
  have HB := Aside0.mk (Below.refl w.heap.size w)
  have H : ((impl_in.f a0_0 0 3).bind fun t253 => (if t253 = true then ((impl_isTwo.f a0_1).bind fun t254 => (if t254 = true then ((impl_isHold.f a0_2).bind fun t255 => (if t255 = true then ((impl_in.f a0_3 0 1000).bind fun t256 => (if t256 = true then ((impl_in.f a0_4 0 1000).bind fun t257 => (impl_SessionFault.j0 k (!t257) a0_0 a0_1 a0_2 a0_3 a0_4)) else (impl_SessionFault.j0 k true a0_0 a0_1 a0_2 a0_3 a0_4))) else (impl_SessionFault.j0 k true a0_0 a0_1 a0_2 a0_3 a0_4))) else (impl_SessionFault.j0 k true a0_0 a0_1 a0_2 a0_3 a0_4))) else (impl_SessionFault.j0 k true a0_0 a0_1 a0_2 a0_3 a0_4))) = some r := h
  clear h
  have HC2 := Aside0.mk H
  clear H
  go_enter Try.func142, Try.ntmps142
  go_upto_region 1 with (first | ((with_reducible refine gate_dst (N := 1) rfl ?_); refine box_e_ 1 #[.int .i64 a0_0, .int .i64 a0_1, .int .i64 a0_2, .int .i64 a0_3, .int .i64 a0_4] 42 ?_; intro gb252 hg w3 hbox hb; have BK252 := Aside0.mk (hbox); have GW252 := (bs_ hg : Aside0 (w.heap.size ≤ _)); have GE252 := (bs_ hg : Aside0 (w.heap.size ≤ _)); replace HB := Aside0.mk (below_step bb_ hb); clear hb hbox hg))
  (try simp only [Act.put, List.setIfInBounds_toArray, List.set_cons_zero, List.set_cons_succ])
  go_cut [31] (fun v31 wc => ∃ (kq : Nat) (x31_1 : Bool), v31 = .bool x31_1 ∧ Aside0 (impl_SessionFault.j0 kq x31_1 a0_0 a0_1 a0_2 a0_3 a0_4 = some r) ∧ Aside0 (kq ≤ k) ∧ Aside0 (wc.heap[gb252]? = some (.cells #[.int .i64 a0_0, .int .i64 a0_1, .int .i64 a0_2, .int .i64 a0_3, .int .i64 a0_4] 42 (0, 0))) ∧ Aside0 (Below w.heap.size w wc))
  case first =>
    have H := HC2.out
    clear HC2
    replace H := Option.bind_eq_some_iff.mp H
    obtain ⟨t253, A40, H⟩ := H
    replace H : (if t253 = true then ((impl_isTwo.f a0_1).bind fun t254 => (if t254 = true then ((impl_isHold.f a0_2).bind fun t255 => (if t255 = true then ((impl_in.f a0_3 0 1000).bind fun t256 => (if t256 = true then ((impl_in.f a0_4 0 1000).bind fun t257 => (impl_SessionFault.j0 k (!t257) a0_0 a0_1 a0_2 a0_3 a0_4)) else (impl_SessionFault.j0 k true a0_0 a0_1 a0_2 a0_3 a0_4))) else (impl_SessionFault.j0 k true a0_0 a0_1 a0_2 a0_3 a0_4))) else (impl_SessionFault.j0 k true a0_0 a0_1 a0_2 a0_3 a0_4))) else (impl_SessionFault.j0 k true a0_0 a0_1 a0_2 a0_3 a0_4)) = some r := H
    have A4 := Aside0.mk A40
    clear A40
    by_cases c5 : t253 = true
    · subst c5
      have H1 : ((impl_isTwo.f a0_1).bind fun t254 => (if t254 = true then ((impl_isHold.f a0_2).bind fun t255 => (if t255 = true then ((impl_in.f a0_3 0 1000).bind fun t256 => (if t256 = true then ((impl_in.f a0_4 0 1000).bind fun t257 => (impl_SessionFault.j0 k (!t257) a0_0 a0_1 a0_2 a0_3 a0_4)) else (impl_SessionFault.j0 k true a0_0 a0_1 a0_2 a0_3 a0_4))) else (impl_SessionFault.j0 k true a0_0 a0_1 a0_2 a0_3 a0_4))) else (impl_SessionFault.j0 k true a0_0 a0_1 a0_2 a0_3 a0_4))) = some r := by rw [if_pos rfl] at H; exact H
      clear H
      have H := H1
      clear H1
      replace H := Option.bind_eq_some_iff.mp H
      obtain ⟨t254, A60, H⟩ := H
      replace H : (if t254 = true then ((impl_isHold.f a0_2).bind fun t255 => (if t255 = true then ((impl_in.f a0_3 0 1000).bind fun t256 => (if t256 = true then ((impl_in.f a0_4 0 1000).bind fun t257 => (impl_SessionFault.j0 k (!t257) a0_0 a0_1 a0_2 a0_3 a0_4)) else (impl_SessionFault.j0 k true a0_0 a0_1 a0_2 a0_3 a0_4))) else (impl_SessionFault.j0 k true a0_0 a0_1 a0_2 a0_3 a0_4))) else (impl_SessionFault.j0 k true a0_0 a0_1 a0_2 a0_3 a0_4)) = some r := H
      have A6 := Aside0.mk A60
      clear A60
      by_cases c7 : t254 = true
      · subst c7
        have H1 : ((impl_isHold.f a0_2).bind fun t255 => (if t255 = true then ((impl_in.f a0_3 0 1000).bind fun t256 => (if t256 = true then ((impl_in.f a0_4 0 1000).bind fun t257 => (impl_SessionFault.j0 k (!t257) a0_0 a0_1 a0_2 a0_3 a0_4)) else (impl_SessionFault.j0 k true a0_0 a0_1 a0_2 a0_3 a0_4))) else (impl_SessionFault.j0 k true a0_0 a0_1 a0_2 a0_3 a0_4))) = some r := by rw [if_pos rfl] at H; exact H
        clear H
        have H := H1
        clear H1
        replace H := Option.bind_eq_some_iff.mp H
        obtain ⟨t255, A80, H⟩ := H
        replace H : (if t255 = true then ((impl_in.f a0_3 0 1000).bind fun t256 => (if t256 = true then ((impl_in.f a0_4 0 1000).bind fun t257 => (impl_SessionFault.j0 k (!t257) a0_0 a0_1 a0_2 a0_3 a0_4)) else (impl_SessionFault.j0 k true a0_0 a0_1 a0_2 a0_3 a0_4))) else (impl_SessionFault.j0 k true a0_0 a0_1 a0_2 a0_3 a0_4)) = some r := H
        have A8 := Aside0.mk A80
        clear A80
        by_cases c9 : t255 = true
        · subst c9
          have H1 : ((impl_in.f a0_3 0 1000).bind fun t256 => (if t256 = true then ((impl_in.f a0_4 0 1000).bind fun t257 => (impl_SessionFault.j0 k (!t257) a0_0 a0_1 a0_2 a0_3 a0_4)) else (impl_SessionFault.j0 k true a0_0 a0_1 a0_2 a0_3 a0_4))) = some r := by rw [if_pos rfl] at H; exact H
          clear H
          have H := H1
          clear H1
          replace H := Option.bind_eq_some_iff.mp H
          obtain ⟨t256, A100, H⟩ := H
          replace H : (if t256 = true then ((impl_in.f a0_4 0 1000).bind fun t257 => (impl_SessionFault.j0 k (!t257) a0_0 a0_1 a0_2 a0_3 a0_4)) else (impl_SessionFault.j0 k true a0_0 a0_1 a0_2 a0_3 a0_4)) = some r := H
          have A10 := Aside0.mk A100
          clear A100
          by_cases c11 : t256 = true
          · subst c11
            have H1 : ((impl_in.f a0_4 0 1000).bind fun t257 => (impl_SessionFault.j0 k (!t257) a0_0 a0_1 a0_2 a0_3 a0_4)) = some r := by rw [if_pos rfl] at H; exact H
            clear H
            have H := H1
            clear H1
            replace H := Option.bind_eq_some_iff.mp H
            obtain ⟨t257, A120, H⟩ := H
            replace H : (impl_SessionFault.j0 k (!t257) a0_0 a0_1 a0_2 a0_3 a0_4) = some r := H
            have A12 := Aside0.mk A120
            clear A120
            have H' := Aside0.mk H
            clear H
            obtain ⟨hcz13_0, hcz13_1, hcz13_2, hcz13_3, hcz13_4, hfz13_0, hfz13_1, hfz13_2, hfz13_3, hfz13_4⟩ := cf5_ BK252
            go_wp2_with (first | ((with_reducible refine gate_callee (f := 79) rfl ?_); refine goe_ (some 6) Try.func79 #[.int .i64 a0_0, .int .i64 0, .int .i64 3] ?_; (with_reducible refine (impl_in.calls a0_0 0 3 true _ A4.out).mono ?_); rintro e w' ⟨rfl, ⟨nd, rfl⟩⟩; refine ⟨_, rfl, ?_⟩) | (go_at_call 188; (with_reducible refine (impl_isTwo.calls a0_1 true _ A6.out).mono ?_); rintro e w' ⟨rfl, ⟨nd, rfl⟩⟩) | (go_at_call 187; (with_reducible refine (impl_isHold.calls a0_2 true _ A8.out).mono ?_); rintro e w' ⟨rfl, ⟨nd, rfl⟩⟩) | (go_at_call 79; (with_reducible refine (impl_in.calls a0_3 0 1000 true _ A10.out).mono ?_); rintro e w' ⟨rfl, ⟨nd, rfl⟩⟩) | (go_at_call 79; (with_reducible refine (impl_in.calls a0_4 0 1000 t257 _ A12.out).mono ?_); rintro e w' ⟨rfl, ⟨nd, rfl⟩⟩))
            go_meet
            case rel => exact ⟨_, (!t257), sd_, H', ⟨ol_⟩, ⟨by (with_reducible repeat (first | refine blk_drewN ?_ _ | refine blk_drew ?_ | refine blk_alloc ?_ _)); exact BK252.out⟩, ⟨bb_⟩⟩
          · replace c11 := Bool.eq_false_iff.mpr c11
            subst c11
            have H1 : (impl_SessionFault.j0 k true a0_0 a0_1 a0_2 a0_3 a0_4) = some r := by rw [if_neg (show ¬ (false = true) by decide)] at H; exact H
            clear H
            have H := H1
            clear H1
            have H' := Aside0.mk H
            clear H
            obtain ⟨hcz14_0, hcz14_1, hcz14_2, hcz14_3, hcz14_4, hfz14_0, hfz14_1, hfz14_2, hfz14_3, hfz14_4⟩ := cf5_ BK252
            go_wp2_with (first | ((with_reducible refine gate_callee (f := 79) rfl ?_); refine goe_ (some 6) Try.func79 #[.int .i64 a0_0, .int .i64 0, .int .i64 3] ?_; (with_reducible refine (impl_in.calls a0_0 0 3 true _ A4.out).mono ?_); rintro e w' ⟨rfl, ⟨nd, rfl⟩⟩; refine ⟨_, rfl, ?_⟩) | (go_at_call 188; (with_reducible refine (impl_isTwo.calls a0_1 true _ A6.out).mono ?_); rintro e w' ⟨rfl, ⟨nd, rfl⟩⟩) | (go_at_call 187; (with_reducible refine (impl_isHold.calls a0_2 true _ A8.out).mono ?_); rintro e w' ⟨rfl, ⟨nd, rfl⟩⟩) | (go_at_call 79; (with_reducible refine (impl_in.calls a0_3 0 1000 false _ A10.out).mono ?_); rintro e w' ⟨rfl, ⟨nd, rfl⟩⟩))
            go_meet
            case rel => exact ⟨_, (true), sd_, H', ⟨ol_⟩, ⟨by (with_reducible repeat (first | refine blk_drewN ?_ _ | refine blk_drew ?_ | refine blk_alloc ?_ _)); exact BK252.out⟩, ⟨bb_⟩⟩
        · replace c9 := Bool.eq_false_iff.mpr c9
          subst c9
          have H1 : (impl_SessionFault.j0 k true a0_0 a0_1 a0_2 a0_3 a0_4) = some r := by rw [if_neg (show ¬ (false = true) by decide)] at H; exact H
          clear H
          have H := H1
          clear H1
          have H' := Aside0.mk H
          clear H
          obtain ⟨hcz15_0, hcz15_1, hcz15_2, hcz15_3, hcz15_4, hfz15_0, hfz15_1, hfz15_2, hfz15_3, hfz15_4⟩ := cf5_ BK252
          go_wp2_with (first | ((with_reducible refine gate_callee (f := 79) rfl ?_); refine goe_ (some 6) Try.func79 #[.int .i64 a0_0, .int .i64 0, .int .i64 3] ?_; (with_reducible refine (impl_in.calls a0_0 0 3 true _ A4.out).mono ?_); rintro e w' ⟨rfl, ⟨nd, rfl⟩⟩; refine ⟨_, rfl, ?_⟩) | (go_at_call 188; (with_reducible refine (impl_isTwo.calls a0_1 true _ A6.out).mono ?_); rintro e w' ⟨rfl, ⟨nd, rfl⟩⟩) | (go_at_call 187; (with_reducible refine (impl_isHold.calls a0_2 false _ A8.out).mono ?_); rintro e w' ⟨rfl, ⟨nd, rfl⟩⟩))
          go_meet
          case rel => exact ⟨_, (true), sd_, H', ⟨ol_⟩, ⟨by (with_reducible repeat (first | refine blk_drewN ?_ _ | refine blk_drew ?_ | refine blk_alloc ?_ _)); exact BK252.out⟩, ⟨bb_⟩⟩
      · replace c7 := Bool.eq_false_iff.mpr c7
        subst c7
        have H1 : (impl_SessionFault.j0 k true a0_0 a0_1 a0_2 a0_3 a0_4) = some r := by rw [if_neg (show ¬ (false = true) by decide)] at H; exact H
        clear H
        have H := H1
        clear H1
        have H' := Aside0.mk H
        clear H
        obtain ⟨hcz16_0, hcz16_1, hcz16_2, hcz16_3, hcz16_4, hfz16_0, hfz16_1, hfz16_2, hfz16_3, hfz16_4⟩ := cf5_ BK252
        go_wp2_with (first | ((with_reducible refine gate_callee (f := 79) rfl ?_); refine goe_ (some 6) Try.func79 #[.int .i64 a0_0, .int .i64 0, .int .i64 3] ?_; (with_reducible refine (impl_in.calls a0_0 0 3 true _ A4.out).mono ?_); rintro e w' ⟨rfl, ⟨nd, rfl⟩⟩; refine ⟨_, rfl, ?_⟩) | (go_at_call 188; (with_reducible refine (impl_isTwo.calls a0_1 false _ A6.out).mono ?_); rintro e w' ⟨rfl, ⟨nd, rfl⟩⟩))
        go_meet
        case rel => exact ⟨_, (true), sd_, H', ⟨ol_⟩, ⟨by (with_reducible repeat (first | refine blk_drewN ?_ _ | refine blk_drew ?_ | refine blk_alloc ?_ _)); exact BK252.out⟩, ⟨bb_⟩⟩
    · replace c5 := Bool.eq_false_iff.mpr c5
      subst c5
      have H1 : (impl_SessionFault.j0 k true a0_0 a0_1 a0_2 a0_3 a0_4) = some r := by rw [if_neg (show ¬ (false = true) by decide)] at H; exact H
      clear H
      have H := H1
      clear H1
      have H' := Aside0.mk H
      clear H
      obtain ⟨hcz17_0, hcz17_1, hcz17_2, hcz17_3, hcz17_4, hfz17_0, hfz17_1, hfz17_2, hfz17_3, hfz17_4⟩ := cf5_ BK252
      go_wp2_with (first | ((with_reducible refine gate_callee (f := 79) rfl ?_); refine goe_ (some 6) Try.func79 #[.int .i64 a0_0, .int .i64 0, .int .i64 3] ?_; (with_reducible refine (impl_in.calls a0_0 0 3 false _ A4.out).mono ?_); rintro e w' ⟨rfl, ⟨nd, rfl⟩⟩; refine ⟨_, rfl, ?_⟩))
      go_meet
      case rel => exact ⟨_, (true), sd_, H', ⟨ol_⟩, ⟨by (with_reducible repeat (first | refine blk_drewN ?_ _ | refine blk_drew ?_ | refine blk_alloc ?_ _)); exact BK252.out⟩, ⟨bb_⟩⟩
  case rest =>
    clear HC2
    try clear c1
    try clear p2
    try clear c5
    try clear c7
    try clear c9
    try clear c11
    try clear c14
    try clear hcz13_0
    try clear hcz13_1
    try clear hcz13_2
    try clear hcz13_3
    try clear hcz13_4
    try clear hcz14_0
    try clear hcz14_1
    try clear hcz14_2
    try clear hcz14_3
    try clear hcz14_4
    try clear hcz15_0
    try clear hcz15_1
    try clear hcz15_2
    try clear hcz15_3
    try clear hcz15_4
    try clear hcz16_0
    try clear hcz16_1
    try clear hcz16_2
    try clear hcz16_3
    try clear hcz16_4
    try clear hcz17_0
    try clear hcz17_1
    try clear hcz17_2
    try clear hcz17_3
    try clear hcz17_4
    try clear hfz13_0
    try clear hfz13_1
    try clear hfz13_2
    try clear hfz13_3
    try clear hfz13_4
    try clear hfz14_0
    try clear hfz14_1
    try clear hfz14_2
    try clear hfz14_3
    try clear hfz14_4
    try clear hfz15_0
    try clear hfz15_1
    try clear hfz15_2
    try clear hfz15_3
    try clear hfz15_4
    try clear hfz16_0
    try clear hfz16_1
    try clear hfz16_2
    try clear hfz16_3
    try clear hfz16_4
    try clear hfz17_0
    try clear hfz17_1
    try clear hfz17_2
    try clear hfz17_3
    try clear hfz17_4
    obtain ⟨kq, x31_1, rfl, HA, HJ1, BK252, HB⟩ := hcut
    cases kq with
    | zero => exact absurd HA.out (by simp [impl_SessionFault.j0])
    | succ kj1 =>
      have H := HA.out
      clear HA
      simp only [impl_SessionFault.j0] at H
      by_cases c18 : x31_1 = true
      · subst c18
        have H1 : (some 3) = some r := by rw [if_pos rfl] at H; exact H
        clear H
        have H := H1
        clear H1
        obtain rfl := Option.some.inj H
        go_wp2
        go_ret
        exact ⟨er_, bb_⟩
      · replace c18 := Bool.eq_false_iff.mpr c18
        subst c18
        have H1 : (if a0_0 = 0 then (if ((a0_0 == 0 && (a0_1 == 0 && (a0_2 == 0 && (a0_3 == 0 && (a0_4 == 0))))) = true) then (some 0) else (some 1)) else (if a0_0 = 1 then (if a0_1 = 0 then (if a0_2 = 0 then (some 0) else (some 1)) else (some 1)) else (if a0_1 = 0 then (some 1) else (some 0)))) = some r := by rw [if_neg (show ¬ (false = true) by decide)] at H; exact H
        clear H
        have H := H1
        clear H1
        by_cases c19 : a0_0 = 0
        · rw [if_pos c19] at H
          have c19b0 : (a0_0 == 0) = true := beq_iff_eq.mpr c19
          have c19b1 : (a0_0 != 0) = false := bne_eq_false_iff_eq.mpr c19
          clear c19
          by_cases c20 : ((a0_0 == 0 && (a0_1 == 0 && (a0_2 == 0 && (a0_3 == 0 && (a0_4 == 0))))) = true)
          · rw [if_pos c20] at H
            have c20b0 : (a0_1 == 0) = true ∧ (a0_2 == 0) = true ∧ (a0_3 == 0) = true ∧ (a0_4 == 0) = true := by simpa [c19b0] using c20
            obtain ⟨d1_, d2_, d3_, d4_⟩ := c20b0
            clear c20
            obtain rfl := Option.some.inj H
            obtain ⟨hcz21_0, hcz21_1, hcz21_2, hcz21_3, hcz21_4, hfz21_0, hfz21_1, hfz21_2, hfz21_3, hfz21_4⟩ := cf5_ BK252
            go_wp2
            go_ret
            exact ⟨er_, bb_⟩
          · rw [if_neg c20] at H
            have c20b0 : (a0_1 == 0) = false ∨ (a0_1 == 0) = true ∧ ((a0_2 == 0) = false ∨ (a0_2 == 0) = true ∧ ((a0_3 == 0) = false ∨ (a0_3 == 0) = true ∧ (a0_4 == 0) = false)) := by
              cases e1 : (a0_1 == 0) <;> cases e2 : (a0_2 == 0) <;> cases e3 : (a0_3 == 0) <;> cases e4 : (a0_4 == 0) <;> simp [c19b0, e1, e2, e3, e4] at c20 ⊢
            clear c20
            rcases c20b0 with d1_ | ⟨d1_, d2_ | ⟨d2_, d3_ | ⟨d3_, d4_⟩⟩⟩
            all_goals
              obtain rfl := Option.some.inj H
              obtain ⟨hcz22_0, hcz22_1, hcz22_2, hcz22_3, hcz22_4, hfz22_0, hfz22_1, hfz22_2, hfz22_3, hfz22_4⟩ := cf5_ BK252
              go_wp2
              go_ret
              exact ⟨er_, bb_⟩
        · rw [if_neg c19] at H
          have c19b0 : (a0_0 == 0) = false := beq_eq_false_iff_ne.mpr c19
          have c19b1 : (a0_0 != 0) = true := bne_iff_ne.mpr c19
          by_cases c23 : a0_0 = 1
          · rw [if_pos c23] at H
            have c23b0 : (a0_0 == 1) = true := beq_iff_eq.mpr c23
            have c23b1 : (a0_0 != 1) = false := bne_eq_false_iff_eq.mpr c23
            clear c23
            by_cases c24 : a0_1 = 0
            · rw [if_pos c24] at H
              have c24b0 : (a0_1 == 0) = true := beq_iff_eq.mpr c24
              have c24b1 : (a0_1 != 0) = false := bne_eq_false_iff_eq.mpr c24
              clear c24
              by_cases c25 : a0_2 = 0
              · rw [if_pos c25] at H
                have c25b0 : (a0_2 == 0) = true := beq_iff_eq.mpr c25
                have c25b1 : (a0_2 != 0) = false := bne_eq_false_iff_eq.mpr c25
                clear c25
                obtain rfl := Option.some.inj H
                obtain ⟨hcz26_0, hcz26_1, hcz26_2, hcz26_3, hcz26_4, hfz26_0, hfz26_1, hfz26_2, hfz26_3, hfz26_4⟩ := cf5_ BK252
                go_wp2
                go_ret
                exact ⟨er_, bb_⟩
              · rw [if_neg c25] at H
                have c25b0 : (a0_2 == 0) = false := beq_eq_false_iff_ne.mpr c25
                have c25b1 : (a0_2 != 0) = true := bne_iff_ne.mpr c25
                obtain rfl := Option.some.inj H
                obtain ⟨hcz27_0, hcz27_1, hcz27_2, hcz27_3, hcz27_4, hfz27_0, hfz27_1, hfz27_2, hfz27_3, hfz27_4⟩ := cf5_ BK252
                go_wp2
                go_ret
                exact ⟨er_, bb_⟩
            · rw [if_neg c24] at H
              have c24b0 : (a0_1 == 0) = false := beq_eq_false_iff_ne.mpr c24
              have c24b1 : (a0_1 != 0) = true := bne_iff_ne.mpr c24
              obtain rfl := Option.some.inj H
              obtain ⟨hcz28_0, hcz28_1, hcz28_2, hcz28_3, hcz28_4, hfz28_0, hfz28_1, hfz28_2, hfz28_3, hfz28_4⟩ := cf5_ BK252
              go_wp2
              go_ret
              exact ⟨er_, bb_⟩
          · rw [if_neg c23] at H
            have c23b0 : (a0_0 == 1) = false := beq_eq_false_iff_ne.mpr c23
            have c23b1 : (a0_0 != 1) = true := bne_iff_ne.mpr c23
            by_cases c29 : a0_1 = 0
            · rw [if_pos c29] at H
              have c29b0 : (a0_1 == 0) = true := beq_iff_eq.mpr c29
              have c29b1 : (a0_1 != 0) = false := bne_eq_false_iff_eq.mpr c29
              clear c29
              obtain rfl := Option.some.inj H
              obtain ⟨hcz30_0, hcz30_1, hcz30_2, hcz30_3, hcz30_4, hfz30_0, hfz30_1, hfz30_2, hfz30_3, hfz30_4⟩ := cf5_ BK252
              go_wp2
              go_ret
              exact ⟨er_, bb_⟩
            · rw [if_neg c29] at H
              have c29b0 : (a0_1 == 0) = false := beq_eq_false_iff_ne.mpr c29
              have c29b1 : (a0_1 != 0) = true := bne_iff_ne.mpr c29
              obtain rfl := Option.some.inj H
              obtain ⟨hcz31_0, hcz31_1, hcz31_2, hcz31_3, hcz31_4, hfz31_0, hfz31_1, hfz31_2, hfz31_3, hfz31_4⟩ := cf5_ BK252
              go_wp2
              go_ret
              exact ⟨er_, bb_⟩
def impl_sessionCode.f (k : Nat) (a0_0 : Int) (a0_1 : Int) (a0_2 : Int) (a1_0 : Int) (a1_1 : Int) (a1_2 : Int) (a1_3 : Int) (a1_4 : Int) : Option (Int) := (impl_ConfigFault.f a0_0 a0_1 a0_2).bind fun t260 => (if t260 = 0 then ((impl_SessionFault.f k a1_0 a1_1 a1_2 a1_3 a1_4).bind fun t261 => (some t261)) else (some t260))
theorem impl_sessionCode.mono : ∀ a0 a1 a2 a3 a4 a5 a6 a7 k, LeO (impl_sessionCode.f k a0 a1 a2 a3 a4 a5 a6 a7) (impl_sessionCode.f (k + 1) a0 a1 a2 a3 a4 a5 a6 a7) := by
  intro a0 a1 a2 a3 a4 a5 a6 a7 k
  unfold impl_sessionCode.f
  repeat' first
      | (with_reducible exact impl_SessionFault.mono _ _ _ _ _ _)
      | (with_reducible exact LeO.refl _)
      | (with_reducible exact LeO.none _)
      | (with_reducible refine LeO.ite ?_ ?_)
      | (with_reducible refine LeO.bind ?_ (fun _ => ?_))
      | exact impl_SessionFault.mono _ _ _ _ _ _
      | exact LeO.none _
      | refine LeO.ite ?_ ?_
      | refine LeO.bind ?_ (fun _ => ?_)
set_option maxHeartbeats 8000000 in
set_option maxRecDepth 100000 in
theorem impl_sessionCode.calls (k : Nat) (a0_0 : Int) (a0_1 : Int) (a0_2 : Int) (a1_0 : Int) (a1_1 : Int) (a1_2 : Int) (a1_3 : Int) (a1_4 : Int) (r : Int) (w : World) (h : impl_sessionCode.f k a0_0 a0_1 a0_2 a1_0 a1_1 a1_2 a1_3 a1_4 = some r) :
    Calls Try.prog 88 #[.agg #[.int .i64 a0_0, .int .i64 a0_1, .int .i64 a0_2], .agg #[.int .i64 a1_0, .int .i64 a1_1, .int .i64 a1_2, .int .i64 a1_3, .int .i64 a1_4]] w fun e w' => e = .returned (.int .i64 r) ∧ Below w.heap.size w w' := by
  have hu47 := Try.underlying47
  have hu42 := Try.underlying42
  have HB := Aside0.mk (Below.refl w.heap.size w)
  have H : ((impl_ConfigFault.f a0_0 a0_1 a0_2).bind fun t260 => (if t260 = 0 then ((impl_SessionFault.f k a1_0 a1_1 a1_2 a1_3 a1_4).bind fun t261 => (some t261)) else (some t260))) = some r := h
  clear h
  replace H := Option.bind_eq_some_iff.mp H
  obtain ⟨t260, A30, H⟩ := H
  replace H : (if t260 = 0 then ((impl_SessionFault.f k a1_0 a1_1 a1_2 a1_3 a1_4).bind fun t261 => (some t261)) else (some t260)) = some r := H
  have A3 := Aside0.mk A30
  clear A30
  by_cases c4 : t260 = 0
  · rw [if_pos c4] at H
    have c4b0 : (t260 == 0) = true := beq_iff_eq.mpr c4
    have c4b1 : (t260 != 0) = false := bne_eq_false_iff_eq.mpr c4
    clear c4
    replace H := Option.bind_eq_some_iff.mp H
    obtain ⟨t261, A50, H⟩ := H
    replace H : (some t261) = some r := H
    have A5 := Aside0.mk A50
    clear A50
    obtain rfl := Option.some.inj H
    go_enter Try.func88, Try.ntmps88
    go_wp2_with (first | ((with_reducible refine gate_dst (N := 2) rfl ?_); refine box_e_ 2 #[.int .i64 a0_0, .int .i64 a0_1, .int .i64 a0_2] 47 ?_; intro gb258 hg w6 hbox hb; have BK258 := Aside0.mk (hbox); have GW258 := (bs_ hg : Aside0 (w.heap.size ≤ _)); have GE258 := (bs_ hg : Aside0 (w.heap.size ≤ _)); replace HB := Aside0.mk (below_step bb_ hb); clear hb hbox hg) | ((with_reducible refine gate_dst (N := 3) rfl ?_); refine box_e_ 3 #[.int .i64 a1_0, .int .i64 a1_1, .int .i64 a1_2, .int .i64 a1_3, .int .i64 a1_4] 42 ?_; intro gb259 hg w7 hbox hb; have BK259 := Aside0.mk (hbox); have GW259 := (bs_ hg : Aside0 (w.heap.size ≤ _)); have GE259 := (bs_ hg : Aside0 (w.heap.size ≤ _)); replace HB := Aside0.mk (below_step bb_ hb); have NB258_259 := (nl_ hg BK258 : Aside0 (gb258 ≠ gb259)); have NB259_258 := (nr_ hg BK258 : Aside0 (gb259 ≠ gb258)); replace BK258 := Aside0.mk (blk_below (kb_ BK258) hb); clear hb hbox hg; have hnb8 := NB258_259.out; have hnc8 := NB259_258.out; obtain ⟨hcz9_0, hcz9_1, hcz9_2, hfz9_0, hfz9_1, hfz9_2⟩ := cf3_ BK258) | ((with_reducible refine gate_callee (f := 141) rfl ?_); refine goe_ (some 7) Try.func141 #[.agg #[.int .i64 a0_0, .int .i64 a0_1, .int .i64 a0_2]] ?_; (with_reducible refine (impl_ConfigFault.calls a0_0 a0_1 a0_2 t260 _ A3.out).mono ?_); rintro e w10 ⟨rfl, hb⟩; refine ⟨_, rfl, ?_⟩; replace BK258 := Aside0.mk (blk_below (kb_ BK258) hb); replace BK259 := Aside0.mk (blk_below (kb_ BK259) hb); replace HB := Aside0.mk (below_step bb_ hb); (try clear hb); (try clear hb2); (try clear hk); (try clear hi); obtain ⟨hcz11_0, hcz11_1, hcz11_2, hcz11_3, hcz11_4, hfz11_0, hfz11_1, hfz11_2, hfz11_3, hfz11_4⟩ := cf5_ BK259) | ((with_reducible refine gate_callee (f := 142) rfl ?_); refine goe_ (some 12) Try.func142 #[.agg #[.int .i64 a1_0, .int .i64 a1_1, .int .i64 a1_2, .int .i64 a1_3, .int .i64 a1_4]] ?_; (with_reducible refine (impl_SessionFault.calls k a1_0 a1_1 a1_2 a1_3 a1_4 t261 _ A5.out).mono ?_); rintro e w12 ⟨rfl, hb⟩; refine ⟨_, rfl, ?_⟩; replace BK258 := Aside0.mk (blk_below (kb_ BK258) hb); replace BK259 := Aside0.mk (blk_below (kb_ BK259) hb); replace HB := Aside0.mk (below_step bb_ hb); (try clear hb); (try clear hb2); (try clear hk); (try clear hi)))
    go_ret
    exact ⟨er_, bb_⟩
  · rw [if_neg c4] at H
    have c4b0 : (t260 == 0) = false := beq_eq_false_iff_ne.mpr c4
    have c4b1 : (t260 != 0) = true := bne_iff_ne.mpr c4
    obtain rfl := Option.some.inj H
    go_enter Try.func88, Try.ntmps88
    go_wp2_with (first | ((with_reducible refine gate_dst (N := 2) rfl ?_); refine box_e_ 2 #[.int .i64 a0_0, .int .i64 a0_1, .int .i64 a0_2] 47 ?_; intro gb258 hg w13 hbox hb; have BK258 := Aside0.mk (hbox); have GW258 := (bs_ hg : Aside0 (w.heap.size ≤ _)); have GE258 := (bs_ hg : Aside0 (w.heap.size ≤ _)); replace HB := Aside0.mk (below_step bb_ hb); clear hb hbox hg) | ((with_reducible refine gate_dst (N := 3) rfl ?_); refine box_e_ 3 #[.int .i64 a1_0, .int .i64 a1_1, .int .i64 a1_2, .int .i64 a1_3, .int .i64 a1_4] 42 ?_; intro gb259 hg w14 hbox hb; have BK259 := Aside0.mk (hbox); have GW259 := (bs_ hg : Aside0 (w.heap.size ≤ _)); have GE259 := (bs_ hg : Aside0 (w.heap.size ≤ _)); replace HB := Aside0.mk (below_step bb_ hb); have NB258_259 := (nl_ hg BK258 : Aside0 (gb258 ≠ gb259)); have NB259_258 := (nr_ hg BK258 : Aside0 (gb259 ≠ gb258)); replace BK258 := Aside0.mk (blk_below (kb_ BK258) hb); clear hb hbox hg; have hnb15 := NB258_259.out; have hnc15 := NB259_258.out; obtain ⟨hcz16_0, hcz16_1, hcz16_2, hfz16_0, hfz16_1, hfz16_2⟩ := cf3_ BK258) | ((with_reducible refine gate_callee (f := 141) rfl ?_); refine goe_ (some 7) Try.func141 #[.agg #[.int .i64 a0_0, .int .i64 a0_1, .int .i64 a0_2]] ?_; (with_reducible refine (impl_ConfigFault.calls a0_0 a0_1 a0_2 t260 _ A3.out).mono ?_); rintro e w17 ⟨rfl, hb⟩; refine ⟨_, rfl, ?_⟩; replace BK258 := Aside0.mk (blk_below (kb_ BK258) hb); replace BK259 := Aside0.mk (blk_below (kb_ BK259) hb); replace HB := Aside0.mk (below_step bb_ hb); (try clear hb); (try clear hb2); (try clear hk); (try clear hi)))
    go_ret
    exact ⟨er_, bb_⟩
end Go.Proofs.Ythmkjapmnlhflaa.PFnExactTickSession
