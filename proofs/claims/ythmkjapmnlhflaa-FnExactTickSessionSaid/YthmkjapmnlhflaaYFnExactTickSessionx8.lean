/- The functions that the law FnExactTickSession reaches: each as a plain Lean function, with the proof that the call does what it says. -/
import Derived.Test.YthmkjapmnlhflaaYFnExactTickSessionx0
import Derived.Test.YthmkjapmnlhflaaYFnExactTickSessionx1
import Derived.Test.YthmkjapmnlhflaaYFnExactTickSessionx7
namespace Go.Proofs.Ythmkjapmnlhflaa.PFnExactTickSession
open Go.RowKit Go.Proofs.YthmkjapmnlhflaaW.PrintWords Go.Proofs.YthmkjapmnlhflaaW.PrintLast Go.Proofs.YthmkjapmnlhflaaW.PrintMore
attribute [local go_sem] max2_int min2_int max_two min_two max_three min_three max_four min_four
set_option linter.unusedVariables false
set_option linter.unusedSimpArgs false
attribute [local go_sem high] eqA42
def laws_heldSessionResult.f (k : Nat) (a0_0 : Int) (a0_1 : Int) (a0_2 : Int) (a0_3 : Int) (a0_4 : Int) (a0_5 : Int) (l0_6 : List (S136)) (a0_7 : Bool) (a0_8 : Bool) (a0_9 : Bool) (a1 : Int) : Option (Int) := (laws_heldMessageS.f k l0_6 a1).bind fun t159 => (if t159 < 0 then (some (-1)) else (some t159))
theorem laws_heldSessionResult.mono : ∀ a0 a1 a2 a3 a4 a5 a6 a7 a8 a9 a10 k, LeO (laws_heldSessionResult.f k a0 a1 a2 a3 a4 a5 a6 a7 a8 a9 a10) (laws_heldSessionResult.f (k + 1) a0 a1 a2 a3 a4 a5 a6 a7 a8 a9 a10) := by
  intro a0 a1 a2 a3 a4 a5 a6 a7 a8 a9 a10 k
  unfold laws_heldSessionResult.f
  repeat' first
      | (with_reducible exact laws_heldMessageS.mono _ _ _)
      | (with_reducible exact LeO.refl _)
      | (with_reducible exact LeO.none _)
      | (with_reducible refine LeO.ite ?_ ?_)
      | (with_reducible refine LeO.bind ?_ (fun _ => ?_))
      | exact laws_heldMessageS.mono _ _ _
      | exact LeO.none _
      | refine LeO.ite ?_ ?_
      | refine LeO.bind ?_ (fun _ => ?_)
set_option maxHeartbeats 8000000 in
set_option maxRecDepth 100000 in
theorem laws_heldSessionResult.calls (k : Nat) (a0_0 : Int) (a0_1 : Int) (a0_2 : Int) (a0_3 : Int) (a0_4 : Int) (a0_5 : Int) (A0_6 : Option Addr) (c0_6 : Nat) (l0_6 : List (S136)) (a0_7 : Bool) (a0_8 : Bool) (a0_9 : Bool) (a1 : Int) (r : Int) (w : World) (hr0_6 : Kd.C k136 w A0_6 l0_6.length l0_6) (hc0_6 : l0_6.length ≤ c0_6) (h : laws_heldSessionResult.f k a0_0 a0_1 a0_2 a0_3 a0_4 a0_5 l0_6 a0_7 a0_8 a0_9 a1 = some r) :
    Calls Try.prog 34 #[.agg #[.int .i64 a0_0, .int .i64 a0_1, .int .i64 a0_2, .int .i64 a0_3, .int .i64 a0_4, .int .i64 a0_5, .slice A0_6 l0_6.length c0_6, .bool a0_7, .bool a0_8, .bool a0_9], .int .i64 a1] w fun e w' => e = .returned (.int .i64 r) ∧ Below w.heap.size w w' := by
  have hu45 := Try.underlying45
  have HR0_6 := Aside0.mk hr0_6
  have HC0_6 := Aside0.mk hc0_6
  clear hr0_6 hc0_6
  have HB := Aside0.mk (Below.refl w.heap.size w)
  have H : ((laws_heldMessageS.f k l0_6 a1).bind fun t159 => (if t159 < 0 then (some (-1)) else (some t159))) = some r := h
  clear h
  replace H := Option.bind_eq_some_iff.mp H
  obtain ⟨t159, A30, H⟩ := H
  replace H : (if t159 < 0 then (some (-1)) else (some t159)) = some r := H
  have A3 := Aside0.mk A30
  clear A30
  by_cases c4 : t159 < 0
  · rw [if_pos c4] at H
    have c4b0 : decide (t159 < 0) = true := decide_eq_true c4
    clear c4
    obtain rfl := Option.some.inj H
    go_enter Try.func34, Try.ntmps34
    go_wp2_with (first | ((with_reducible refine gate_dst (N := 2) rfl ?_); refine box_e_ 2 #[.int .i64 a0_0, .int .i64 a0_1, .int .i64 a0_2, .int .i64 a0_3, .int .i64 a0_4, .int .i64 a0_5, .slice A0_6 l0_6.length c0_6, .bool a0_7, .bool a0_8, .bool a0_9] 45 ?_; intro gb158 hg w5 hbox hb; have BK158 := Aside0.mk (hbox); have GW158 := (bs_ hg : Aside0 (w.heap.size ≤ _)); have GE158 := (bs_ hg : Aside0 (w.heap.size ≤ _)); replace HB := Aside0.mk (below_step bb_ hb); clear hb hbox hg; obtain ⟨hcz6_0, hcz6_1, hcz6_2, hcz6_3, hcz6_4, hcz6_5, hcz6_6, hcz6_7, hcz6_8, hcz6_9, hfz6_0, hfz6_1, hfz6_2, hfz6_3, hfz6_4, hfz6_5, hfz6_6, hfz6_7, hfz6_8, hfz6_9⟩ := cf10_ BK158) | ((with_reducible refine gate_callee (f := 93) rfl ?_); refine goe_ (some 8) Try.func93 #[.slice A0_6 l0_6.length c0_6, .int .i64 a1] ?_; (with_reducible refine (laws_heldMessageS.calls k _ _ l0_6 a1 t159 _ ?side1 ?side2 A3.out).mono ?_); (case side1 => exact kc_ (Kd.C_below HR0_6.out HB.out)); (case side2 => exact HC0_6.out); rintro e w' ⟨rfl, ⟨nd, rfl⟩⟩; refine ⟨_, rfl, ?_⟩))
    go_ret
    exact ⟨er_, bb_⟩
  · rw [if_neg c4] at H
    have c4b0 : decide (t159 < 0) = false := decide_eq_false c4
    clear c4
    obtain rfl := Option.some.inj H
    go_enter Try.func34, Try.ntmps34
    go_wp2_with (first | ((with_reducible refine gate_dst (N := 2) rfl ?_); refine box_e_ 2 #[.int .i64 a0_0, .int .i64 a0_1, .int .i64 a0_2, .int .i64 a0_3, .int .i64 a0_4, .int .i64 a0_5, .slice A0_6 l0_6.length c0_6, .bool a0_7, .bool a0_8, .bool a0_9] 45 ?_; intro gb158 hg w7 hbox hb; have BK158 := Aside0.mk (hbox); have GW158 := (bs_ hg : Aside0 (w.heap.size ≤ _)); have GE158 := (bs_ hg : Aside0 (w.heap.size ≤ _)); replace HB := Aside0.mk (below_step bb_ hb); clear hb hbox hg; obtain ⟨hcz8_0, hcz8_1, hcz8_2, hcz8_3, hcz8_4, hcz8_5, hcz8_6, hcz8_7, hcz8_8, hcz8_9, hfz8_0, hfz8_1, hfz8_2, hfz8_3, hfz8_4, hfz8_5, hfz8_6, hfz8_7, hfz8_8, hfz8_9⟩ := cf10_ BK158) | ((with_reducible refine gate_callee (f := 93) rfl ?_); refine goe_ (some 8) Try.func93 #[.slice A0_6 l0_6.length c0_6, .int .i64 a1] ?_; (with_reducible refine (laws_heldMessageS.calls k _ _ l0_6 a1 t159 _ ?side1 ?side2 A3.out).mono ?_); (case side1 => exact kc_ (Kd.C_below HR0_6.out HB.out)); (case side2 => exact HC0_6.out); rintro e w' ⟨rfl, ⟨nd, rfl⟩⟩; refine ⟨_, rfl, ?_⟩))
    go_ret
    exact ⟨er_, bb_⟩
def spec_l1In.f (a0 : Int) (a1 : Int) (a2 : Int) : Option (Bool) := if a0 ≥ a1 then (some (decide (a0 ≤ a2))) else (some false)
set_option maxHeartbeats 8000000 in
set_option maxRecDepth 100000 in
theorem spec_l1In.calls (a0 : Int) (a1 : Int) (a2 : Int) (r : Bool) (w : World) (h : spec_l1In.f a0 a1 a2 = some r) :
    Calls Try.prog 77 #[.int .i64 a0, .int .i64 a1, .int .i64 a2] w fun e w' => e = .returned (.bool r) ∧ Drawn0 w w' := by
  have H : (if a0 ≥ a1 then (some (decide (a0 ≤ a2))) else (some false)) = some r := h
  clear h
  by_cases c4 : a0 ≥ a1
  · rw [if_pos c4] at H
    have c4b0 : decide (a1 ≤ a0) = true := decide_eq_true c4
    clear c4
    obtain rfl := Option.some.inj H
    go_enter Try.func77, Try.ntmps77
    go_wp2
    go_ret
    exact ⟨sd_, by repeat (first | exact Drawn0.refl _ | apply Drawn0.step)⟩
  · rw [if_neg c4] at H
    have c4b0 : decide (a1 ≤ a0) = false := decide_eq_false c4
    clear c4
    obtain rfl := Option.some.inj H
    go_enter Try.func77, Try.ntmps77
    go_wp2
    go_ret
    exact ⟨sd_, by repeat (first | exact Drawn0.refl _ | apply Drawn0.step)⟩
def spec_l4Hold.f (a0 : Int) : Option (Bool) := if a0 = 0 then (some true) else ((spec_l1In.f a0 3 200).bind fun t160 => (some t160))
set_option maxHeartbeats 8000000 in
set_option maxRecDepth 100000 in
theorem spec_l4Hold.calls (a0 : Int) (r : Bool) (w : World) (h : spec_l4Hold.f a0 = some r) :
    Calls Try.prog 184 #[.int .i64 a0] w fun e w' => e = .returned (.bool r) ∧ Drawn0 w w' := by
  have H : (if a0 = 0 then (some true) else ((spec_l1In.f a0 3 200).bind fun t160 => (some t160))) = some r := h
  clear h
  by_cases c2 : a0 = 0
  · rw [if_pos c2] at H
    have c2b0 : (a0 == 0) = true := beq_iff_eq.mpr c2
    have c2b1 : (a0 != 0) = false := bne_eq_false_iff_eq.mpr c2
    clear c2
    obtain rfl := Option.some.inj H
    go_enter Try.func184, Try.ntmps184
    go_wp2
    go_ret
    exact ⟨sd_, by repeat (first | exact Drawn0.refl _ | apply Drawn0.step)⟩
  · rw [if_neg c2] at H
    have c2b0 : (a0 == 0) = false := beq_eq_false_iff_ne.mpr c2
    have c2b1 : (a0 != 0) = true := bne_iff_ne.mpr c2
    replace H := Option.bind_eq_some_iff.mp H
    obtain ⟨t160, A30, H⟩ := H
    replace H : (some t160) = some r := H
    have A3 := Aside0.mk A30
    clear A30
    obtain rfl := Option.some.inj H
    go_enter Try.func184, Try.ntmps184
    go_wp2_with (first | (go_at_call 77; (with_reducible refine (spec_l1In.calls a0 3 200 t160 _ A3.out).mono ?_); rintro e w' ⟨rfl, ⟨nd, rfl⟩⟩))
    go_ret
    exact ⟨sd_, by repeat (first | exact Drawn0.refl _ | apply Drawn0.step)⟩
def spec_ConfigFault.f (a0_0 : Int) (a0_1 : Int) (a0_2 : Int) : Option (Int) := (spec_l1In.f a0_0 1 65535).bind fun t162 => (if t162 = true then ((spec_l1In.f a0_1 1 65535).bind fun t163 => (if t163 = true then ((spec_l4Hold.f a0_2).bind fun t164 => (if t164 = true then (some 0) else (some 3))) else (some 3))) else (some 3))
set_option maxHeartbeats 8000000 in
set_option maxRecDepth 100000 in
theorem spec_ConfigFault.calls (a0_0 : Int) (a0_1 : Int) (a0_2 : Int) (r : Int) (w : World) (h : spec_ConfigFault.f a0_0 a0_1 a0_2 = some r) :
    Calls Try.prog 139 #[.agg #[.int .i64 a0_0, .int .i64 a0_1, .int .i64 a0_2]] w fun e w' => e = .returned (.int .i64 r) ∧ Below w.heap.size w w' := by
  have hu47 := Try.underlying47
  have HB := Aside0.mk (Below.refl w.heap.size w)
  have H : ((spec_l1In.f a0_0 1 65535).bind fun t162 => (if t162 = true then ((spec_l1In.f a0_1 1 65535).bind fun t163 => (if t163 = true then ((spec_l4Hold.f a0_2).bind fun t164 => (if t164 = true then (some 0) else (some 3))) else (some 3))) else (some 3))) = some r := h
  clear h
  replace H := Option.bind_eq_some_iff.mp H
  obtain ⟨t162, A20, H⟩ := H
  replace H : (if t162 = true then ((spec_l1In.f a0_1 1 65535).bind fun t163 => (if t163 = true then ((spec_l4Hold.f a0_2).bind fun t164 => (if t164 = true then (some 0) else (some 3))) else (some 3))) else (some 3)) = some r := H
  have A2 := Aside0.mk A20
  clear A20
  by_cases c3 : t162 = true
  · subst c3
    have H1 : ((spec_l1In.f a0_1 1 65535).bind fun t163 => (if t163 = true then ((spec_l4Hold.f a0_2).bind fun t164 => (if t164 = true then (some 0) else (some 3))) else (some 3))) = some r := by rw [if_pos rfl] at H; exact H
    clear H
    have H := H1
    clear H1
    replace H := Option.bind_eq_some_iff.mp H
    obtain ⟨t163, A40, H⟩ := H
    replace H : (if t163 = true then ((spec_l4Hold.f a0_2).bind fun t164 => (if t164 = true then (some 0) else (some 3))) else (some 3)) = some r := H
    have A4 := Aside0.mk A40
    clear A40
    by_cases c5 : t163 = true
    · subst c5
      have H1 : ((spec_l4Hold.f a0_2).bind fun t164 => (if t164 = true then (some 0) else (some 3))) = some r := by rw [if_pos rfl] at H; exact H
      clear H
      have H := H1
      clear H1
      replace H := Option.bind_eq_some_iff.mp H
      obtain ⟨t164, A60, H⟩ := H
      replace H : (if t164 = true then (some 0) else (some 3)) = some r := H
      have A6 := Aside0.mk A60
      clear A60
      by_cases c7 : t164 = true
      · subst c7
        have H1 : (some 0) = some r := by rw [if_pos rfl] at H; exact H
        clear H
        have H := H1
        clear H1
        obtain rfl := Option.some.inj H
        go_enter Try.func139, Try.ntmps139
        go_wp2_with (first | ((with_reducible refine gate_dst (N := 1) rfl ?_); refine box_e_ 1 #[.int .i64 a0_0, .int .i64 a0_1, .int .i64 a0_2] 47 ?_; intro gb161 hg w8 hbox hb; have BK161 := Aside0.mk (hbox); have GW161 := (bs_ hg : Aside0 (w.heap.size ≤ _)); have GE161 := (bs_ hg : Aside0 (w.heap.size ≤ _)); replace HB := Aside0.mk (below_step bb_ hb); clear hb hbox hg; obtain ⟨hcz9_0, hcz9_1, hcz9_2, hfz9_0, hfz9_1, hfz9_2⟩ := cf3_ BK161) | ((with_reducible refine gate_callee (f := 77) rfl ?_); refine goe_ (some 5) Try.func77 #[.int .i64 a0_0, .int .i64 1, .int .i64 65535] ?_; (with_reducible refine (spec_l1In.calls a0_0 1 65535 true _ A2.out).mono ?_); rintro e w' ⟨rfl, ⟨nd, rfl⟩⟩; refine ⟨_, rfl, ?_⟩) | (go_at_call 77; (with_reducible refine (spec_l1In.calls a0_1 1 65535 true _ A4.out).mono ?_); rintro e w' ⟨rfl, ⟨nd, rfl⟩⟩) | (go_at_call 184; (with_reducible refine (spec_l4Hold.calls a0_2 true _ A6.out).mono ?_); rintro e w' ⟨rfl, ⟨nd, rfl⟩⟩))
        go_ret
        exact ⟨er_, bb_⟩
      · replace c7 := Bool.eq_false_iff.mpr c7
        subst c7
        have H1 : (some 3) = some r := by rw [if_neg (show ¬ (false = true) by decide)] at H; exact H
        clear H
        have H := H1
        clear H1
        obtain rfl := Option.some.inj H
        go_enter Try.func139, Try.ntmps139
        go_wp2_with (first | ((with_reducible refine gate_dst (N := 1) rfl ?_); refine box_e_ 1 #[.int .i64 a0_0, .int .i64 a0_1, .int .i64 a0_2] 47 ?_; intro gb161 hg w10 hbox hb; have BK161 := Aside0.mk (hbox); have GW161 := (bs_ hg : Aside0 (w.heap.size ≤ _)); have GE161 := (bs_ hg : Aside0 (w.heap.size ≤ _)); replace HB := Aside0.mk (below_step bb_ hb); clear hb hbox hg; obtain ⟨hcz11_0, hcz11_1, hcz11_2, hfz11_0, hfz11_1, hfz11_2⟩ := cf3_ BK161) | ((with_reducible refine gate_callee (f := 77) rfl ?_); refine goe_ (some 5) Try.func77 #[.int .i64 a0_0, .int .i64 1, .int .i64 65535] ?_; (with_reducible refine (spec_l1In.calls a0_0 1 65535 true _ A2.out).mono ?_); rintro e w' ⟨rfl, ⟨nd, rfl⟩⟩; refine ⟨_, rfl, ?_⟩) | (go_at_call 77; (with_reducible refine (spec_l1In.calls a0_1 1 65535 true _ A4.out).mono ?_); rintro e w' ⟨rfl, ⟨nd, rfl⟩⟩) | (go_at_call 184; (with_reducible refine (spec_l4Hold.calls a0_2 false _ A6.out).mono ?_); rintro e w' ⟨rfl, ⟨nd, rfl⟩⟩))
        go_ret
        exact ⟨er_, bb_⟩
    · replace c5 := Bool.eq_false_iff.mpr c5
      subst c5
      have H1 : (some 3) = some r := by rw [if_neg (show ¬ (false = true) by decide)] at H; exact H
      clear H
      have H := H1
      clear H1
      obtain rfl := Option.some.inj H
      go_enter Try.func139, Try.ntmps139
      go_wp2_with (first | ((with_reducible refine gate_dst (N := 1) rfl ?_); refine box_e_ 1 #[.int .i64 a0_0, .int .i64 a0_1, .int .i64 a0_2] 47 ?_; intro gb161 hg w12 hbox hb; have BK161 := Aside0.mk (hbox); have GW161 := (bs_ hg : Aside0 (w.heap.size ≤ _)); have GE161 := (bs_ hg : Aside0 (w.heap.size ≤ _)); replace HB := Aside0.mk (below_step bb_ hb); clear hb hbox hg; obtain ⟨hcz13_0, hcz13_1, hcz13_2, hfz13_0, hfz13_1, hfz13_2⟩ := cf3_ BK161) | ((with_reducible refine gate_callee (f := 77) rfl ?_); refine goe_ (some 5) Try.func77 #[.int .i64 a0_0, .int .i64 1, .int .i64 65535] ?_; (with_reducible refine (spec_l1In.calls a0_0 1 65535 true _ A2.out).mono ?_); rintro e w' ⟨rfl, ⟨nd, rfl⟩⟩; refine ⟨_, rfl, ?_⟩) | (go_at_call 77; (with_reducible refine (spec_l1In.calls a0_1 1 65535 false _ A4.out).mono ?_); rintro e w' ⟨rfl, ⟨nd, rfl⟩⟩))
      go_ret
      exact ⟨er_, bb_⟩
  · replace c3 := Bool.eq_false_iff.mpr c3
    subst c3
    have H1 : (some 3) = some r := by rw [if_neg (show ¬ (false = true) by decide)] at H; exact H
    clear H
    have H := H1
    clear H1
    obtain rfl := Option.some.inj H
    go_enter Try.func139, Try.ntmps139
    go_wp2_with (first | ((with_reducible refine gate_dst (N := 1) rfl ?_); refine box_e_ 1 #[.int .i64 a0_0, .int .i64 a0_1, .int .i64 a0_2] 47 ?_; intro gb161 hg w14 hbox hb; have BK161 := Aside0.mk (hbox); have GW161 := (bs_ hg : Aside0 (w.heap.size ≤ _)); have GE161 := (bs_ hg : Aside0 (w.heap.size ≤ _)); replace HB := Aside0.mk (below_step bb_ hb); clear hb hbox hg; obtain ⟨hcz15_0, hcz15_1, hcz15_2, hfz15_0, hfz15_1, hfz15_2⟩ := cf3_ BK161) | ((with_reducible refine gate_callee (f := 77) rfl ?_); refine goe_ (some 5) Try.func77 #[.int .i64 a0_0, .int .i64 1, .int .i64 65535] ?_; (with_reducible refine (spec_l1In.calls a0_0 1 65535 false _ A2.out).mono ?_); rintro e w' ⟨rfl, ⟨nd, rfl⟩⟩; refine ⟨_, rfl, ?_⟩))
    go_ret
    exact ⟨er_, bb_⟩
def spec_l3Word.f (a0 : Int) : Option (Bool) := (spec_l1In.f a0 0 65535).bind fun t165 => (some t165)
set_option maxHeartbeats 8000000 in
set_option maxRecDepth 100000 in
theorem spec_l3Word.calls (a0 : Int) (r : Bool) (w : World) (h : spec_l3Word.f a0 = some r) :
    Calls Try.prog 185 #[.int .i64 a0] w fun e w' => e = .returned (.bool r) ∧ Drawn0 w w' := by
  have H : ((spec_l1In.f a0 0 65535).bind fun t165 => (some t165)) = some r := h
  clear h
  replace H := Option.bind_eq_some_iff.mp H
  obtain ⟨t165, A20, H⟩ := H
  replace H : (some t165) = some r := H
  have A2 := Aside0.mk A20
  clear A20
  obtain rfl := Option.some.inj H
  go_enter Try.func185, Try.ntmps185
  go_wp2_with (first | ((with_reducible refine gate_callee (f := 77) rfl ?_); refine goe_ (some 4) Try.func77 #[.int .i64 a0, .int .i64 0, .int .i64 65535] ?_; (with_reducible refine (spec_l1In.calls a0 0 65535 t165 _ A2.out).mono ?_); rintro e w' ⟨rfl, ⟨nd, rfl⟩⟩; refine ⟨_, rfl, ?_⟩))
  go_ret
  exact ⟨sd_, by repeat (first | exact Drawn0.refl _ | apply Drawn0.step)⟩
def spec_SessionFault.j0 : Nat → Bool → Int → Int → Int → Int → Int → Option (Int)
  | 0, _, _, _, _, _, _ => none
  | k + 1, x31, x167000, x167001, x167002, x167003, x167004 => if x31 = true then (some 3) else (if x167000 = 0 then (if (!(x167000 == 0) || (!(x167001 == 0) || (!(x167002 == 0) || (!(x167003 == 0) || (!(x167004 == 0)))))) = true then (some 1) else (some 0)) else (if x167000 = 1 then (if x167001 = 0 then (if x167002 = 0 then (some 0) else (some 1)) else (some 1)) else (if x167001 = 0 then (some 1) else (some 0))))
def spec_SessionFault.f (k : Nat) (a0_0 : Int) (a0_1 : Int) (a0_2 : Int) (a0_3 : Int) (a0_4 : Int) : Option (Int) := (spec_l1In.f a0_0 0 3).bind fun t167 => (if t167 = true then ((spec_l3Word.f a0_1).bind fun t168 => (if t168 = true then ((spec_l4Hold.f a0_2).bind fun t169 => (if t169 = true then ((spec_l1In.f a0_3 0 1000).bind fun t170 => (if t170 = true then ((spec_l1In.f a0_4 0 1000).bind fun t171 => (spec_SessionFault.j0 k (!t171) a0_0 a0_1 a0_2 a0_3 a0_4)) else (spec_SessionFault.j0 k true a0_0 a0_1 a0_2 a0_3 a0_4))) else (spec_SessionFault.j0 k true a0_0 a0_1 a0_2 a0_3 a0_4))) else (spec_SessionFault.j0 k true a0_0 a0_1 a0_2 a0_3 a0_4))) else (spec_SessionFault.j0 k true a0_0 a0_1 a0_2 a0_3 a0_4))
theorem spec_SessionFault.mono_l : ∀ k, (∀ y0 y1 y2 y3 y4 y5, LeO (spec_SessionFault.j0 k y0 y1 y2 y3 y4 y5) (spec_SessionFault.j0 (k + 1) y0 y1 y2 y3 y4 y5))
  | 0 => fun _ _ _ _ _ _ r h => by simp [spec_SessionFault.j0] at h
  | k + 1 => by
    have ih0 := spec_SessionFault.mono_l k
    · intro y0 y1 y2 y3 y4 y5
      unfold spec_SessionFault.j0
      repeat' first
      | (with_reducible exact ih0 _ _ _ _ _ _)
      | (with_reducible exact LeO.refl _)
      | (with_reducible exact LeO.none _)
      | (with_reducible refine LeO.ite ?_ ?_)
      | (with_reducible refine LeO.bind ?_ (fun _ => ?_))
      | exact ih0 _ _ _ _ _ _
      | exact LeO.none _
      | refine LeO.ite ?_ ?_
      | refine LeO.bind ?_ (fun _ => ?_)
theorem spec_SessionFault.mono : ∀ a0 a1 a2 a3 a4 k, LeO (spec_SessionFault.f k a0 a1 a2 a3 a4) (spec_SessionFault.f (k + 1) a0 a1 a2 a3 a4) := by
  intro a0 a1 a2 a3 a4 k
  have ih0 := spec_SessionFault.mono_l k
  unfold spec_SessionFault.f
  repeat' first
      | (with_reducible exact ih0 _ _ _ _ _ _)
      | (with_reducible exact LeO.refl _)
      | (with_reducible exact LeO.none _)
      | (with_reducible refine LeO.ite ?_ ?_)
      | (with_reducible refine LeO.bind ?_ (fun _ => ?_))
      | exact ih0 _ _ _ _ _ _
      | exact LeO.none _
      | refine LeO.ite ?_ ?_
      | refine LeO.bind ?_ (fun _ => ?_)
set_option maxHeartbeats 8000000 in
set_option maxRecDepth 100000 in
theorem spec_SessionFault.calls (k : Nat) (a0_0 : Int) (a0_1 : Int) (a0_2 : Int) (a0_3 : Int) (a0_4 : Int) (r : Int) (w : World) (h : spec_SessionFault.f k a0_0 a0_1 a0_2 a0_3 a0_4 = some r) :
    Calls Try.prog 140 #[.agg #[.int .i64 a0_0, .int .i64 a0_1, .int .i64 a0_2, .int .i64 a0_3, .int .i64 a0_4]] w fun e w' => e = .returned (.int .i64 r) ∧ Below w.heap.size w w' := by
  have hu42 := Try.underlying42
  have HB := Aside0.mk (Below.refl w.heap.size w)
  have H : ((spec_l1In.f a0_0 0 3).bind fun t167 => (if t167 = true then ((spec_l3Word.f a0_1).bind fun t168 => (if t168 = true then ((spec_l4Hold.f a0_2).bind fun t169 => (if t169 = true then ((spec_l1In.f a0_3 0 1000).bind fun t170 => (if t170 = true then ((spec_l1In.f a0_4 0 1000).bind fun t171 => (spec_SessionFault.j0 k (!t171) a0_0 a0_1 a0_2 a0_3 a0_4)) else (spec_SessionFault.j0 k true a0_0 a0_1 a0_2 a0_3 a0_4))) else (spec_SessionFault.j0 k true a0_0 a0_1 a0_2 a0_3 a0_4))) else (spec_SessionFault.j0 k true a0_0 a0_1 a0_2 a0_3 a0_4))) else (spec_SessionFault.j0 k true a0_0 a0_1 a0_2 a0_3 a0_4))) = some r := h
  clear h
  have HC2 := Aside0.mk H
  clear H
  go_enter Try.func140, Try.ntmps140
  go_upto_region 1 with (first | ((with_reducible refine gate_dst (N := 1) rfl ?_); refine box_e_ 1 #[.int .i64 a0_0, .int .i64 a0_1, .int .i64 a0_2, .int .i64 a0_3, .int .i64 a0_4] 42 ?_; intro gb166 hg w3 hbox hb; have BK166 := Aside0.mk (hbox); have GW166 := (bs_ hg : Aside0 (w.heap.size ≤ _)); have GE166 := (bs_ hg : Aside0 (w.heap.size ≤ _)); replace HB := Aside0.mk (below_step bb_ hb); clear hb hbox hg))
  (try simp only [Act.put, List.setIfInBounds_toArray, List.set_cons_zero, List.set_cons_succ])
  go_cut [31] (fun v31 wc => ∃ (kq : Nat) (x31_1 : Bool), v31 = .bool x31_1 ∧ Aside0 (spec_SessionFault.j0 kq x31_1 a0_0 a0_1 a0_2 a0_3 a0_4 = some r) ∧ Aside0 (kq ≤ k) ∧ Aside0 (wc.heap[gb166]? = some (.cells #[.int .i64 a0_0, .int .i64 a0_1, .int .i64 a0_2, .int .i64 a0_3, .int .i64 a0_4] 42 (0, 0))) ∧ Aside0 (Below w.heap.size w wc))
  case first =>
    have H := HC2.out
    clear HC2
    replace H := Option.bind_eq_some_iff.mp H
    obtain ⟨t167, A40, H⟩ := H
    replace H : (if t167 = true then ((spec_l3Word.f a0_1).bind fun t168 => (if t168 = true then ((spec_l4Hold.f a0_2).bind fun t169 => (if t169 = true then ((spec_l1In.f a0_3 0 1000).bind fun t170 => (if t170 = true then ((spec_l1In.f a0_4 0 1000).bind fun t171 => (spec_SessionFault.j0 k (!t171) a0_0 a0_1 a0_2 a0_3 a0_4)) else (spec_SessionFault.j0 k true a0_0 a0_1 a0_2 a0_3 a0_4))) else (spec_SessionFault.j0 k true a0_0 a0_1 a0_2 a0_3 a0_4))) else (spec_SessionFault.j0 k true a0_0 a0_1 a0_2 a0_3 a0_4))) else (spec_SessionFault.j0 k true a0_0 a0_1 a0_2 a0_3 a0_4)) = some r := H
    have A4 := Aside0.mk A40
    clear A40
    by_cases c5 : t167 = true
    · subst c5
      have H1 : ((spec_l3Word.f a0_1).bind fun t168 => (if t168 = true then ((spec_l4Hold.f a0_2).bind fun t169 => (if t169 = true then ((spec_l1In.f a0_3 0 1000).bind fun t170 => (if t170 = true then ((spec_l1In.f a0_4 0 1000).bind fun t171 => (spec_SessionFault.j0 k (!t171) a0_0 a0_1 a0_2 a0_3 a0_4)) else (spec_SessionFault.j0 k true a0_0 a0_1 a0_2 a0_3 a0_4))) else (spec_SessionFault.j0 k true a0_0 a0_1 a0_2 a0_3 a0_4))) else (spec_SessionFault.j0 k true a0_0 a0_1 a0_2 a0_3 a0_4))) = some r := by rw [if_pos rfl] at H; exact H
      clear H
      have H := H1
      clear H1
      replace H := Option.bind_eq_some_iff.mp H
      obtain ⟨t168, A60, H⟩ := H
      replace H : (if t168 = true then ((spec_l4Hold.f a0_2).bind fun t169 => (if t169 = true then ((spec_l1In.f a0_3 0 1000).bind fun t170 => (if t170 = true then ((spec_l1In.f a0_4 0 1000).bind fun t171 => (spec_SessionFault.j0 k (!t171) a0_0 a0_1 a0_2 a0_3 a0_4)) else (spec_SessionFault.j0 k true a0_0 a0_1 a0_2 a0_3 a0_4))) else (spec_SessionFault.j0 k true a0_0 a0_1 a0_2 a0_3 a0_4))) else (spec_SessionFault.j0 k true a0_0 a0_1 a0_2 a0_3 a0_4)) = some r := H
      have A6 := Aside0.mk A60
      clear A60
      by_cases c7 : t168 = true
      · subst c7
        have H1 : ((spec_l4Hold.f a0_2).bind fun t169 => (if t169 = true then ((spec_l1In.f a0_3 0 1000).bind fun t170 => (if t170 = true then ((spec_l1In.f a0_4 0 1000).bind fun t171 => (spec_SessionFault.j0 k (!t171) a0_0 a0_1 a0_2 a0_3 a0_4)) else (spec_SessionFault.j0 k true a0_0 a0_1 a0_2 a0_3 a0_4))) else (spec_SessionFault.j0 k true a0_0 a0_1 a0_2 a0_3 a0_4))) = some r := by rw [if_pos rfl] at H; exact H
        clear H
        have H := H1
        clear H1
        replace H := Option.bind_eq_some_iff.mp H
        obtain ⟨t169, A80, H⟩ := H
        replace H : (if t169 = true then ((spec_l1In.f a0_3 0 1000).bind fun t170 => (if t170 = true then ((spec_l1In.f a0_4 0 1000).bind fun t171 => (spec_SessionFault.j0 k (!t171) a0_0 a0_1 a0_2 a0_3 a0_4)) else (spec_SessionFault.j0 k true a0_0 a0_1 a0_2 a0_3 a0_4))) else (spec_SessionFault.j0 k true a0_0 a0_1 a0_2 a0_3 a0_4)) = some r := H
        have A8 := Aside0.mk A80
        clear A80
        by_cases c9 : t169 = true
        · subst c9
          have H1 : ((spec_l1In.f a0_3 0 1000).bind fun t170 => (if t170 = true then ((spec_l1In.f a0_4 0 1000).bind fun t171 => (spec_SessionFault.j0 k (!t171) a0_0 a0_1 a0_2 a0_3 a0_4)) else (spec_SessionFault.j0 k true a0_0 a0_1 a0_2 a0_3 a0_4))) = some r := by rw [if_pos rfl] at H; exact H
          clear H
          have H := H1
          clear H1
          replace H := Option.bind_eq_some_iff.mp H
          obtain ⟨t170, A100, H⟩ := H
          replace H : (if t170 = true then ((spec_l1In.f a0_4 0 1000).bind fun t171 => (spec_SessionFault.j0 k (!t171) a0_0 a0_1 a0_2 a0_3 a0_4)) else (spec_SessionFault.j0 k true a0_0 a0_1 a0_2 a0_3 a0_4)) = some r := H
          have A10 := Aside0.mk A100
          clear A100
          by_cases c11 : t170 = true
          · subst c11
            have H1 : ((spec_l1In.f a0_4 0 1000).bind fun t171 => (spec_SessionFault.j0 k (!t171) a0_0 a0_1 a0_2 a0_3 a0_4)) = some r := by rw [if_pos rfl] at H; exact H
            clear H
            have H := H1
            clear H1
            replace H := Option.bind_eq_some_iff.mp H
            obtain ⟨t171, A120, H⟩ := H
            replace H : (spec_SessionFault.j0 k (!t171) a0_0 a0_1 a0_2 a0_3 a0_4) = some r := H
            have A12 := Aside0.mk A120
            clear A120
            have H' := Aside0.mk H
            clear H
            obtain ⟨hcz13_0, hcz13_1, hcz13_2, hcz13_3, hcz13_4, hfz13_0, hfz13_1, hfz13_2, hfz13_3, hfz13_4⟩ := cf5_ BK166
            go_wp2_with (first | ((with_reducible refine gate_callee (f := 77) rfl ?_); refine goe_ (some 6) Try.func77 #[.int .i64 a0_0, .int .i64 0, .int .i64 3] ?_; (with_reducible refine (spec_l1In.calls a0_0 0 3 true _ A4.out).mono ?_); rintro e w' ⟨rfl, ⟨nd, rfl⟩⟩; refine ⟨_, rfl, ?_⟩) | (go_at_call 185; (with_reducible refine (spec_l3Word.calls a0_1 true _ A6.out).mono ?_); rintro e w' ⟨rfl, ⟨nd, rfl⟩⟩) | (go_at_call 184; (with_reducible refine (spec_l4Hold.calls a0_2 true _ A8.out).mono ?_); rintro e w' ⟨rfl, ⟨nd, rfl⟩⟩) | (go_at_call 77; (with_reducible refine (spec_l1In.calls a0_3 0 1000 true _ A10.out).mono ?_); rintro e w' ⟨rfl, ⟨nd, rfl⟩⟩) | (go_at_call 77; (with_reducible refine (spec_l1In.calls a0_4 0 1000 t171 _ A12.out).mono ?_); rintro e w' ⟨rfl, ⟨nd, rfl⟩⟩))
            go_meet
            case rel => exact ⟨_, (!t171), sd_, H', ⟨ol_⟩, ⟨by (with_reducible repeat (first | refine blk_drewN ?_ _ | refine blk_drew ?_ | refine blk_alloc ?_ _)); exact BK166.out⟩, ⟨bb_⟩⟩
          · replace c11 := Bool.eq_false_iff.mpr c11
            subst c11
            have H1 : (spec_SessionFault.j0 k true a0_0 a0_1 a0_2 a0_3 a0_4) = some r := by rw [if_neg (show ¬ (false = true) by decide)] at H; exact H
            clear H
            have H := H1
            clear H1
            have H' := Aside0.mk H
            clear H
            obtain ⟨hcz14_0, hcz14_1, hcz14_2, hcz14_3, hcz14_4, hfz14_0, hfz14_1, hfz14_2, hfz14_3, hfz14_4⟩ := cf5_ BK166
            go_wp2_with (first | ((with_reducible refine gate_callee (f := 77) rfl ?_); refine goe_ (some 6) Try.func77 #[.int .i64 a0_0, .int .i64 0, .int .i64 3] ?_; (with_reducible refine (spec_l1In.calls a0_0 0 3 true _ A4.out).mono ?_); rintro e w' ⟨rfl, ⟨nd, rfl⟩⟩; refine ⟨_, rfl, ?_⟩) | (go_at_call 185; (with_reducible refine (spec_l3Word.calls a0_1 true _ A6.out).mono ?_); rintro e w' ⟨rfl, ⟨nd, rfl⟩⟩) | (go_at_call 184; (with_reducible refine (spec_l4Hold.calls a0_2 true _ A8.out).mono ?_); rintro e w' ⟨rfl, ⟨nd, rfl⟩⟩) | (go_at_call 77; (with_reducible refine (spec_l1In.calls a0_3 0 1000 false _ A10.out).mono ?_); rintro e w' ⟨rfl, ⟨nd, rfl⟩⟩))
            go_meet
            case rel => exact ⟨_, (true), sd_, H', ⟨ol_⟩, ⟨by (with_reducible repeat (first | refine blk_drewN ?_ _ | refine blk_drew ?_ | refine blk_alloc ?_ _)); exact BK166.out⟩, ⟨bb_⟩⟩
        · replace c9 := Bool.eq_false_iff.mpr c9
          subst c9
          have H1 : (spec_SessionFault.j0 k true a0_0 a0_1 a0_2 a0_3 a0_4) = some r := by rw [if_neg (show ¬ (false = true) by decide)] at H; exact H
          clear H
          have H := H1
          clear H1
          have H' := Aside0.mk H
          clear H
          obtain ⟨hcz15_0, hcz15_1, hcz15_2, hcz15_3, hcz15_4, hfz15_0, hfz15_1, hfz15_2, hfz15_3, hfz15_4⟩ := cf5_ BK166
          go_wp2_with (first | ((with_reducible refine gate_callee (f := 77) rfl ?_); refine goe_ (some 6) Try.func77 #[.int .i64 a0_0, .int .i64 0, .int .i64 3] ?_; (with_reducible refine (spec_l1In.calls a0_0 0 3 true _ A4.out).mono ?_); rintro e w' ⟨rfl, ⟨nd, rfl⟩⟩; refine ⟨_, rfl, ?_⟩) | (go_at_call 185; (with_reducible refine (spec_l3Word.calls a0_1 true _ A6.out).mono ?_); rintro e w' ⟨rfl, ⟨nd, rfl⟩⟩) | (go_at_call 184; (with_reducible refine (spec_l4Hold.calls a0_2 false _ A8.out).mono ?_); rintro e w' ⟨rfl, ⟨nd, rfl⟩⟩))
          go_meet
          case rel => exact ⟨_, (true), sd_, H', ⟨ol_⟩, ⟨by (with_reducible repeat (first | refine blk_drewN ?_ _ | refine blk_drew ?_ | refine blk_alloc ?_ _)); exact BK166.out⟩, ⟨bb_⟩⟩
      · replace c7 := Bool.eq_false_iff.mpr c7
        subst c7
        have H1 : (spec_SessionFault.j0 k true a0_0 a0_1 a0_2 a0_3 a0_4) = some r := by rw [if_neg (show ¬ (false = true) by decide)] at H; exact H
        clear H
        have H := H1
        clear H1
        have H' := Aside0.mk H
        clear H
        obtain ⟨hcz16_0, hcz16_1, hcz16_2, hcz16_3, hcz16_4, hfz16_0, hfz16_1, hfz16_2, hfz16_3, hfz16_4⟩ := cf5_ BK166
        go_wp2_with (first | ((with_reducible refine gate_callee (f := 77) rfl ?_); refine goe_ (some 6) Try.func77 #[.int .i64 a0_0, .int .i64 0, .int .i64 3] ?_; (with_reducible refine (spec_l1In.calls a0_0 0 3 true _ A4.out).mono ?_); rintro e w' ⟨rfl, ⟨nd, rfl⟩⟩; refine ⟨_, rfl, ?_⟩) | (go_at_call 185; (with_reducible refine (spec_l3Word.calls a0_1 false _ A6.out).mono ?_); rintro e w' ⟨rfl, ⟨nd, rfl⟩⟩))
        go_meet
        case rel => exact ⟨_, (true), sd_, H', ⟨ol_⟩, ⟨by (with_reducible repeat (first | refine blk_drewN ?_ _ | refine blk_drew ?_ | refine blk_alloc ?_ _)); exact BK166.out⟩, ⟨bb_⟩⟩
    · replace c5 := Bool.eq_false_iff.mpr c5
      subst c5
      have H1 : (spec_SessionFault.j0 k true a0_0 a0_1 a0_2 a0_3 a0_4) = some r := by rw [if_neg (show ¬ (false = true) by decide)] at H; exact H
      clear H
      have H := H1
      clear H1
      have H' := Aside0.mk H
      clear H
      obtain ⟨hcz17_0, hcz17_1, hcz17_2, hcz17_3, hcz17_4, hfz17_0, hfz17_1, hfz17_2, hfz17_3, hfz17_4⟩ := cf5_ BK166
      go_wp2_with (first | ((with_reducible refine gate_callee (f := 77) rfl ?_); refine goe_ (some 6) Try.func77 #[.int .i64 a0_0, .int .i64 0, .int .i64 3] ?_; (with_reducible refine (spec_l1In.calls a0_0 0 3 false _ A4.out).mono ?_); rintro e w' ⟨rfl, ⟨nd, rfl⟩⟩; refine ⟨_, rfl, ?_⟩))
      go_meet
      case rel => exact ⟨_, (true), sd_, H', ⟨ol_⟩, ⟨by (with_reducible repeat (first | refine blk_drewN ?_ _ | refine blk_drew ?_ | refine blk_alloc ?_ _)); exact BK166.out⟩, ⟨bb_⟩⟩
  case rest =>
    clear HC2
    try clear c1
    try clear p2
    try clear c5
    try clear c7
    try clear c9
    try clear c11
    try clear c14
    try clear hcz13_0
    try clear hcz13_1
    try clear hcz13_2
    try clear hcz13_3
    try clear hcz13_4
    try clear hcz14_0
    try clear hcz14_1
    try clear hcz14_2
    try clear hcz14_3
    try clear hcz14_4
    try clear hcz15_0
    try clear hcz15_1
    try clear hcz15_2
    try clear hcz15_3
    try clear hcz15_4
    try clear hcz16_0
    try clear hcz16_1
    try clear hcz16_2
    try clear hcz16_3
    try clear hcz16_4
    try clear hcz17_0
    try clear hcz17_1
    try clear hcz17_2
    try clear hcz17_3
    try clear hcz17_4
    try clear hfz13_0
    try clear hfz13_1
    try clear hfz13_2
    try clear hfz13_3
    try clear hfz13_4
    try clear hfz14_0
    try clear hfz14_1
    try clear hfz14_2
    try clear hfz14_3
    try clear hfz14_4
    try clear hfz15_0
    try clear hfz15_1
    try clear hfz15_2
    try clear hfz15_3
    try clear hfz15_4
    try clear hfz16_0
    try clear hfz16_1
    try clear hfz16_2
    try clear hfz16_3
    try clear hfz16_4
    try clear hfz17_0
    try clear hfz17_1
    try clear hfz17_2
    try clear hfz17_3
    try clear hfz17_4
    obtain ⟨kq, x31_1, rfl, HA, HJ1, BK166, HB⟩ := hcut
    cases kq with
    | zero => exact absurd HA.out (by simp [spec_SessionFault.j0])
    | succ kj1 =>
      have H := HA.out
      clear HA
      simp only [spec_SessionFault.j0] at H
      by_cases c18 : x31_1 = true
      · subst c18
        have H1 : (some 3) = some r := by rw [if_pos rfl] at H; exact H
        clear H
        have H := H1
        clear H1
        obtain rfl := Option.some.inj H
        go_wp2
        go_ret
        exact ⟨er_, bb_⟩
      · replace c18 := Bool.eq_false_iff.mpr c18
        subst c18
        have H1 : (if a0_0 = 0 then (if (!(a0_0 == 0) || (!(a0_1 == 0) || (!(a0_2 == 0) || (!(a0_3 == 0) || (!(a0_4 == 0)))))) = true then (some 1) else (some 0)) else (if a0_0 = 1 then (if a0_1 = 0 then (if a0_2 = 0 then (some 0) else (some 1)) else (some 1)) else (if a0_1 = 0 then (some 1) else (some 0)))) = some r := by rw [if_neg (show ¬ (false = true) by decide)] at H; exact H
        clear H
        have H := H1
        clear H1
        by_cases c19 : a0_0 = 0
        · rw [if_pos c19] at H
          have c19b0 : (a0_0 == 0) = true := beq_iff_eq.mpr c19
          have c19b1 : (a0_0 != 0) = false := bne_eq_false_iff_eq.mpr c19
          clear c19
          by_cases c20 : (!(a0_0 == 0) || (!(a0_1 == 0) || (!(a0_2 == 0) || (!(a0_3 == 0) || (!(a0_4 == 0)))))) = true
          · rw [if_pos c20] at H
            have c20b0 : (!(a0_1 == 0) || (!(a0_2 == 0) || (!(a0_3 == 0) || (!(a0_4 == 0))))) = true := by simpa [c19b0] using c20
            clear c20
            obtain rfl := Option.some.inj H
            go_wp2_with (first | ((with_reducible refine gate_dst (N := 3) rfl ?_); refine box_e_ 3 #[.int .i64 0, .int .i64 0, .int .i64 0, .int .i64 0, .int .i64 0] 42 ?_; intro gb172 hg w21 hbox hb; have BK172 := Aside0.mk (hbox); have GW172 := (bs_ hg : Aside0 (w.heap.size ≤ _)); have GE172 := (bs_ hg : Aside0 (w.heap.size ≤ _)); replace HB := Aside0.mk (below_step bb_ hb); have NB166_172 := (nl_ hg BK166 : Aside0 (gb166 ≠ gb172)); have NB172_166 := (nr_ hg BK166 : Aside0 (gb172 ≠ gb166)); replace BK166 := Aside0.mk (blk_below (kb_ BK166) hb); clear hb hbox hg; have hnb22 := NB172_166.out; have hnc22 := NB166_172.out; obtain ⟨hcz23_0, hcz23_1, hcz23_2, hcz23_3, hcz23_4, hfz23_0, hfz23_1, hfz23_2, hfz23_3, hfz23_4⟩ := cf5_ BK172; obtain ⟨hcz24_0, hcz24_1, hcz24_2, hcz24_3, hcz24_4, hfz24_0, hfz24_1, hfz24_2, hfz24_3, hfz24_4⟩ := cf5_ BK166))
            go_ret
            exact ⟨er_, bb_⟩
          · rw [if_neg c20] at H
            have c20b0 : (!(a0_1 == 0) || (!(a0_2 == 0) || (!(a0_3 == 0) || (!(a0_4 == 0))))) = false := by simpa [c19b0] using c20
            clear c20
            obtain rfl := Option.some.inj H
            go_wp2_with (first | ((with_reducible refine gate_dst (N := 3) rfl ?_); refine box_e_ 3 #[.int .i64 0, .int .i64 0, .int .i64 0, .int .i64 0, .int .i64 0] 42 ?_; intro gb172 hg w25 hbox hb; have BK172 := Aside0.mk (hbox); have GW172 := (bs_ hg : Aside0 (w.heap.size ≤ _)); have GE172 := (bs_ hg : Aside0 (w.heap.size ≤ _)); replace HB := Aside0.mk (below_step bb_ hb); have NB166_172 := (nl_ hg BK166 : Aside0 (gb166 ≠ gb172)); have NB172_166 := (nr_ hg BK166 : Aside0 (gb172 ≠ gb166)); replace BK166 := Aside0.mk (blk_below (kb_ BK166) hb); clear hb hbox hg; have hnb26 := NB172_166.out; have hnc26 := NB166_172.out; obtain ⟨hcz27_0, hcz27_1, hcz27_2, hcz27_3, hcz27_4, hfz27_0, hfz27_1, hfz27_2, hfz27_3, hfz27_4⟩ := cf5_ BK172; obtain ⟨hcz28_0, hcz28_1, hcz28_2, hcz28_3, hcz28_4, hfz28_0, hfz28_1, hfz28_2, hfz28_3, hfz28_4⟩ := cf5_ BK166))
            go_ret
            exact ⟨er_, bb_⟩
        · rw [if_neg c19] at H
          have c19b0 : (a0_0 == 0) = false := beq_eq_false_iff_ne.mpr c19
          have c19b1 : (a0_0 != 0) = true := bne_iff_ne.mpr c19
          by_cases c29 : a0_0 = 1
          · rw [if_pos c29] at H
            have c29b0 : (a0_0 == 1) = true := beq_iff_eq.mpr c29
            have c29b1 : (a0_0 != 1) = false := bne_eq_false_iff_eq.mpr c29
            clear c29
            by_cases c30 : a0_1 = 0
            · rw [if_pos c30] at H
              have c30b0 : (a0_1 == 0) = true := beq_iff_eq.mpr c30
              have c30b1 : (a0_1 != 0) = false := bne_eq_false_iff_eq.mpr c30
              clear c30
              by_cases c31 : a0_2 = 0
              · rw [if_pos c31] at H
                have c31b0 : (a0_2 == 0) = true := beq_iff_eq.mpr c31
                have c31b1 : (a0_2 != 0) = false := bne_eq_false_iff_eq.mpr c31
                clear c31
                obtain rfl := Option.some.inj H
                go_wp2_with (first | ((with_reducible refine gate_dst (N := 3) rfl ?_); refine box_e_ 3 #[.int .i64 0, .int .i64 0, .int .i64 0, .int .i64 0, .int .i64 0] 42 ?_; intro gb172 hg w32 hbox hb; have BK172 := Aside0.mk (hbox); have GW172 := (bs_ hg : Aside0 (w.heap.size ≤ _)); have GE172 := (bs_ hg : Aside0 (w.heap.size ≤ _)); replace HB := Aside0.mk (below_step bb_ hb); have NB166_172 := (nl_ hg BK166 : Aside0 (gb166 ≠ gb172)); have NB172_166 := (nr_ hg BK166 : Aside0 (gb172 ≠ gb166)); replace BK166 := Aside0.mk (blk_below (kb_ BK166) hb); clear hb hbox hg; have hnb33 := NB172_166.out; have hnc33 := NB166_172.out; obtain ⟨hcz34_0, hcz34_1, hcz34_2, hcz34_3, hcz34_4, hfz34_0, hfz34_1, hfz34_2, hfz34_3, hfz34_4⟩ := cf5_ BK172; obtain ⟨hcz35_0, hcz35_1, hcz35_2, hcz35_3, hcz35_4, hfz35_0, hfz35_1, hfz35_2, hfz35_3, hfz35_4⟩ := cf5_ BK166))
                go_ret
                exact ⟨er_, bb_⟩
              · rw [if_neg c31] at H
                have c31b0 : (a0_2 == 0) = false := beq_eq_false_iff_ne.mpr c31
                have c31b1 : (a0_2 != 0) = true := bne_iff_ne.mpr c31
                obtain rfl := Option.some.inj H
                go_wp2_with (first | ((with_reducible refine gate_dst (N := 3) rfl ?_); refine box_e_ 3 #[.int .i64 0, .int .i64 0, .int .i64 0, .int .i64 0, .int .i64 0] 42 ?_; intro gb172 hg w36 hbox hb; have BK172 := Aside0.mk (hbox); have GW172 := (bs_ hg : Aside0 (w.heap.size ≤ _)); have GE172 := (bs_ hg : Aside0 (w.heap.size ≤ _)); replace HB := Aside0.mk (below_step bb_ hb); have NB166_172 := (nl_ hg BK166 : Aside0 (gb166 ≠ gb172)); have NB172_166 := (nr_ hg BK166 : Aside0 (gb172 ≠ gb166)); replace BK166 := Aside0.mk (blk_below (kb_ BK166) hb); clear hb hbox hg; have hnb37 := NB172_166.out; have hnc37 := NB166_172.out; obtain ⟨hcz38_0, hcz38_1, hcz38_2, hcz38_3, hcz38_4, hfz38_0, hfz38_1, hfz38_2, hfz38_3, hfz38_4⟩ := cf5_ BK172; obtain ⟨hcz39_0, hcz39_1, hcz39_2, hcz39_3, hcz39_4, hfz39_0, hfz39_1, hfz39_2, hfz39_3, hfz39_4⟩ := cf5_ BK166))
                go_ret
                exact ⟨er_, bb_⟩
            · rw [if_neg c30] at H
              have c30b0 : (a0_1 == 0) = false := beq_eq_false_iff_ne.mpr c30
              have c30b1 : (a0_1 != 0) = true := bne_iff_ne.mpr c30
              obtain rfl := Option.some.inj H
              go_wp2_with (first | ((with_reducible refine gate_dst (N := 3) rfl ?_); refine box_e_ 3 #[.int .i64 0, .int .i64 0, .int .i64 0, .int .i64 0, .int .i64 0] 42 ?_; intro gb172 hg w40 hbox hb; have BK172 := Aside0.mk (hbox); have GW172 := (bs_ hg : Aside0 (w.heap.size ≤ _)); have GE172 := (bs_ hg : Aside0 (w.heap.size ≤ _)); replace HB := Aside0.mk (below_step bb_ hb); have NB166_172 := (nl_ hg BK166 : Aside0 (gb166 ≠ gb172)); have NB172_166 := (nr_ hg BK166 : Aside0 (gb172 ≠ gb166)); replace BK166 := Aside0.mk (blk_below (kb_ BK166) hb); clear hb hbox hg; have hnb41 := NB172_166.out; have hnc41 := NB166_172.out; obtain ⟨hcz42_0, hcz42_1, hcz42_2, hcz42_3, hcz42_4, hfz42_0, hfz42_1, hfz42_2, hfz42_3, hfz42_4⟩ := cf5_ BK172; obtain ⟨hcz43_0, hcz43_1, hcz43_2, hcz43_3, hcz43_4, hfz43_0, hfz43_1, hfz43_2, hfz43_3, hfz43_4⟩ := cf5_ BK166))
              go_ret
              exact ⟨er_, bb_⟩
          · rw [if_neg c29] at H
            have c29b0 : (a0_0 == 1) = false := beq_eq_false_iff_ne.mpr c29
            have c29b1 : (a0_0 != 1) = true := bne_iff_ne.mpr c29
            by_cases c44 : a0_1 = 0
            · rw [if_pos c44] at H
              have c44b0 : (a0_1 == 0) = true := beq_iff_eq.mpr c44
              have c44b1 : (a0_1 != 0) = false := bne_eq_false_iff_eq.mpr c44
              clear c44
              obtain rfl := Option.some.inj H
              go_wp2_with (first | ((with_reducible refine gate_dst (N := 3) rfl ?_); refine box_e_ 3 #[.int .i64 0, .int .i64 0, .int .i64 0, .int .i64 0, .int .i64 0] 42 ?_; intro gb172 hg w45 hbox hb; have BK172 := Aside0.mk (hbox); have GW172 := (bs_ hg : Aside0 (w.heap.size ≤ _)); have GE172 := (bs_ hg : Aside0 (w.heap.size ≤ _)); replace HB := Aside0.mk (below_step bb_ hb); have NB166_172 := (nl_ hg BK166 : Aside0 (gb166 ≠ gb172)); have NB172_166 := (nr_ hg BK166 : Aside0 (gb172 ≠ gb166)); replace BK166 := Aside0.mk (blk_below (kb_ BK166) hb); clear hb hbox hg; have hnb46 := NB172_166.out; have hnc46 := NB166_172.out; obtain ⟨hcz47_0, hcz47_1, hcz47_2, hcz47_3, hcz47_4, hfz47_0, hfz47_1, hfz47_2, hfz47_3, hfz47_4⟩ := cf5_ BK172; obtain ⟨hcz48_0, hcz48_1, hcz48_2, hcz48_3, hcz48_4, hfz48_0, hfz48_1, hfz48_2, hfz48_3, hfz48_4⟩ := cf5_ BK166))
              go_ret
              exact ⟨er_, bb_⟩
            · rw [if_neg c44] at H
              have c44b0 : (a0_1 == 0) = false := beq_eq_false_iff_ne.mpr c44
              have c44b1 : (a0_1 != 0) = true := bne_iff_ne.mpr c44
              obtain rfl := Option.some.inj H
              go_wp2_with (first | ((with_reducible refine gate_dst (N := 3) rfl ?_); refine box_e_ 3 #[.int .i64 0, .int .i64 0, .int .i64 0, .int .i64 0, .int .i64 0] 42 ?_; intro gb172 hg w49 hbox hb; have BK172 := Aside0.mk (hbox); have GW172 := (bs_ hg : Aside0 (w.heap.size ≤ _)); have GE172 := (bs_ hg : Aside0 (w.heap.size ≤ _)); replace HB := Aside0.mk (below_step bb_ hb); have NB166_172 := (nl_ hg BK166 : Aside0 (gb166 ≠ gb172)); have NB172_166 := (nr_ hg BK166 : Aside0 (gb172 ≠ gb166)); replace BK166 := Aside0.mk (blk_below (kb_ BK166) hb); clear hb hbox hg; have hnb50 := NB172_166.out; have hnc50 := NB166_172.out; obtain ⟨hcz51_0, hcz51_1, hcz51_2, hcz51_3, hcz51_4, hfz51_0, hfz51_1, hfz51_2, hfz51_3, hfz51_4⟩ := cf5_ BK172; obtain ⟨hcz52_0, hcz52_1, hcz52_2, hcz52_3, hcz52_4, hfz52_0, hfz52_1, hfz52_2, hfz52_3, hfz52_4⟩ := cf5_ BK166))
              go_ret
              exact ⟨er_, bb_⟩
end Go.Proofs.Ythmkjapmnlhflaa.PFnExactTickSession
