/- The functions that the law FnExactStartSession reaches: each as a plain Lean function, with the proof that the call does what it says. -/
import Derived.Test.YthmkjapmnlhflaaYFnExactStartSessionx0
import Derived.Test.YthmkjapmnlhflaaYFnExactStartSessionx10
namespace Go.Proofs.Ythmkjapmnlhflaa.PFnExactStartSession
open Go.RowKit Go.Proofs.YthmkjapmnlhflaaW.PrintWords Go.Proofs.YthmkjapmnlhflaaW.PrintLast Go.Proofs.YthmkjapmnlhflaaW.PrintMore
attribute [local go_sem] max2_int min2_int max_two min_two max_three min_three max_four min_four
set_option linter.unusedVariables false
set_option linter.unusedSimpArgs false
def laws_heldSessionResult.f (k : Nat) (a0_0 : Int) (a0_1 : Int) (a0_2 : Int) (a0_3 : Int) (a0_4 : Int) (a0_5 : Int) (l0_6 : List (S136)) (a0_7 : Bool) (a0_8 : Bool) (a0_9 : Bool) (a1 : Int) : Option (Int) := (laws_heldMessageS.f k l0_6 a1).bind fun t231 => (if t231 < 0 then (some (-1)) else (some t231))
theorem laws_heldSessionResult.mono : ∀ a0 a1 a2 a3 a4 a5 a6 a7 a8 a9 a10 k, LeO (laws_heldSessionResult.f k a0 a1 a2 a3 a4 a5 a6 a7 a8 a9 a10) (laws_heldSessionResult.f (k + 1) a0 a1 a2 a3 a4 a5 a6 a7 a8 a9 a10) := by
  intro a0 a1 a2 a3 a4 a5 a6 a7 a8 a9 a10 k
  unfold laws_heldSessionResult.f
  repeat' first
      | (with_reducible exact laws_heldMessageS.mono _ _ _)
      | (with_reducible exact LeO.refl _)
      | (with_reducible exact LeO.none _)
      | (with_reducible refine LeO.ite ?_ ?_)
      | (with_reducible refine LeO.bind ?_ (fun _ => ?_))
      | exact laws_heldMessageS.mono _ _ _
      | exact LeO.none _
      | refine LeO.ite ?_ ?_
      | refine LeO.bind ?_ (fun _ => ?_)
set_option maxHeartbeats 8000000 in
set_option maxRecDepth 100000 in
theorem laws_heldSessionResult.calls (k : Nat) (a0_0 : Int) (a0_1 : Int) (a0_2 : Int) (a0_3 : Int) (a0_4 : Int) (a0_5 : Int) (A0_6 : Option Addr) (c0_6 : Nat) (l0_6 : List (S136)) (a0_7 : Bool) (a0_8 : Bool) (a0_9 : Bool) (a1 : Int) (r : Int) (w : World) (hr0_6 : Kd.C k136 w A0_6 l0_6.length l0_6) (hc0_6 : l0_6.length ≤ c0_6) (h : laws_heldSessionResult.f k a0_0 a0_1 a0_2 a0_3 a0_4 a0_5 l0_6 a0_7 a0_8 a0_9 a1 = some r) :
    Calls Try.prog 34 #[.agg #[.int .i64 a0_0, .int .i64 a0_1, .int .i64 a0_2, .int .i64 a0_3, .int .i64 a0_4, .int .i64 a0_5, .slice A0_6 l0_6.length c0_6, .bool a0_7, .bool a0_8, .bool a0_9], .int .i64 a1] w fun e w' => e = .returned (.int .i64 r) ∧ Below w.heap.size w w' := by
  have hu45 := Try.underlying45
  have HR0_6 := Aside0.mk hr0_6
  have HC0_6 := Aside0.mk hc0_6
  clear hr0_6 hc0_6
  have HB := Aside0.mk (Below.refl w.heap.size w)
  have H : ((laws_heldMessageS.f k l0_6 a1).bind fun t231 => (if t231 < 0 then (some (-1)) else (some t231))) = some r := h
  clear h
  replace H := Option.bind_eq_some_iff.mp H
  obtain ⟨t231, A30, H⟩ := H
  replace H : (if t231 < 0 then (some (-1)) else (some t231)) = some r := H
  have A3 := Aside0.mk A30
  clear A30
  by_cases c4 : t231 < 0
  · rw [if_pos c4] at H
    have c4b0 : decide (t231 < 0) = true := decide_eq_true c4
    clear c4
    obtain rfl := Option.some.inj H
    go_enter Try.func34, Try.ntmps34
    go_wp2_with (first | ((with_reducible refine gate_dst (N := 2) rfl ?_); refine box_e_ 2 #[.int .i64 a0_0, .int .i64 a0_1, .int .i64 a0_2, .int .i64 a0_3, .int .i64 a0_4, .int .i64 a0_5, .slice A0_6 l0_6.length c0_6, .bool a0_7, .bool a0_8, .bool a0_9] 45 ?_; intro gb230 hg w5 hbox hb; have BK230 := Aside0.mk (hbox); have GW230 := (bs_ hg : Aside0 (w.heap.size ≤ _)); have GE230 := (bs_ hg : Aside0 (w.heap.size ≤ _)); replace HB := Aside0.mk (below_step bb_ hb); clear hb hbox hg; obtain ⟨hcz6_0, hcz6_1, hcz6_2, hcz6_3, hcz6_4, hcz6_5, hcz6_6, hcz6_7, hcz6_8, hcz6_9, hfz6_0, hfz6_1, hfz6_2, hfz6_3, hfz6_4, hfz6_5, hfz6_6, hfz6_7, hfz6_8, hfz6_9⟩ := cf10_ BK230) | ((with_reducible refine gate_callee (f := 93) rfl ?_); refine goe_ (some 8) Try.func93 #[.slice A0_6 l0_6.length c0_6, .int .i64 a1] ?_; (with_reducible refine (laws_heldMessageS.calls k _ _ l0_6 a1 t231 _ ?side1 ?side2 A3.out).mono ?_); (case side1 => exact kc_ (Kd.C_below HR0_6.out HB.out)); (case side2 => exact HC0_6.out); rintro e w' ⟨rfl, ⟨nd, rfl⟩⟩; refine ⟨_, rfl, ?_⟩))
    go_ret
    exact ⟨er_, bb_⟩
  · rw [if_neg c4] at H
    have c4b0 : decide (t231 < 0) = false := decide_eq_false c4
    clear c4
    obtain rfl := Option.some.inj H
    go_enter Try.func34, Try.ntmps34
    go_wp2_with (first | ((with_reducible refine gate_dst (N := 2) rfl ?_); refine box_e_ 2 #[.int .i64 a0_0, .int .i64 a0_1, .int .i64 a0_2, .int .i64 a0_3, .int .i64 a0_4, .int .i64 a0_5, .slice A0_6 l0_6.length c0_6, .bool a0_7, .bool a0_8, .bool a0_9] 45 ?_; intro gb230 hg w7 hbox hb; have BK230 := Aside0.mk (hbox); have GW230 := (bs_ hg : Aside0 (w.heap.size ≤ _)); have GE230 := (bs_ hg : Aside0 (w.heap.size ≤ _)); replace HB := Aside0.mk (below_step bb_ hb); clear hb hbox hg; obtain ⟨hcz8_0, hcz8_1, hcz8_2, hcz8_3, hcz8_4, hcz8_5, hcz8_6, hcz8_7, hcz8_8, hcz8_9, hfz8_0, hfz8_1, hfz8_2, hfz8_3, hfz8_4, hfz8_5, hfz8_6, hfz8_7, hfz8_8, hfz8_9⟩ := cf10_ BK230) | ((with_reducible refine gate_callee (f := 93) rfl ?_); refine goe_ (some 8) Try.func93 #[.slice A0_6 l0_6.length c0_6, .int .i64 a1] ?_; (with_reducible refine (laws_heldMessageS.calls k _ _ l0_6 a1 t231 _ ?side1 ?side2 A3.out).mono ?_); (case side1 => exact kc_ (Kd.C_below HR0_6.out HB.out)); (case side2 => exact HC0_6.out); rintro e w' ⟨rfl, ⟨nd, rfl⟩⟩; refine ⟨_, rfl, ?_⟩))
    go_ret
    exact ⟨er_, bb_⟩
end Go.Proofs.Ythmkjapmnlhflaa.PFnExactStartSession
