/- The functions that the law FnExactStartSession reaches: each as a plain Lean function, with the proof that the call does what it says. -/
import Derived.Test.YthmkjapmnlhflaaYFnExactStartSessionx0
import Derived.Test.YthmkjapmnlhflaaYFnExactStartSessionx8
import Derived.Test.YthmkjapmnlhflaaYFnExactStartSessionx9
namespace Go.Proofs.Ythmkjapmnlhflaa.PFnExactStartSession
open Go.RowKit Go.Proofs.YthmkjapmnlhflaaW.PrintWords Go.Proofs.YthmkjapmnlhflaaW.PrintLast Go.Proofs.YthmkjapmnlhflaaW.PrintMore
attribute [local go_sem] max2_int min2_int max_two min_two max_three min_three max_four min_four
set_option linter.unusedVariables false
set_option linter.unusedSimpArgs false
def laws_heldMessageS.l0 : Nat → List (S136) → Int → Int → Option (Int)
  | 0, _, _, _ => none
  | k + 1, x0, x1, x5 => if x5 < (x0.length : Int) then (if 0 ≤ x5 then (if ((rd_T136 x0 x5).f0) = x1 then (if ((rd_T136 x0 x5).f1) = (wrap64 (x1 + 1)) then (if ((rd_T136 x0 x5).f2) = (wrap64 ((wrap64 (x1 + 1)) + 1)) then (if ((rd_T136 x0 x5).f3) = (wrap64 ((wrap64 ((wrap64 (x1 + 1)) + 1)) + 1)) then (if ((rd_T136 x0 x5).f4) = (wrap64 ((wrap64 ((wrap64 ((wrap64 (x1 + 1)) + 1)) + 1)) + 1)) then (if ((rd_T136 x0 x5).f5) = (wrap64 ((wrap64 ((wrap64 ((wrap64 ((wrap64 (x1 + 1)) + 1)) + 1)) + 1)) + 1)) then ((laws_heldPrefixS.f k ((rd_T136 x0 x5).f6.f0) (wrap64 ((wrap64 ((wrap64 ((wrap64 ((wrap64 ((wrap64 (x1 + 1)) + 1)) + 1)) + 1)) + 1)) + 1))).bind fun t220 => (if t220 < 0 then (some (-1)) else (if (((rd_T136 x0 x5).f6.f1) != ((Int.tmod t220 3) == 0)) = true then (some (-1)) else (if ((rd_T136 x0 x5).f6.f2.f0) = (wrap64 (t220 + 1)) then ((laws_heldInt64S.f k ((rd_T136 x0 x5).f6.f2.f1) (wrap64 ((wrap64 (t220 + 1)) + 1))).bind fun t224 => (if t224 < 0 then (some (-1)) else (if ((rd_T136 x0 x5).f6.f2.f2) = t224 then (if ((rd_T136 x0 x5).f6.f2.f3) = (wrap64 (t224 + 1)) then (if ((rd_T136 x0 x5).f6.f2.f4) = (wrap64 ((wrap64 (t224 + 1)) + 1)) then ((laws_heldPrefixS.f k ((rd_T136 x0 x5).f6.f3) (wrap64 ((wrap64 ((wrap64 (t224 + 1)) + 1)) + 1))).bind fun t229 => (if t229 < 0 then (some (-1)) else (laws_heldMessageS.l0 k x0 t229 (wrap64 (x5 + 1))))) else (some (-1))) else (some (-1))) else (some (-1))))) else (some (-1)))))) else (some (-1))) else (some (-1))) else (some (-1))) else (some (-1))) else (some (-1))) else (some (-1))) else (none)) else (some x1)
def laws_heldMessageS.f (k : Nat) (l0 : List (S136)) (a1 : Int) : Option (Int) := laws_heldMessageS.l0 k l0 a1 0
theorem laws_heldMessageS.mono_l : ∀ k, (∀ y0 y1 y2, LeO (laws_heldMessageS.l0 k y0 y1 y2) (laws_heldMessageS.l0 (k + 1) y0 y1 y2))
  | 0 => fun _ _ _ r h => by simp [laws_heldMessageS.l0] at h
  | k + 1 => by
    have ih0 := laws_heldMessageS.mono_l k
    · intro y0 y1 y2
      unfold laws_heldMessageS.l0
      repeat' first
      | (with_reducible exact ih0 _ _ _)
      | (with_reducible exact laws_heldInt64S.mono _ _ _)
      | (with_reducible exact laws_heldPrefixS.mono _ _ _)
      | (with_reducible exact LeO.refl _)
      | (with_reducible exact LeO.none _)
      | (with_reducible refine LeO.ite ?_ ?_)
      | (with_reducible refine LeO.bind ?_ (fun _ => ?_))
      | exact ih0 _ _ _
      | exact laws_heldInt64S.mono _ _ _
      | exact laws_heldPrefixS.mono _ _ _
      | exact LeO.none _
      | refine LeO.ite ?_ ?_
      | refine LeO.bind ?_ (fun _ => ?_)
theorem laws_heldMessageS.mono : ∀ a0 a1 k, LeO (laws_heldMessageS.f k a0 a1) (laws_heldMessageS.f (k + 1) a0 a1) := by
  intro a0 a1 k
  have ih0 := laws_heldMessageS.mono_l k
  unfold laws_heldMessageS.f
  repeat' first
      | (with_reducible exact ih0 _ _ _)
      | (with_reducible exact laws_heldInt64S.mono _ _ _)
      | (with_reducible exact laws_heldPrefixS.mono _ _ _)
      | (with_reducible exact LeO.refl _)
      | (with_reducible exact LeO.none _)
      | (with_reducible refine LeO.ite ?_ ?_)
      | (with_reducible refine LeO.bind ?_ (fun _ => ?_))
      | exact ih0 _ _ _
      | exact laws_heldInt64S.mono _ _ _
      | exact laws_heldPrefixS.mono _ _ _
      | exact LeO.none _
      | refine LeO.ite ?_ ?_
      | refine LeO.bind ?_ (fun _ => ?_)
set_option maxHeartbeats 8000000 in
set_option maxRecDepth 100000 in
theorem laws_heldMessageS.calls (k : Nat) (A0 : Option Addr) (c0 : Nat) (l0 : List (S136)) (a1 : Int) (r : Int) (w : World) (hr0 : Kd.C k136 w A0 l0.length l0) (hc0 : l0.length ≤ c0) (h : laws_heldMessageS.f k l0 a1 = some r) :
    Calls Try.prog 93 #[.slice A0 l0.length c0, .int .i64 a1] w fun e w' => e = .returned (.int .i64 r) ∧ Drawn0 w w' := by
  have HR0 := Aside0.mk hr0
  have HC0 := Aside0.mk hc0
  clear hr0 hc0
  have H : (laws_heldMessageS.l0 k l0 a1 0) = some r := h
  clear h
  have H' := Aside0.mk H
  clear H
  go_enter Try.func93, Try.ntmps93
  go_wp2
  go_loopg [1, 5] k (fun kq v1 v5 w' => ∃ (x1_1 : Int) (x5_1 : Int), v1 = .int .i64 x1_1 ∧ v5 = .int .i64 x5_1 ∧ Aside0 (laws_heldMessageS.l0 kq l0 x1_1 x5_1 = some r) ∧ Aside0 (kq ≤ k) ∧ Drawn0 w w')
  case atStart => exact ⟨(a1), (0), sd_, sd_, H', ⟨Nat.le_refl _⟩, by repeat (first | exact Drawn0.refl _ | apply Drawn0.step)⟩
  case round =>
    clear H'
    try clear p2
    obtain ⟨x1_1, x5_1, rfl, rfl, HA, HK1, ⟨m1, rfl⟩⟩ := hrel
    cases gk with
    | zero => exact absurd HA.out (by simp [laws_heldMessageS.l0])
    | succ k1 =>
      have H := HA.out
      clear HA
      simp only [laws_heldMessageS.l0] at H
      by_cases c3 : x5_1 < (l0.length : Int)
      · rw [if_pos c3] at H
        have c3b0 : decide (x5_1 < (l0.length : Int)) = true := decide_eq_true c3
        clear c3
        by_cases c4 : 0 ≤ x5_1
        · rw [if_pos c4] at H
          have c4b0 : decide (0 ≤ x5_1) = true := decide_eq_true c4
          clear c4
          by_cases c5 : ((rd_T136 l0 x5_1).f0) = x1_1
          · rw [if_pos c5] at H
            have c5b0 : (((rd_T136 l0 x5_1).f0) == x1_1) = true := beq_iff_eq.mpr c5
            have c5b1 : (((rd_T136 l0 x5_1).f0) != x1_1) = false := bne_eq_false_iff_eq.mpr c5
            clear c5
            by_cases c6 : ((rd_T136 l0 x5_1).f1) = (wrap64 (x1_1 + 1))
            · rw [if_pos c6] at H
              have c6b0 : (((rd_T136 l0 x5_1).f1) == (wrap64 (x1_1 + 1))) = true := beq_iff_eq.mpr c6
              have c6b1 : (((rd_T136 l0 x5_1).f1) != (wrap64 (x1_1 + 1))) = false := bne_eq_false_iff_eq.mpr c6
              clear c6
              by_cases c7 : ((rd_T136 l0 x5_1).f2) = (wrap64 ((wrap64 (x1_1 + 1)) + 1))
              · rw [if_pos c7] at H
                have c7b0 : (((rd_T136 l0 x5_1).f2) == (wrap64 ((wrap64 (x1_1 + 1)) + 1))) = true := beq_iff_eq.mpr c7
                have c7b1 : (((rd_T136 l0 x5_1).f2) != (wrap64 ((wrap64 (x1_1 + 1)) + 1))) = false := bne_eq_false_iff_eq.mpr c7
                clear c7
                by_cases c8 : ((rd_T136 l0 x5_1).f3) = (wrap64 ((wrap64 ((wrap64 (x1_1 + 1)) + 1)) + 1))
                · rw [if_pos c8] at H
                  have c8b0 : (((rd_T136 l0 x5_1).f3) == (wrap64 ((wrap64 ((wrap64 (x1_1 + 1)) + 1)) + 1))) = true := beq_iff_eq.mpr c8
                  have c8b1 : (((rd_T136 l0 x5_1).f3) != (wrap64 ((wrap64 ((wrap64 (x1_1 + 1)) + 1)) + 1))) = false := bne_eq_false_iff_eq.mpr c8
                  clear c8
                  by_cases c9 : ((rd_T136 l0 x5_1).f4) = (wrap64 ((wrap64 ((wrap64 ((wrap64 (x1_1 + 1)) + 1)) + 1)) + 1))
                  · rw [if_pos c9] at H
                    have c9b0 : (((rd_T136 l0 x5_1).f4) == (wrap64 ((wrap64 ((wrap64 ((wrap64 (x1_1 + 1)) + 1)) + 1)) + 1))) = true := beq_iff_eq.mpr c9
                    have c9b1 : (((rd_T136 l0 x5_1).f4) != (wrap64 ((wrap64 ((wrap64 ((wrap64 (x1_1 + 1)) + 1)) + 1)) + 1))) = false := bne_eq_false_iff_eq.mpr c9
                    clear c9
                    by_cases c10 : ((rd_T136 l0 x5_1).f5) = (wrap64 ((wrap64 ((wrap64 ((wrap64 ((wrap64 (x1_1 + 1)) + 1)) + 1)) + 1)) + 1))
                    · rw [if_pos c10] at H
                      have c10b0 : (((rd_T136 l0 x5_1).f5) == (wrap64 ((wrap64 ((wrap64 ((wrap64 ((wrap64 (x1_1 + 1)) + 1)) + 1)) + 1)) + 1))) = true := beq_iff_eq.mpr c10
                      have c10b1 : (((rd_T136 l0 x5_1).f5) != (wrap64 ((wrap64 ((wrap64 ((wrap64 ((wrap64 (x1_1 + 1)) + 1)) + 1)) + 1)) + 1))) = false := bne_eq_false_iff_eq.mpr c10
                      clear c10
                      replace H := Option.bind_eq_some_iff.mp H
                      obtain ⟨t220, A110, H⟩ := H
                      replace H : (if t220 < 0 then (some (-1)) else (if (((rd_T136 l0 x5_1).f6.f1) != ((Int.tmod t220 3) == 0)) = true then (some (-1)) else (if ((rd_T136 l0 x5_1).f6.f2.f0) = (wrap64 (t220 + 1)) then ((laws_heldInt64S.f k1 ((rd_T136 l0 x5_1).f6.f2.f1) (wrap64 ((wrap64 (t220 + 1)) + 1))).bind fun t224 => (if t224 < 0 then (some (-1)) else (if ((rd_T136 l0 x5_1).f6.f2.f2) = t224 then (if ((rd_T136 l0 x5_1).f6.f2.f3) = (wrap64 (t224 + 1)) then (if ((rd_T136 l0 x5_1).f6.f2.f4) = (wrap64 ((wrap64 (t224 + 1)) + 1)) then ((laws_heldPrefixS.f k1 ((rd_T136 l0 x5_1).f6.f3) (wrap64 ((wrap64 ((wrap64 (t224 + 1)) + 1)) + 1))).bind fun t229 => (if t229 < 0 then (some (-1)) else (laws_heldMessageS.l0 k1 l0 t229 (wrap64 (x5_1 + 1))))) else (some (-1))) else (some (-1))) else (some (-1))))) else (some (-1))))) = some r := H
                      have A11 := Aside0.mk A110
                      clear A110
                      by_cases c12 : t220 < 0
                      · rw [if_pos c12] at H
                        have c12b0 : decide (t220 < 0) = true := decide_eq_true c12
                        clear c12
                        obtain rfl := Option.some.inj H
                        have p213 : 0 ≤ (x5_1 : Int) := of_decide_eq_true as_
                        have q213 : x5_1 < (l0.length : Int) := of_decide_eq_true as_
                        obtain ⟨ad213, A213_6, c213_6, A213_9, c213_9, A213_13, c213_13, e213, hx213_0, hx213_1, hx213_2, hx213_3, hx213_4, hx213_5, hx213_6, hx213_7, hx213_8, hx213_9, hx213_10, hx213_11, hx213_12, hx213_13, hl213_6, hi213_6, hl213_9, hi213_9, hl213_13, hi213_13⟩ := at_T136 HR0.out x5_1 p213 q213
                        cases e213
                        have HR213_6 := Aside0.mk hi213_6
                        have HC213_6 := Aside0.mk hl213_6
                        clear hi213_6 hl213_6
                        have HR213_9 := Aside0.mk hi213_9
                        have HC213_9 := Aside0.mk hl213_9
                        clear hi213_9 hl213_9
                        have HR213_13 := Aside0.mk hi213_13
                        have HC213_13 := Aside0.mk hl213_13
                        clear hi213_13 hl213_13
                        replace p213 := eq_true p213
                        replace q213 := eq_true q213
                        have p214 : 0 ≤ (x5_1 : Int) := of_decide_eq_true as_
                        have q214 : x5_1 < (l0.length : Int) := of_decide_eq_true as_
                        obtain ⟨ad214, A214_6, c214_6, A214_9, c214_9, A214_13, c214_13, e214, hx214_0, hx214_1, hx214_2, hx214_3, hx214_4, hx214_5, hx214_6, hx214_7, hx214_8, hx214_9, hx214_10, hx214_11, hx214_12, hx214_13, hl214_6, hi214_6, hl214_9, hi214_9, hl214_13, hi214_13⟩ := at_T136 HR0.out x5_1 p214 q214
                        obtain rfl : ad213 = ad214 := (by injection e214)
                        have HR214_6 := Aside0.mk hi214_6
                        have HC214_6 := Aside0.mk hl214_6
                        clear hi214_6 hl214_6
                        have HR214_9 := Aside0.mk hi214_9
                        have HC214_9 := Aside0.mk hl214_9
                        clear hi214_9 hl214_9
                        have HR214_13 := Aside0.mk hi214_13
                        have HC214_13 := Aside0.mk hl214_13
                        clear hi214_13 hl214_13
                        replace p214 := eq_true p214
                        replace q214 := eq_true q214
                        have ea_ := Option.some.inj (hx213_6.symm.trans hx214_6)
                        injection ea_ with ea_ en_ ec_
                        subst ea_
                        subst ec_
                        clear en_
                        have ea_ := Option.some.inj (hx213_9.symm.trans hx214_9)
                        injection ea_ with ea_ en_ ec_
                        subst ea_
                        subst ec_
                        clear en_
                        have ea_ := Option.some.inj (hx213_13.symm.trans hx214_13)
                        injection ea_ with ea_ en_ ec_
                        subst ea_
                        subst ec_
                        clear en_
                        have p215 : 0 ≤ (x5_1 : Int) := of_decide_eq_true as_
                        have q215 : x5_1 < (l0.length : Int) := of_decide_eq_true as_
                        obtain ⟨ad215, A215_6, c215_6, A215_9, c215_9, A215_13, c215_13, e215, hx215_0, hx215_1, hx215_2, hx215_3, hx215_4, hx215_5, hx215_6, hx215_7, hx215_8, hx215_9, hx215_10, hx215_11, hx215_12, hx215_13, hl215_6, hi215_6, hl215_9, hi215_9, hl215_13, hi215_13⟩ := at_T136 HR0.out x5_1 p215 q215
                        obtain rfl : ad213 = ad215 := (by injection e215)
                        have HR215_6 := Aside0.mk hi215_6
                        have HC215_6 := Aside0.mk hl215_6
                        clear hi215_6 hl215_6
                        have HR215_9 := Aside0.mk hi215_9
                        have HC215_9 := Aside0.mk hl215_9
                        clear hi215_9 hl215_9
                        have HR215_13 := Aside0.mk hi215_13
                        have HC215_13 := Aside0.mk hl215_13
                        clear hi215_13 hl215_13
                        replace p215 := eq_true p215
                        replace q215 := eq_true q215
                        have ea_ := Option.some.inj (hx213_6.symm.trans hx215_6)
                        injection ea_ with ea_ en_ ec_
                        subst ea_
                        subst ec_
                        clear en_
                        have ea_ := Option.some.inj (hx213_9.symm.trans hx215_9)
                        injection ea_ with ea_ en_ ec_
                        subst ea_
                        subst ec_
                        clear en_
                        have ea_ := Option.some.inj (hx213_13.symm.trans hx215_13)
                        injection ea_ with ea_ en_ ec_
                        subst ea_
                        subst ec_
                        clear en_
                        have p216 : 0 ≤ (x5_1 : Int) := of_decide_eq_true as_
                        have q216 : x5_1 < (l0.length : Int) := of_decide_eq_true as_
                        obtain ⟨ad216, A216_6, c216_6, A216_9, c216_9, A216_13, c216_13, e216, hx216_0, hx216_1, hx216_2, hx216_3, hx216_4, hx216_5, hx216_6, hx216_7, hx216_8, hx216_9, hx216_10, hx216_11, hx216_12, hx216_13, hl216_6, hi216_6, hl216_9, hi216_9, hl216_13, hi216_13⟩ := at_T136 HR0.out x5_1 p216 q216
                        obtain rfl : ad213 = ad216 := (by injection e216)
                        have HR216_6 := Aside0.mk hi216_6
                        have HC216_6 := Aside0.mk hl216_6
                        clear hi216_6 hl216_6
                        have HR216_9 := Aside0.mk hi216_9
                        have HC216_9 := Aside0.mk hl216_9
                        clear hi216_9 hl216_9
                        have HR216_13 := Aside0.mk hi216_13
                        have HC216_13 := Aside0.mk hl216_13
                        clear hi216_13 hl216_13
                        replace p216 := eq_true p216
                        replace q216 := eq_true q216
                        have ea_ := Option.some.inj (hx213_6.symm.trans hx216_6)
                        injection ea_ with ea_ en_ ec_
                        subst ea_
                        subst ec_
                        clear en_
                        have ea_ := Option.some.inj (hx213_9.symm.trans hx216_9)
                        injection ea_ with ea_ en_ ec_
                        subst ea_
                        subst ec_
                        clear en_
                        have ea_ := Option.some.inj (hx213_13.symm.trans hx216_13)
                        injection ea_ with ea_ en_ ec_
                        subst ea_
                        subst ec_
                        clear en_
                        have p217 : 0 ≤ (x5_1 : Int) := of_decide_eq_true as_
                        have q217 : x5_1 < (l0.length : Int) := of_decide_eq_true as_
                        obtain ⟨ad217, A217_6, c217_6, A217_9, c217_9, A217_13, c217_13, e217, hx217_0, hx217_1, hx217_2, hx217_3, hx217_4, hx217_5, hx217_6, hx217_7, hx217_8, hx217_9, hx217_10, hx217_11, hx217_12, hx217_13, hl217_6, hi217_6, hl217_9, hi217_9, hl217_13, hi217_13⟩ := at_T136 HR0.out x5_1 p217 q217
                        obtain rfl : ad213 = ad217 := (by injection e217)
                        have HR217_6 := Aside0.mk hi217_6
                        have HC217_6 := Aside0.mk hl217_6
                        clear hi217_6 hl217_6
                        have HR217_9 := Aside0.mk hi217_9
                        have HC217_9 := Aside0.mk hl217_9
                        clear hi217_9 hl217_9
                        have HR217_13 := Aside0.mk hi217_13
                        have HC217_13 := Aside0.mk hl217_13
                        clear hi217_13 hl217_13
                        replace p217 := eq_true p217
                        replace q217 := eq_true q217
                        have ea_ := Option.some.inj (hx213_6.symm.trans hx217_6)
                        injection ea_ with ea_ en_ ec_
                        subst ea_
                        subst ec_
                        clear en_
                        have ea_ := Option.some.inj (hx213_9.symm.trans hx217_9)
                        injection ea_ with ea_ en_ ec_
                        subst ea_
                        subst ec_
                        clear en_
                        have ea_ := Option.some.inj (hx213_13.symm.trans hx217_13)
                        injection ea_ with ea_ en_ ec_
                        subst ea_
                        subst ec_
                        clear en_
                        have p218 : 0 ≤ (x5_1 : Int) := of_decide_eq_true as_
                        have q218 : x5_1 < (l0.length : Int) := of_decide_eq_true as_
                        obtain ⟨ad218, A218_6, c218_6, A218_9, c218_9, A218_13, c218_13, e218, hx218_0, hx218_1, hx218_2, hx218_3, hx218_4, hx218_5, hx218_6, hx218_7, hx218_8, hx218_9, hx218_10, hx218_11, hx218_12, hx218_13, hl218_6, hi218_6, hl218_9, hi218_9, hl218_13, hi218_13⟩ := at_T136 HR0.out x5_1 p218 q218
                        obtain rfl : ad213 = ad218 := (by injection e218)
                        have HR218_6 := Aside0.mk hi218_6
                        have HC218_6 := Aside0.mk hl218_6
                        clear hi218_6 hl218_6
                        have HR218_9 := Aside0.mk hi218_9
                        have HC218_9 := Aside0.mk hl218_9
                        clear hi218_9 hl218_9
                        have HR218_13 := Aside0.mk hi218_13
                        have HC218_13 := Aside0.mk hl218_13
                        clear hi218_13 hl218_13
                        replace p218 := eq_true p218
                        replace q218 := eq_true q218
                        have ea_ := Option.some.inj (hx213_6.symm.trans hx218_6)
                        injection ea_ with ea_ en_ ec_
                        subst ea_
                        subst ec_
                        clear en_
                        have ea_ := Option.some.inj (hx213_9.symm.trans hx218_9)
                        injection ea_ with ea_ en_ ec_
                        subst ea_
                        subst ec_
                        clear en_
                        have ea_ := Option.some.inj (hx213_13.symm.trans hx218_13)
                        injection ea_ with ea_ en_ ec_
                        subst ea_
                        subst ec_
                        clear en_
                        have p219 : 0 ≤ (x5_1 : Int) := of_decide_eq_true as_
                        have q219 : x5_1 < (l0.length : Int) := of_decide_eq_true as_
                        obtain ⟨ad219, A219_6, c219_6, A219_9, c219_9, A219_13, c219_13, e219, hx219_0, hx219_1, hx219_2, hx219_3, hx219_4, hx219_5, hx219_6, hx219_7, hx219_8, hx219_9, hx219_10, hx219_11, hx219_12, hx219_13, hl219_6, hi219_6, hl219_9, hi219_9, hl219_13, hi219_13⟩ := at_T136 HR0.out x5_1 p219 q219
                        obtain rfl : ad213 = ad219 := (by injection e219)
                        have HR219_6 := Aside0.mk hi219_6
                        have HC219_6 := Aside0.mk hl219_6
                        clear hi219_6 hl219_6
                        have HR219_9 := Aside0.mk hi219_9
                        have HC219_9 := Aside0.mk hl219_9
                        clear hi219_9 hl219_9
                        have HR219_13 := Aside0.mk hi219_13
                        have HC219_13 := Aside0.mk hl219_13
                        clear hi219_13 hl219_13
                        replace p219 := eq_true p219
                        replace q219 := eq_true q219
                        have ea_ := Option.some.inj (hx213_6.symm.trans hx219_6)
                        injection ea_ with ea_ en_ ec_
                        subst ea_
                        subst ec_
                        clear en_
                        have ea_ := Option.some.inj (hx213_9.symm.trans hx219_9)
                        injection ea_ with ea_ en_ ec_
                        subst ea_
                        subst ec_
                        clear en_
                        have ea_ := Option.some.inj (hx213_13.symm.trans hx219_13)
                        injection ea_ with ea_ en_ ec_
                        subst ea_
                        subst ec_
                        clear en_
                        go_wp2_with (first | ((with_reducible refine gate_callee (f := 130) rfl ?_); refine goe_ (some 73) Try.func130 #[.slice A213_6 ((rd_T136 l0 x5_1).f6.f0).length c213_6, .int .i64 (wrap64 ((wrap64 ((wrap64 ((wrap64 ((wrap64 ((wrap64 (x1_1 + 1)) + 1)) + 1)) + 1)) + 1)) + 1))] ?_; (with_reducible refine (laws_heldPrefixS.calls k1 _ _ ((rd_T136 l0 x5_1).f6.f0) (wrap64 ((wrap64 ((wrap64 ((wrap64 ((wrap64 ((wrap64 (x1_1 + 1)) + 1)) + 1)) + 1)) + 1)) + 1)) t220 _ ?side1 ?side2 A11.out).mono ?_); (case side1 => exact kc_ HR219_6.out); (case side2 => exact HC219_6.out); rintro e w' ⟨rfl, ⟨nd, rfl⟩⟩; refine ⟨_, rfl, ?_⟩))
                        go_ret
                        exact ⟨sd_, by repeat (first | exact Drawn0.refl _ | apply Drawn0.step)⟩
                      · rw [if_neg c12] at H
                        have c12b0 : decide (t220 < 0) = false := decide_eq_false c12
                        clear c12
                        by_cases c13 : (((rd_T136 l0 x5_1).f6.f1) != ((Int.tmod t220 3) == 0)) = true
                        · rw [if_pos c13] at H
                          have c13b0 : (((rd_T136 l0 x5_1).f6.f1) != ((Int.tmod t220 3) == 0)) = true := c13
                          (try (have c13b1 : decide (((rd_T136 l0 x5_1).f6.f1) = ((Int.tmod t220 3) == 0)) = false := by simpa using c13))
                          (try (have c13b2 : (((rd_T136 l0 x5_1).f6.f1) == ((Int.tmod t220 3) == 0)) = false := by simpa using c13))
                          (try (have c13b3 : ¬ (((rd_T136 l0 x5_1).f6.f1) = ((Int.tmod t220 3) == 0)) := by simpa using c13))
                          clear c13
                          obtain rfl := Option.some.inj H
                          have p213 : 0 ≤ (x5_1 : Int) := of_decide_eq_true as_
                          have q213 : x5_1 < (l0.length : Int) := of_decide_eq_true as_
                          obtain ⟨ad213, A213_6, c213_6, A213_9, c213_9, A213_13, c213_13, e213, hx213_0, hx213_1, hx213_2, hx213_3, hx213_4, hx213_5, hx213_6, hx213_7, hx213_8, hx213_9, hx213_10, hx213_11, hx213_12, hx213_13, hl213_6, hi213_6, hl213_9, hi213_9, hl213_13, hi213_13⟩ := at_T136 HR0.out x5_1 p213 q213
                          cases e213
                          have HR213_6 := Aside0.mk hi213_6
                          have HC213_6 := Aside0.mk hl213_6
                          clear hi213_6 hl213_6
                          have HR213_9 := Aside0.mk hi213_9
                          have HC213_9 := Aside0.mk hl213_9
                          clear hi213_9 hl213_9
                          have HR213_13 := Aside0.mk hi213_13
                          have HC213_13 := Aside0.mk hl213_13
                          clear hi213_13 hl213_13
                          replace p213 := eq_true p213
                          replace q213 := eq_true q213
                          have p214 : 0 ≤ (x5_1 : Int) := of_decide_eq_true as_
                          have q214 : x5_1 < (l0.length : Int) := of_decide_eq_true as_
                          obtain ⟨ad214, A214_6, c214_6, A214_9, c214_9, A214_13, c214_13, e214, hx214_0, hx214_1, hx214_2, hx214_3, hx214_4, hx214_5, hx214_6, hx214_7, hx214_8, hx214_9, hx214_10, hx214_11, hx214_12, hx214_13, hl214_6, hi214_6, hl214_9, hi214_9, hl214_13, hi214_13⟩ := at_T136 HR0.out x5_1 p214 q214
                          obtain rfl : ad213 = ad214 := (by injection e214)
                          have HR214_6 := Aside0.mk hi214_6
                          have HC214_6 := Aside0.mk hl214_6
                          clear hi214_6 hl214_6
                          have HR214_9 := Aside0.mk hi214_9
                          have HC214_9 := Aside0.mk hl214_9
                          clear hi214_9 hl214_9
                          have HR214_13 := Aside0.mk hi214_13
                          have HC214_13 := Aside0.mk hl214_13
                          clear hi214_13 hl214_13
                          replace p214 := eq_true p214
                          replace q214 := eq_true q214
                          have ea_ := Option.some.inj (hx213_6.symm.trans hx214_6)
                          injection ea_ with ea_ en_ ec_
                          subst ea_
                          subst ec_
                          clear en_
                          have ea_ := Option.some.inj (hx213_9.symm.trans hx214_9)
                          injection ea_ with ea_ en_ ec_
                          subst ea_
                          subst ec_
                          clear en_
                          have ea_ := Option.some.inj (hx213_13.symm.trans hx214_13)
                          injection ea_ with ea_ en_ ec_
                          subst ea_
                          subst ec_
                          clear en_
                          have p215 : 0 ≤ (x5_1 : Int) := of_decide_eq_true as_
                          have q215 : x5_1 < (l0.length : Int) := of_decide_eq_true as_
                          obtain ⟨ad215, A215_6, c215_6, A215_9, c215_9, A215_13, c215_13, e215, hx215_0, hx215_1, hx215_2, hx215_3, hx215_4, hx215_5, hx215_6, hx215_7, hx215_8, hx215_9, hx215_10, hx215_11, hx215_12, hx215_13, hl215_6, hi215_6, hl215_9, hi215_9, hl215_13, hi215_13⟩ := at_T136 HR0.out x5_1 p215 q215
                          obtain rfl : ad213 = ad215 := (by injection e215)
                          have HR215_6 := Aside0.mk hi215_6
                          have HC215_6 := Aside0.mk hl215_6
                          clear hi215_6 hl215_6
                          have HR215_9 := Aside0.mk hi215_9
                          have HC215_9 := Aside0.mk hl215_9
                          clear hi215_9 hl215_9
                          have HR215_13 := Aside0.mk hi215_13
                          have HC215_13 := Aside0.mk hl215_13
                          clear hi215_13 hl215_13
                          replace p215 := eq_true p215
                          replace q215 := eq_true q215
                          have ea_ := Option.some.inj (hx213_6.symm.trans hx215_6)
                          injection ea_ with ea_ en_ ec_
                          subst ea_
                          subst ec_
                          clear en_
                          have ea_ := Option.some.inj (hx213_9.symm.trans hx215_9)
                          injection ea_ with ea_ en_ ec_
                          subst ea_
                          subst ec_
                          clear en_
                          have ea_ := Option.some.inj (hx213_13.symm.trans hx215_13)
                          injection ea_ with ea_ en_ ec_
                          subst ea_
                          subst ec_
                          clear en_
                          have p216 : 0 ≤ (x5_1 : Int) := of_decide_eq_true as_
                          have q216 : x5_1 < (l0.length : Int) := of_decide_eq_true as_
                          obtain ⟨ad216, A216_6, c216_6, A216_9, c216_9, A216_13, c216_13, e216, hx216_0, hx216_1, hx216_2, hx216_3, hx216_4, hx216_5, hx216_6, hx216_7, hx216_8, hx216_9, hx216_10, hx216_11, hx216_12, hx216_13, hl216_6, hi216_6, hl216_9, hi216_9, hl216_13, hi216_13⟩ := at_T136 HR0.out x5_1 p216 q216
                          obtain rfl : ad213 = ad216 := (by injection e216)
                          have HR216_6 := Aside0.mk hi216_6
                          have HC216_6 := Aside0.mk hl216_6
                          clear hi216_6 hl216_6
                          have HR216_9 := Aside0.mk hi216_9
                          have HC216_9 := Aside0.mk hl216_9
                          clear hi216_9 hl216_9
                          have HR216_13 := Aside0.mk hi216_13
                          have HC216_13 := Aside0.mk hl216_13
                          clear hi216_13 hl216_13
                          replace p216 := eq_true p216
                          replace q216 := eq_true q216
                          have ea_ := Option.some.inj (hx213_6.symm.trans hx216_6)
                          injection ea_ with ea_ en_ ec_
                          subst ea_
                          subst ec_
                          clear en_
                          have ea_ := Option.some.inj (hx213_9.symm.trans hx216_9)
                          injection ea_ with ea_ en_ ec_
                          subst ea_
                          subst ec_
                          clear en_
                          have ea_ := Option.some.inj (hx213_13.symm.trans hx216_13)
                          injection ea_ with ea_ en_ ec_
                          subst ea_
                          subst ec_
                          clear en_
                          have p217 : 0 ≤ (x5_1 : Int) := of_decide_eq_true as_
                          have q217 : x5_1 < (l0.length : Int) := of_decide_eq_true as_
                          obtain ⟨ad217, A217_6, c217_6, A217_9, c217_9, A217_13, c217_13, e217, hx217_0, hx217_1, hx217_2, hx217_3, hx217_4, hx217_5, hx217_6, hx217_7, hx217_8, hx217_9, hx217_10, hx217_11, hx217_12, hx217_13, hl217_6, hi217_6, hl217_9, hi217_9, hl217_13, hi217_13⟩ := at_T136 HR0.out x5_1 p217 q217
                          obtain rfl : ad213 = ad217 := (by injection e217)
                          have HR217_6 := Aside0.mk hi217_6
                          have HC217_6 := Aside0.mk hl217_6
                          clear hi217_6 hl217_6
                          have HR217_9 := Aside0.mk hi217_9
                          have HC217_9 := Aside0.mk hl217_9
                          clear hi217_9 hl217_9
                          have HR217_13 := Aside0.mk hi217_13
                          have HC217_13 := Aside0.mk hl217_13
                          clear hi217_13 hl217_13
                          replace p217 := eq_true p217
                          replace q217 := eq_true q217
                          have ea_ := Option.some.inj (hx213_6.symm.trans hx217_6)
                          injection ea_ with ea_ en_ ec_
                          subst ea_
                          subst ec_
                          clear en_
                          have ea_ := Option.some.inj (hx213_9.symm.trans hx217_9)
                          injection ea_ with ea_ en_ ec_
                          subst ea_
                          subst ec_
                          clear en_
                          have ea_ := Option.some.inj (hx213_13.symm.trans hx217_13)
                          injection ea_ with ea_ en_ ec_
                          subst ea_
                          subst ec_
                          clear en_
                          have p218 : 0 ≤ (x5_1 : Int) := of_decide_eq_true as_
                          have q218 : x5_1 < (l0.length : Int) := of_decide_eq_true as_
                          obtain ⟨ad218, A218_6, c218_6, A218_9, c218_9, A218_13, c218_13, e218, hx218_0, hx218_1, hx218_2, hx218_3, hx218_4, hx218_5, hx218_6, hx218_7, hx218_8, hx218_9, hx218_10, hx218_11, hx218_12, hx218_13, hl218_6, hi218_6, hl218_9, hi218_9, hl218_13, hi218_13⟩ := at_T136 HR0.out x5_1 p218 q218
                          obtain rfl : ad213 = ad218 := (by injection e218)
                          have HR218_6 := Aside0.mk hi218_6
                          have HC218_6 := Aside0.mk hl218_6
                          clear hi218_6 hl218_6
                          have HR218_9 := Aside0.mk hi218_9
                          have HC218_9 := Aside0.mk hl218_9
                          clear hi218_9 hl218_9
                          have HR218_13 := Aside0.mk hi218_13
                          have HC218_13 := Aside0.mk hl218_13
                          clear hi218_13 hl218_13
                          replace p218 := eq_true p218
                          replace q218 := eq_true q218
                          have ea_ := Option.some.inj (hx213_6.symm.trans hx218_6)
                          injection ea_ with ea_ en_ ec_
                          subst ea_
                          subst ec_
                          clear en_
                          have ea_ := Option.some.inj (hx213_9.symm.trans hx218_9)
                          injection ea_ with ea_ en_ ec_
                          subst ea_
                          subst ec_
                          clear en_
                          have ea_ := Option.some.inj (hx213_13.symm.trans hx218_13)
                          injection ea_ with ea_ en_ ec_
                          subst ea_
                          subst ec_
                          clear en_
                          have p219 : 0 ≤ (x5_1 : Int) := of_decide_eq_true as_
                          have q219 : x5_1 < (l0.length : Int) := of_decide_eq_true as_
                          obtain ⟨ad219, A219_6, c219_6, A219_9, c219_9, A219_13, c219_13, e219, hx219_0, hx219_1, hx219_2, hx219_3, hx219_4, hx219_5, hx219_6, hx219_7, hx219_8, hx219_9, hx219_10, hx219_11, hx219_12, hx219_13, hl219_6, hi219_6, hl219_9, hi219_9, hl219_13, hi219_13⟩ := at_T136 HR0.out x5_1 p219 q219
                          obtain rfl : ad213 = ad219 := (by injection e219)
                          have HR219_6 := Aside0.mk hi219_6
                          have HC219_6 := Aside0.mk hl219_6
                          clear hi219_6 hl219_6
                          have HR219_9 := Aside0.mk hi219_9
                          have HC219_9 := Aside0.mk hl219_9
                          clear hi219_9 hl219_9
                          have HR219_13 := Aside0.mk hi219_13
                          have HC219_13 := Aside0.mk hl219_13
                          clear hi219_13 hl219_13
                          replace p219 := eq_true p219
                          replace q219 := eq_true q219
                          have ea_ := Option.some.inj (hx213_6.symm.trans hx219_6)
                          injection ea_ with ea_ en_ ec_
                          subst ea_
                          subst ec_
                          clear en_
                          have ea_ := Option.some.inj (hx213_9.symm.trans hx219_9)
                          injection ea_ with ea_ en_ ec_
                          subst ea_
                          subst ec_
                          clear en_
                          have ea_ := Option.some.inj (hx213_13.symm.trans hx219_13)
                          injection ea_ with ea_ en_ ec_
                          subst ea_
                          subst ec_
                          clear en_
                          go_wp2_with (first | ((with_reducible refine gate_callee (f := 130) rfl ?_); refine goe_ (some 73) Try.func130 #[.slice A213_6 ((rd_T136 l0 x5_1).f6.f0).length c213_6, .int .i64 (wrap64 ((wrap64 ((wrap64 ((wrap64 ((wrap64 ((wrap64 (x1_1 + 1)) + 1)) + 1)) + 1)) + 1)) + 1))] ?_; (with_reducible refine (laws_heldPrefixS.calls k1 _ _ ((rd_T136 l0 x5_1).f6.f0) (wrap64 ((wrap64 ((wrap64 ((wrap64 ((wrap64 ((wrap64 (x1_1 + 1)) + 1)) + 1)) + 1)) + 1)) + 1)) t220 _ ?side1 ?side2 A11.out).mono ?_); (case side1 => exact kc_ HR219_6.out); (case side2 => exact HC219_6.out); rintro e w' ⟨rfl, ⟨nd, rfl⟩⟩; refine ⟨_, rfl, ?_⟩; have p221 : 0 ≤ (x5_1 : Int) := of_decide_eq_true as_; have q221 : x5_1 < (l0.length : Int) := of_decide_eq_true as_; obtain ⟨ad221, A221_6, c221_6, A221_9, c221_9, A221_13, c221_13, e221, hx221_0, hx221_1, hx221_2, hx221_3, hx221_4, hx221_5, hx221_6, hx221_7, hx221_8, hx221_9, hx221_10, hx221_11, hx221_12, hx221_13, hl221_6, hi221_6, hl221_9, hi221_9, hl221_13, hi221_13⟩ := at_T136 HR0.out x5_1 p221 q221; obtain rfl : ad213 = ad221 := (by injection e221); have HR221_6 := Aside0.mk hi221_6; have HC221_6 := Aside0.mk hl221_6; clear hi221_6 hl221_6; have HR221_9 := Aside0.mk hi221_9; have HC221_9 := Aside0.mk hl221_9; clear hi221_9 hl221_9; have HR221_13 := Aside0.mk hi221_13; have HC221_13 := Aside0.mk hl221_13; clear hi221_13 hl221_13; replace p221 := eq_true p221; replace q221 := eq_true q221; have ea_ := Option.some.inj (hx213_6.symm.trans hx221_6); injection ea_ with ea_ en_ ec_; subst ea_; subst ec_; clear en_; have ea_ := Option.some.inj (hx213_9.symm.trans hx221_9); injection ea_ with ea_ en_ ec_; subst ea_; subst ec_; clear en_; have ea_ := Option.some.inj (hx213_13.symm.trans hx221_13); injection ea_ with ea_ en_ ec_; subst ea_; subst ec_; clear en_))
                          go_ret
                          exact ⟨sd_, by repeat (first | exact Drawn0.refl _ | apply Drawn0.step)⟩
                        · rw [if_neg c13] at H
                          have c13b0 : (((rd_T136 l0 x5_1).f6.f1) != ((Int.tmod t220 3) == 0)) = false := by simpa using c13
                          (try (have c13b1 : decide (((rd_T136 l0 x5_1).f6.f1) = ((Int.tmod t220 3) == 0)) = true := by simpa using c13))
                          (try (have c13b2 : (((rd_T136 l0 x5_1).f6.f1) == ((Int.tmod t220 3) == 0)) = true := by simpa using c13))
                          clear c13
                          by_cases c14 : ((rd_T136 l0 x5_1).f6.f2.f0) = (wrap64 (t220 + 1))
                          · rw [if_pos c14] at H
                            have c14b0 : (((rd_T136 l0 x5_1).f6.f2.f0) == (wrap64 (t220 + 1))) = true := beq_iff_eq.mpr c14
                            have c14b1 : (((rd_T136 l0 x5_1).f6.f2.f0) != (wrap64 (t220 + 1))) = false := bne_eq_false_iff_eq.mpr c14
                            clear c14
                            replace H := Option.bind_eq_some_iff.mp H
                            obtain ⟨t224, A150, H⟩ := H
                            replace H : (if t224 < 0 then (some (-1)) else (if ((rd_T136 l0 x5_1).f6.f2.f2) = t224 then (if ((rd_T136 l0 x5_1).f6.f2.f3) = (wrap64 (t224 + 1)) then (if ((rd_T136 l0 x5_1).f6.f2.f4) = (wrap64 ((wrap64 (t224 + 1)) + 1)) then ((laws_heldPrefixS.f k1 ((rd_T136 l0 x5_1).f6.f3) (wrap64 ((wrap64 ((wrap64 (t224 + 1)) + 1)) + 1))).bind fun t229 => (if t229 < 0 then (some (-1)) else (laws_heldMessageS.l0 k1 l0 t229 (wrap64 (x5_1 + 1))))) else (some (-1))) else (some (-1))) else (some (-1)))) = some r := H
                            have A15 := Aside0.mk A150
                            clear A150
                            by_cases c16 : t224 < 0
                            · rw [if_pos c16] at H
                              have c16b0 : decide (t224 < 0) = true := decide_eq_true c16
                              clear c16
                              obtain rfl := Option.some.inj H
                              have p213 : 0 ≤ (x5_1 : Int) := of_decide_eq_true as_
                              have q213 : x5_1 < (l0.length : Int) := of_decide_eq_true as_
                              obtain ⟨ad213, A213_6, c213_6, A213_9, c213_9, A213_13, c213_13, e213, hx213_0, hx213_1, hx213_2, hx213_3, hx213_4, hx213_5, hx213_6, hx213_7, hx213_8, hx213_9, hx213_10, hx213_11, hx213_12, hx213_13, hl213_6, hi213_6, hl213_9, hi213_9, hl213_13, hi213_13⟩ := at_T136 HR0.out x5_1 p213 q213
                              cases e213
                              have HR213_6 := Aside0.mk hi213_6
                              have HC213_6 := Aside0.mk hl213_6
                              clear hi213_6 hl213_6
                              have HR213_9 := Aside0.mk hi213_9
                              have HC213_9 := Aside0.mk hl213_9
                              clear hi213_9 hl213_9
                              have HR213_13 := Aside0.mk hi213_13
                              have HC213_13 := Aside0.mk hl213_13
                              clear hi213_13 hl213_13
                              replace p213 := eq_true p213
                              replace q213 := eq_true q213
                              have p214 : 0 ≤ (x5_1 : Int) := of_decide_eq_true as_
                              have q214 : x5_1 < (l0.length : Int) := of_decide_eq_true as_
                              obtain ⟨ad214, A214_6, c214_6, A214_9, c214_9, A214_13, c214_13, e214, hx214_0, hx214_1, hx214_2, hx214_3, hx214_4, hx214_5, hx214_6, hx214_7, hx214_8, hx214_9, hx214_10, hx214_11, hx214_12, hx214_13, hl214_6, hi214_6, hl214_9, hi214_9, hl214_13, hi214_13⟩ := at_T136 HR0.out x5_1 p214 q214
                              obtain rfl : ad213 = ad214 := (by injection e214)
                              have HR214_6 := Aside0.mk hi214_6
                              have HC214_6 := Aside0.mk hl214_6
                              clear hi214_6 hl214_6
                              have HR214_9 := Aside0.mk hi214_9
                              have HC214_9 := Aside0.mk hl214_9
                              clear hi214_9 hl214_9
                              have HR214_13 := Aside0.mk hi214_13
                              have HC214_13 := Aside0.mk hl214_13
                              clear hi214_13 hl214_13
                              replace p214 := eq_true p214
                              replace q214 := eq_true q214
                              have ea_ := Option.some.inj (hx213_6.symm.trans hx214_6)
                              injection ea_ with ea_ en_ ec_
                              subst ea_
                              subst ec_
                              clear en_
                              have ea_ := Option.some.inj (hx213_9.symm.trans hx214_9)
                              injection ea_ with ea_ en_ ec_
                              subst ea_
                              subst ec_
                              clear en_
                              have ea_ := Option.some.inj (hx213_13.symm.trans hx214_13)
                              injection ea_ with ea_ en_ ec_
                              subst ea_
                              subst ec_
                              clear en_
                              have p215 : 0 ≤ (x5_1 : Int) := of_decide_eq_true as_
                              have q215 : x5_1 < (l0.length : Int) := of_decide_eq_true as_
                              obtain ⟨ad215, A215_6, c215_6, A215_9, c215_9, A215_13, c215_13, e215, hx215_0, hx215_1, hx215_2, hx215_3, hx215_4, hx215_5, hx215_6, hx215_7, hx215_8, hx215_9, hx215_10, hx215_11, hx215_12, hx215_13, hl215_6, hi215_6, hl215_9, hi215_9, hl215_13, hi215_13⟩ := at_T136 HR0.out x5_1 p215 q215
                              obtain rfl : ad213 = ad215 := (by injection e215)
                              have HR215_6 := Aside0.mk hi215_6
                              have HC215_6 := Aside0.mk hl215_6
                              clear hi215_6 hl215_6
                              have HR215_9 := Aside0.mk hi215_9
                              have HC215_9 := Aside0.mk hl215_9
                              clear hi215_9 hl215_9
                              have HR215_13 := Aside0.mk hi215_13
                              have HC215_13 := Aside0.mk hl215_13
                              clear hi215_13 hl215_13
                              replace p215 := eq_true p215
                              replace q215 := eq_true q215
                              have ea_ := Option.some.inj (hx213_6.symm.trans hx215_6)
                              injection ea_ with ea_ en_ ec_
                              subst ea_
                              subst ec_
                              clear en_
                              have ea_ := Option.some.inj (hx213_9.symm.trans hx215_9)
                              injection ea_ with ea_ en_ ec_
                              subst ea_
                              subst ec_
                              clear en_
                              have ea_ := Option.some.inj (hx213_13.symm.trans hx215_13)
                              injection ea_ with ea_ en_ ec_
                              subst ea_
                              subst ec_
                              clear en_
                              have p216 : 0 ≤ (x5_1 : Int) := of_decide_eq_true as_
                              have q216 : x5_1 < (l0.length : Int) := of_decide_eq_true as_
                              obtain ⟨ad216, A216_6, c216_6, A216_9, c216_9, A216_13, c216_13, e216, hx216_0, hx216_1, hx216_2, hx216_3, hx216_4, hx216_5, hx216_6, hx216_7, hx216_8, hx216_9, hx216_10, hx216_11, hx216_12, hx216_13, hl216_6, hi216_6, hl216_9, hi216_9, hl216_13, hi216_13⟩ := at_T136 HR0.out x5_1 p216 q216
                              obtain rfl : ad213 = ad216 := (by injection e216)
                              have HR216_6 := Aside0.mk hi216_6
                              have HC216_6 := Aside0.mk hl216_6
                              clear hi216_6 hl216_6
                              have HR216_9 := Aside0.mk hi216_9
                              have HC216_9 := Aside0.mk hl216_9
                              clear hi216_9 hl216_9
                              have HR216_13 := Aside0.mk hi216_13
                              have HC216_13 := Aside0.mk hl216_13
                              clear hi216_13 hl216_13
                              replace p216 := eq_true p216
                              replace q216 := eq_true q216
                              have ea_ := Option.some.inj (hx213_6.symm.trans hx216_6)
                              injection ea_ with ea_ en_ ec_
                              subst ea_
                              subst ec_
                              clear en_
                              have ea_ := Option.some.inj (hx213_9.symm.trans hx216_9)
                              injection ea_ with ea_ en_ ec_
                              subst ea_
                              subst ec_
                              clear en_
                              have ea_ := Option.some.inj (hx213_13.symm.trans hx216_13)
                              injection ea_ with ea_ en_ ec_
                              subst ea_
                              subst ec_
                              clear en_
                              have p217 : 0 ≤ (x5_1 : Int) := of_decide_eq_true as_
                              have q217 : x5_1 < (l0.length : Int) := of_decide_eq_true as_
                              obtain ⟨ad217, A217_6, c217_6, A217_9, c217_9, A217_13, c217_13, e217, hx217_0, hx217_1, hx217_2, hx217_3, hx217_4, hx217_5, hx217_6, hx217_7, hx217_8, hx217_9, hx217_10, hx217_11, hx217_12, hx217_13, hl217_6, hi217_6, hl217_9, hi217_9, hl217_13, hi217_13⟩ := at_T136 HR0.out x5_1 p217 q217
                              obtain rfl : ad213 = ad217 := (by injection e217)
                              have HR217_6 := Aside0.mk hi217_6
                              have HC217_6 := Aside0.mk hl217_6
                              clear hi217_6 hl217_6
                              have HR217_9 := Aside0.mk hi217_9
                              have HC217_9 := Aside0.mk hl217_9
                              clear hi217_9 hl217_9
                              have HR217_13 := Aside0.mk hi217_13
                              have HC217_13 := Aside0.mk hl217_13
                              clear hi217_13 hl217_13
                              replace p217 := eq_true p217
                              replace q217 := eq_true q217
                              have ea_ := Option.some.inj (hx213_6.symm.trans hx217_6)
                              injection ea_ with ea_ en_ ec_
                              subst ea_
                              subst ec_
                              clear en_
                              have ea_ := Option.some.inj (hx213_9.symm.trans hx217_9)
                              injection ea_ with ea_ en_ ec_
                              subst ea_
                              subst ec_
                              clear en_
                              have ea_ := Option.some.inj (hx213_13.symm.trans hx217_13)
                              injection ea_ with ea_ en_ ec_
                              subst ea_
                              subst ec_
                              clear en_
                              have p218 : 0 ≤ (x5_1 : Int) := of_decide_eq_true as_
                              have q218 : x5_1 < (l0.length : Int) := of_decide_eq_true as_
                              obtain ⟨ad218, A218_6, c218_6, A218_9, c218_9, A218_13, c218_13, e218, hx218_0, hx218_1, hx218_2, hx218_3, hx218_4, hx218_5, hx218_6, hx218_7, hx218_8, hx218_9, hx218_10, hx218_11, hx218_12, hx218_13, hl218_6, hi218_6, hl218_9, hi218_9, hl218_13, hi218_13⟩ := at_T136 HR0.out x5_1 p218 q218
                              obtain rfl : ad213 = ad218 := (by injection e218)
                              have HR218_6 := Aside0.mk hi218_6
                              have HC218_6 := Aside0.mk hl218_6
                              clear hi218_6 hl218_6
                              have HR218_9 := Aside0.mk hi218_9
                              have HC218_9 := Aside0.mk hl218_9
                              clear hi218_9 hl218_9
                              have HR218_13 := Aside0.mk hi218_13
                              have HC218_13 := Aside0.mk hl218_13
                              clear hi218_13 hl218_13
                              replace p218 := eq_true p218
                              replace q218 := eq_true q218
                              have ea_ := Option.some.inj (hx213_6.symm.trans hx218_6)
                              injection ea_ with ea_ en_ ec_
                              subst ea_
                              subst ec_
                              clear en_
                              have ea_ := Option.some.inj (hx213_9.symm.trans hx218_9)
                              injection ea_ with ea_ en_ ec_
                              subst ea_
                              subst ec_
                              clear en_
                              have ea_ := Option.some.inj (hx213_13.symm.trans hx218_13)
                              injection ea_ with ea_ en_ ec_
                              subst ea_
                              subst ec_
                              clear en_
                              have p219 : 0 ≤ (x5_1 : Int) := of_decide_eq_true as_
                              have q219 : x5_1 < (l0.length : Int) := of_decide_eq_true as_
                              obtain ⟨ad219, A219_6, c219_6, A219_9, c219_9, A219_13, c219_13, e219, hx219_0, hx219_1, hx219_2, hx219_3, hx219_4, hx219_5, hx219_6, hx219_7, hx219_8, hx219_9, hx219_10, hx219_11, hx219_12, hx219_13, hl219_6, hi219_6, hl219_9, hi219_9, hl219_13, hi219_13⟩ := at_T136 HR0.out x5_1 p219 q219
                              obtain rfl : ad213 = ad219 := (by injection e219)
                              have HR219_6 := Aside0.mk hi219_6
                              have HC219_6 := Aside0.mk hl219_6
                              clear hi219_6 hl219_6
                              have HR219_9 := Aside0.mk hi219_9
                              have HC219_9 := Aside0.mk hl219_9
                              clear hi219_9 hl219_9
                              have HR219_13 := Aside0.mk hi219_13
                              have HC219_13 := Aside0.mk hl219_13
                              clear hi219_13 hl219_13
                              replace p219 := eq_true p219
                              replace q219 := eq_true q219
                              have ea_ := Option.some.inj (hx213_6.symm.trans hx219_6)
                              injection ea_ with ea_ en_ ec_
                              subst ea_
                              subst ec_
                              clear en_
                              have ea_ := Option.some.inj (hx213_9.symm.trans hx219_9)
                              injection ea_ with ea_ en_ ec_
                              subst ea_
                              subst ec_
                              clear en_
                              have ea_ := Option.some.inj (hx213_13.symm.trans hx219_13)
                              injection ea_ with ea_ en_ ec_
                              subst ea_
                              subst ec_
                              clear en_
                              go_wp2_with (first | ((with_reducible refine gate_callee (f := 130) rfl ?_); refine goe_ (some 73) Try.func130 #[.slice A213_6 ((rd_T136 l0 x5_1).f6.f0).length c213_6, .int .i64 (wrap64 ((wrap64 ((wrap64 ((wrap64 ((wrap64 ((wrap64 (x1_1 + 1)) + 1)) + 1)) + 1)) + 1)) + 1))] ?_; (with_reducible refine (laws_heldPrefixS.calls k1 _ _ ((rd_T136 l0 x5_1).f6.f0) (wrap64 ((wrap64 ((wrap64 ((wrap64 ((wrap64 ((wrap64 (x1_1 + 1)) + 1)) + 1)) + 1)) + 1)) + 1)) t220 _ ?side1 ?side2 A11.out).mono ?_); (case side1 => exact kc_ HR219_6.out); (case side2 => exact HC219_6.out); rintro e w' ⟨rfl, ⟨nd, rfl⟩⟩; refine ⟨_, rfl, ?_⟩; have p221 : 0 ≤ (x5_1 : Int) := of_decide_eq_true as_; have q221 : x5_1 < (l0.length : Int) := of_decide_eq_true as_; obtain ⟨ad221, A221_6, c221_6, A221_9, c221_9, A221_13, c221_13, e221, hx221_0, hx221_1, hx221_2, hx221_3, hx221_4, hx221_5, hx221_6, hx221_7, hx221_8, hx221_9, hx221_10, hx221_11, hx221_12, hx221_13, hl221_6, hi221_6, hl221_9, hi221_9, hl221_13, hi221_13⟩ := at_T136 HR0.out x5_1 p221 q221; obtain rfl : ad213 = ad221 := (by injection e221); have HR221_6 := Aside0.mk hi221_6; have HC221_6 := Aside0.mk hl221_6; clear hi221_6 hl221_6; have HR221_9 := Aside0.mk hi221_9; have HC221_9 := Aside0.mk hl221_9; clear hi221_9 hl221_9; have HR221_13 := Aside0.mk hi221_13; have HC221_13 := Aside0.mk hl221_13; clear hi221_13 hl221_13; replace p221 := eq_true p221; replace q221 := eq_true q221; have ea_ := Option.some.inj (hx213_6.symm.trans hx221_6); injection ea_ with ea_ en_ ec_; subst ea_; subst ec_; clear en_; have ea_ := Option.some.inj (hx213_9.symm.trans hx221_9); injection ea_ with ea_ en_ ec_; subst ea_; subst ec_; clear en_; have ea_ := Option.some.inj (hx213_13.symm.trans hx221_13); injection ea_ with ea_ en_ ec_; subst ea_; subst ec_; clear en_; have p222 : 0 ≤ (x5_1 : Int) := of_decide_eq_true as_; have q222 : x5_1 < (l0.length : Int) := of_decide_eq_true as_; obtain ⟨ad222, A222_6, c222_6, A222_9, c222_9, A222_13, c222_13, e222, hx222_0, hx222_1, hx222_2, hx222_3, hx222_4, hx222_5, hx222_6, hx222_7, hx222_8, hx222_9, hx222_10, hx222_11, hx222_12, hx222_13, hl222_6, hi222_6, hl222_9, hi222_9, hl222_13, hi222_13⟩ := at_T136 HR0.out x5_1 p222 q222; obtain rfl : ad213 = ad222 := (by injection e222); have HR222_6 := Aside0.mk hi222_6; have HC222_6 := Aside0.mk hl222_6; clear hi222_6 hl222_6; have HR222_9 := Aside0.mk hi222_9; have HC222_9 := Aside0.mk hl222_9; clear hi222_9 hl222_9; have HR222_13 := Aside0.mk hi222_13; have HC222_13 := Aside0.mk hl222_13; clear hi222_13 hl222_13; replace p222 := eq_true p222; replace q222 := eq_true q222; have ea_ := Option.some.inj (hx213_6.symm.trans hx222_6); injection ea_ with ea_ en_ ec_; subst ea_; subst ec_; clear en_; have ea_ := Option.some.inj (hx213_9.symm.trans hx222_9); injection ea_ with ea_ en_ ec_; subst ea_; subst ec_; clear en_; have ea_ := Option.some.inj (hx213_13.symm.trans hx222_13); injection ea_ with ea_ en_ ec_; subst ea_; subst ec_; clear en_; have p223 : 0 ≤ (x5_1 : Int) := of_decide_eq_true as_; have q223 : x5_1 < (l0.length : Int) := of_decide_eq_true as_; obtain ⟨ad223, A223_6, c223_6, A223_9, c223_9, A223_13, c223_13, e223, hx223_0, hx223_1, hx223_2, hx223_3, hx223_4, hx223_5, hx223_6, hx223_7, hx223_8, hx223_9, hx223_10, hx223_11, hx223_12, hx223_13, hl223_6, hi223_6, hl223_9, hi223_9, hl223_13, hi223_13⟩ := at_T136 HR0.out x5_1 p223 q223; obtain rfl : ad213 = ad223 := (by injection e223); have HR223_6 := Aside0.mk hi223_6; have HC223_6 := Aside0.mk hl223_6; clear hi223_6 hl223_6; have HR223_9 := Aside0.mk hi223_9; have HC223_9 := Aside0.mk hl223_9; clear hi223_9 hl223_9; have HR223_13 := Aside0.mk hi223_13; have HC223_13 := Aside0.mk hl223_13; clear hi223_13 hl223_13; replace p223 := eq_true p223; replace q223 := eq_true q223; have ea_ := Option.some.inj (hx213_6.symm.trans hx223_6); injection ea_ with ea_ en_ ec_; subst ea_; subst ec_; clear en_; have ea_ := Option.some.inj (hx213_9.symm.trans hx223_9); injection ea_ with ea_ en_ ec_; subst ea_; subst ec_; clear en_; have ea_ := Option.some.inj (hx213_13.symm.trans hx223_13); injection ea_ with ea_ en_ ec_; subst ea_; subst ec_; clear en_) | ((with_reducible refine gate_callee (f := 145) rfl ?_); refine goe_ (some 107) Try.func145 #[.slice A213_9 ((rd_T136 l0 x5_1).f6.f2.f1).length c213_9, .int .i64 (wrap64 ((wrap64 (t220 + 1)) + 1))] ?_; (with_reducible refine (laws_heldInt64S.calls k1 _ _ ((rd_T136 l0 x5_1).f6.f2.f1) (wrap64 ((wrap64 (t220 + 1)) + 1)) t224 _ ?side1 ?side2 A15.out).mono ?_); (case side1 => exact kc_ HR223_9.out); (case side2 => exact HC223_9.out); rintro e w' ⟨rfl, ⟨nd, rfl⟩⟩; refine ⟨_, rfl, ?_⟩))
                              go_ret
                              exact ⟨sd_, by repeat (first | exact Drawn0.refl _ | apply Drawn0.step)⟩
                            · rw [if_neg c16] at H
                              have c16b0 : decide (t224 < 0) = false := decide_eq_false c16
                              clear c16
                              by_cases c17 : ((rd_T136 l0 x5_1).f6.f2.f2) = t224
                              · rw [if_pos c17] at H
                                have c17b0 : (((rd_T136 l0 x5_1).f6.f2.f2) == t224) = true := beq_iff_eq.mpr c17
                                have c17b1 : (((rd_T136 l0 x5_1).f6.f2.f2) != t224) = false := bne_eq_false_iff_eq.mpr c17
                                clear c17
                                by_cases c18 : ((rd_T136 l0 x5_1).f6.f2.f3) = (wrap64 (t224 + 1))
                                · rw [if_pos c18] at H
                                  have c18b0 : (((rd_T136 l0 x5_1).f6.f2.f3) == (wrap64 (t224 + 1))) = true := beq_iff_eq.mpr c18
                                  have c18b1 : (((rd_T136 l0 x5_1).f6.f2.f3) != (wrap64 (t224 + 1))) = false := bne_eq_false_iff_eq.mpr c18
                                  clear c18
                                  by_cases c19 : ((rd_T136 l0 x5_1).f6.f2.f4) = (wrap64 ((wrap64 (t224 + 1)) + 1))
                                  · rw [if_pos c19] at H
                                    have c19b0 : (((rd_T136 l0 x5_1).f6.f2.f4) == (wrap64 ((wrap64 (t224 + 1)) + 1))) = true := beq_iff_eq.mpr c19
                                    have c19b1 : (((rd_T136 l0 x5_1).f6.f2.f4) != (wrap64 ((wrap64 (t224 + 1)) + 1))) = false := bne_eq_false_iff_eq.mpr c19
                                    clear c19
                                    replace H := Option.bind_eq_some_iff.mp H
                                    obtain ⟨t229, A200, H⟩ := H
                                    replace H : (if t229 < 0 then (some (-1)) else (laws_heldMessageS.l0 k1 l0 t229 (wrap64 (x5_1 + 1)))) = some r := H
                                    have A20 := Aside0.mk A200
                                    clear A200
                                    by_cases c21 : t229 < 0
                                    · rw [if_pos c21] at H
                                      have c21b0 : decide (t229 < 0) = true := decide_eq_true c21
                                      clear c21
                                      obtain rfl := Option.some.inj H
                                      have p213 : 0 ≤ (x5_1 : Int) := of_decide_eq_true as_
                                      have q213 : x5_1 < (l0.length : Int) := of_decide_eq_true as_
                                      obtain ⟨ad213, A213_6, c213_6, A213_9, c213_9, A213_13, c213_13, e213, hx213_0, hx213_1, hx213_2, hx213_3, hx213_4, hx213_5, hx213_6, hx213_7, hx213_8, hx213_9, hx213_10, hx213_11, hx213_12, hx213_13, hl213_6, hi213_6, hl213_9, hi213_9, hl213_13, hi213_13⟩ := at_T136 HR0.out x5_1 p213 q213
                                      cases e213
                                      have HR213_6 := Aside0.mk hi213_6
                                      have HC213_6 := Aside0.mk hl213_6
                                      clear hi213_6 hl213_6
                                      have HR213_9 := Aside0.mk hi213_9
                                      have HC213_9 := Aside0.mk hl213_9
                                      clear hi213_9 hl213_9
                                      have HR213_13 := Aside0.mk hi213_13
                                      have HC213_13 := Aside0.mk hl213_13
                                      clear hi213_13 hl213_13
                                      replace p213 := eq_true p213
                                      replace q213 := eq_true q213
                                      have p214 : 0 ≤ (x5_1 : Int) := of_decide_eq_true as_
                                      have q214 : x5_1 < (l0.length : Int) := of_decide_eq_true as_
                                      obtain ⟨ad214, A214_6, c214_6, A214_9, c214_9, A214_13, c214_13, e214, hx214_0, hx214_1, hx214_2, hx214_3, hx214_4, hx214_5, hx214_6, hx214_7, hx214_8, hx214_9, hx214_10, hx214_11, hx214_12, hx214_13, hl214_6, hi214_6, hl214_9, hi214_9, hl214_13, hi214_13⟩ := at_T136 HR0.out x5_1 p214 q214
                                      obtain rfl : ad213 = ad214 := (by injection e214)
                                      have HR214_6 := Aside0.mk hi214_6
                                      have HC214_6 := Aside0.mk hl214_6
                                      clear hi214_6 hl214_6
                                      have HR214_9 := Aside0.mk hi214_9
                                      have HC214_9 := Aside0.mk hl214_9
                                      clear hi214_9 hl214_9
                                      have HR214_13 := Aside0.mk hi214_13
                                      have HC214_13 := Aside0.mk hl214_13
                                      clear hi214_13 hl214_13
                                      replace p214 := eq_true p214
                                      replace q214 := eq_true q214
                                      have ea_ := Option.some.inj (hx213_6.symm.trans hx214_6)
                                      injection ea_ with ea_ en_ ec_
                                      subst ea_
                                      subst ec_
                                      clear en_
                                      have ea_ := Option.some.inj (hx213_9.symm.trans hx214_9)
                                      injection ea_ with ea_ en_ ec_
                                      subst ea_
                                      subst ec_
                                      clear en_
                                      have ea_ := Option.some.inj (hx213_13.symm.trans hx214_13)
                                      injection ea_ with ea_ en_ ec_
                                      subst ea_
                                      subst ec_
                                      clear en_
                                      have p215 : 0 ≤ (x5_1 : Int) := of_decide_eq_true as_
                                      have q215 : x5_1 < (l0.length : Int) := of_decide_eq_true as_
                                      obtain ⟨ad215, A215_6, c215_6, A215_9, c215_9, A215_13, c215_13, e215, hx215_0, hx215_1, hx215_2, hx215_3, hx215_4, hx215_5, hx215_6, hx215_7, hx215_8, hx215_9, hx215_10, hx215_11, hx215_12, hx215_13, hl215_6, hi215_6, hl215_9, hi215_9, hl215_13, hi215_13⟩ := at_T136 HR0.out x5_1 p215 q215
                                      obtain rfl : ad213 = ad215 := (by injection e215)
                                      have HR215_6 := Aside0.mk hi215_6
                                      have HC215_6 := Aside0.mk hl215_6
                                      clear hi215_6 hl215_6
                                      have HR215_9 := Aside0.mk hi215_9
                                      have HC215_9 := Aside0.mk hl215_9
                                      clear hi215_9 hl215_9
                                      have HR215_13 := Aside0.mk hi215_13
                                      have HC215_13 := Aside0.mk hl215_13
                                      clear hi215_13 hl215_13
                                      replace p215 := eq_true p215
                                      replace q215 := eq_true q215
                                      have ea_ := Option.some.inj (hx213_6.symm.trans hx215_6)
                                      injection ea_ with ea_ en_ ec_
                                      subst ea_
                                      subst ec_
                                      clear en_
                                      have ea_ := Option.some.inj (hx213_9.symm.trans hx215_9)
                                      injection ea_ with ea_ en_ ec_
                                      subst ea_
                                      subst ec_
                                      clear en_
                                      have ea_ := Option.some.inj (hx213_13.symm.trans hx215_13)
                                      injection ea_ with ea_ en_ ec_
                                      subst ea_
                                      subst ec_
                                      clear en_
                                      have p216 : 0 ≤ (x5_1 : Int) := of_decide_eq_true as_
                                      have q216 : x5_1 < (l0.length : Int) := of_decide_eq_true as_
                                      obtain ⟨ad216, A216_6, c216_6, A216_9, c216_9, A216_13, c216_13, e216, hx216_0, hx216_1, hx216_2, hx216_3, hx216_4, hx216_5, hx216_6, hx216_7, hx216_8, hx216_9, hx216_10, hx216_11, hx216_12, hx216_13, hl216_6, hi216_6, hl216_9, hi216_9, hl216_13, hi216_13⟩ := at_T136 HR0.out x5_1 p216 q216
                                      obtain rfl : ad213 = ad216 := (by injection e216)
                                      have HR216_6 := Aside0.mk hi216_6
                                      have HC216_6 := Aside0.mk hl216_6
                                      clear hi216_6 hl216_6
                                      have HR216_9 := Aside0.mk hi216_9
                                      have HC216_9 := Aside0.mk hl216_9
                                      clear hi216_9 hl216_9
                                      have HR216_13 := Aside0.mk hi216_13
                                      have HC216_13 := Aside0.mk hl216_13
                                      clear hi216_13 hl216_13
                                      replace p216 := eq_true p216
                                      replace q216 := eq_true q216
                                      have ea_ := Option.some.inj (hx213_6.symm.trans hx216_6)
                                      injection ea_ with ea_ en_ ec_
                                      subst ea_
                                      subst ec_
                                      clear en_
                                      have ea_ := Option.some.inj (hx213_9.symm.trans hx216_9)
                                      injection ea_ with ea_ en_ ec_
                                      subst ea_
                                      subst ec_
                                      clear en_
                                      have ea_ := Option.some.inj (hx213_13.symm.trans hx216_13)
                                      injection ea_ with ea_ en_ ec_
                                      subst ea_
                                      subst ec_
                                      clear en_
                                      have p217 : 0 ≤ (x5_1 : Int) := of_decide_eq_true as_
                                      have q217 : x5_1 < (l0.length : Int) := of_decide_eq_true as_
                                      obtain ⟨ad217, A217_6, c217_6, A217_9, c217_9, A217_13, c217_13, e217, hx217_0, hx217_1, hx217_2, hx217_3, hx217_4, hx217_5, hx217_6, hx217_7, hx217_8, hx217_9, hx217_10, hx217_11, hx217_12, hx217_13, hl217_6, hi217_6, hl217_9, hi217_9, hl217_13, hi217_13⟩ := at_T136 HR0.out x5_1 p217 q217
                                      obtain rfl : ad213 = ad217 := (by injection e217)
                                      have HR217_6 := Aside0.mk hi217_6
                                      have HC217_6 := Aside0.mk hl217_6
                                      clear hi217_6 hl217_6
                                      have HR217_9 := Aside0.mk hi217_9
                                      have HC217_9 := Aside0.mk hl217_9
                                      clear hi217_9 hl217_9
                                      have HR217_13 := Aside0.mk hi217_13
                                      have HC217_13 := Aside0.mk hl217_13
                                      clear hi217_13 hl217_13
                                      replace p217 := eq_true p217
                                      replace q217 := eq_true q217
                                      have ea_ := Option.some.inj (hx213_6.symm.trans hx217_6)
                                      injection ea_ with ea_ en_ ec_
                                      subst ea_
                                      subst ec_
                                      clear en_
                                      have ea_ := Option.some.inj (hx213_9.symm.trans hx217_9)
                                      injection ea_ with ea_ en_ ec_
                                      subst ea_
                                      subst ec_
                                      clear en_
                                      have ea_ := Option.some.inj (hx213_13.symm.trans hx217_13)
                                      injection ea_ with ea_ en_ ec_
                                      subst ea_
                                      subst ec_
                                      clear en_
                                      have p218 : 0 ≤ (x5_1 : Int) := of_decide_eq_true as_
                                      have q218 : x5_1 < (l0.length : Int) := of_decide_eq_true as_
                                      obtain ⟨ad218, A218_6, c218_6, A218_9, c218_9, A218_13, c218_13, e218, hx218_0, hx218_1, hx218_2, hx218_3, hx218_4, hx218_5, hx218_6, hx218_7, hx218_8, hx218_9, hx218_10, hx218_11, hx218_12, hx218_13, hl218_6, hi218_6, hl218_9, hi218_9, hl218_13, hi218_13⟩ := at_T136 HR0.out x5_1 p218 q218
                                      obtain rfl : ad213 = ad218 := (by injection e218)
                                      have HR218_6 := Aside0.mk hi218_6
                                      have HC218_6 := Aside0.mk hl218_6
                                      clear hi218_6 hl218_6
                                      have HR218_9 := Aside0.mk hi218_9
                                      have HC218_9 := Aside0.mk hl218_9
                                      clear hi218_9 hl218_9
                                      have HR218_13 := Aside0.mk hi218_13
                                      have HC218_13 := Aside0.mk hl218_13
                                      clear hi218_13 hl218_13
                                      replace p218 := eq_true p218
                                      replace q218 := eq_true q218
                                      have ea_ := Option.some.inj (hx213_6.symm.trans hx218_6)
                                      injection ea_ with ea_ en_ ec_
                                      subst ea_
                                      subst ec_
                                      clear en_
                                      have ea_ := Option.some.inj (hx213_9.symm.trans hx218_9)
                                      injection ea_ with ea_ en_ ec_
                                      subst ea_
                                      subst ec_
                                      clear en_
                                      have ea_ := Option.some.inj (hx213_13.symm.trans hx218_13)
                                      injection ea_ with ea_ en_ ec_
                                      subst ea_
                                      subst ec_
                                      clear en_
                                      have p219 : 0 ≤ (x5_1 : Int) := of_decide_eq_true as_
                                      have q219 : x5_1 < (l0.length : Int) := of_decide_eq_true as_
                                      obtain ⟨ad219, A219_6, c219_6, A219_9, c219_9, A219_13, c219_13, e219, hx219_0, hx219_1, hx219_2, hx219_3, hx219_4, hx219_5, hx219_6, hx219_7, hx219_8, hx219_9, hx219_10, hx219_11, hx219_12, hx219_13, hl219_6, hi219_6, hl219_9, hi219_9, hl219_13, hi219_13⟩ := at_T136 HR0.out x5_1 p219 q219
                                      obtain rfl : ad213 = ad219 := (by injection e219)
                                      have HR219_6 := Aside0.mk hi219_6
                                      have HC219_6 := Aside0.mk hl219_6
                                      clear hi219_6 hl219_6
                                      have HR219_9 := Aside0.mk hi219_9
                                      have HC219_9 := Aside0.mk hl219_9
                                      clear hi219_9 hl219_9
                                      have HR219_13 := Aside0.mk hi219_13
                                      have HC219_13 := Aside0.mk hl219_13
                                      clear hi219_13 hl219_13
                                      replace p219 := eq_true p219
                                      replace q219 := eq_true q219
                                      have ea_ := Option.some.inj (hx213_6.symm.trans hx219_6)
                                      injection ea_ with ea_ en_ ec_
                                      subst ea_
                                      subst ec_
                                      clear en_
                                      have ea_ := Option.some.inj (hx213_9.symm.trans hx219_9)
                                      injection ea_ with ea_ en_ ec_
                                      subst ea_
                                      subst ec_
                                      clear en_
                                      have ea_ := Option.some.inj (hx213_13.symm.trans hx219_13)
                                      injection ea_ with ea_ en_ ec_
                                      subst ea_
                                      subst ec_
                                      clear en_
                                      go_wp2_with (first | ((with_reducible refine gate_callee (f := 130) rfl ?_); refine goe_ (some 73) Try.func130 #[.slice A213_6 ((rd_T136 l0 x5_1).f6.f0).length c213_6, .int .i64 (wrap64 ((wrap64 ((wrap64 ((wrap64 ((wrap64 ((wrap64 (x1_1 + 1)) + 1)) + 1)) + 1)) + 1)) + 1))] ?_; (with_reducible refine (laws_heldPrefixS.calls k1 _ _ ((rd_T136 l0 x5_1).f6.f0) (wrap64 ((wrap64 ((wrap64 ((wrap64 ((wrap64 ((wrap64 (x1_1 + 1)) + 1)) + 1)) + 1)) + 1)) + 1)) t220 _ ?side1 ?side2 A11.out).mono ?_); (case side1 => exact kc_ HR219_6.out); (case side2 => exact HC219_6.out); rintro e w' ⟨rfl, ⟨nd, rfl⟩⟩; refine ⟨_, rfl, ?_⟩; have p221 : 0 ≤ (x5_1 : Int) := of_decide_eq_true as_; have q221 : x5_1 < (l0.length : Int) := of_decide_eq_true as_; obtain ⟨ad221, A221_6, c221_6, A221_9, c221_9, A221_13, c221_13, e221, hx221_0, hx221_1, hx221_2, hx221_3, hx221_4, hx221_5, hx221_6, hx221_7, hx221_8, hx221_9, hx221_10, hx221_11, hx221_12, hx221_13, hl221_6, hi221_6, hl221_9, hi221_9, hl221_13, hi221_13⟩ := at_T136 HR0.out x5_1 p221 q221; obtain rfl : ad213 = ad221 := (by injection e221); have HR221_6 := Aside0.mk hi221_6; have HC221_6 := Aside0.mk hl221_6; clear hi221_6 hl221_6; have HR221_9 := Aside0.mk hi221_9; have HC221_9 := Aside0.mk hl221_9; clear hi221_9 hl221_9; have HR221_13 := Aside0.mk hi221_13; have HC221_13 := Aside0.mk hl221_13; clear hi221_13 hl221_13; replace p221 := eq_true p221; replace q221 := eq_true q221; have ea_ := Option.some.inj (hx213_6.symm.trans hx221_6); injection ea_ with ea_ en_ ec_; subst ea_; subst ec_; clear en_; have ea_ := Option.some.inj (hx213_9.symm.trans hx221_9); injection ea_ with ea_ en_ ec_; subst ea_; subst ec_; clear en_; have ea_ := Option.some.inj (hx213_13.symm.trans hx221_13); injection ea_ with ea_ en_ ec_; subst ea_; subst ec_; clear en_; have p222 : 0 ≤ (x5_1 : Int) := of_decide_eq_true as_; have q222 : x5_1 < (l0.length : Int) := of_decide_eq_true as_; obtain ⟨ad222, A222_6, c222_6, A222_9, c222_9, A222_13, c222_13, e222, hx222_0, hx222_1, hx222_2, hx222_3, hx222_4, hx222_5, hx222_6, hx222_7, hx222_8, hx222_9, hx222_10, hx222_11, hx222_12, hx222_13, hl222_6, hi222_6, hl222_9, hi222_9, hl222_13, hi222_13⟩ := at_T136 HR0.out x5_1 p222 q222; obtain rfl : ad213 = ad222 := (by injection e222); have HR222_6 := Aside0.mk hi222_6; have HC222_6 := Aside0.mk hl222_6; clear hi222_6 hl222_6; have HR222_9 := Aside0.mk hi222_9; have HC222_9 := Aside0.mk hl222_9; clear hi222_9 hl222_9; have HR222_13 := Aside0.mk hi222_13; have HC222_13 := Aside0.mk hl222_13; clear hi222_13 hl222_13; replace p222 := eq_true p222; replace q222 := eq_true q222; have ea_ := Option.some.inj (hx213_6.symm.trans hx222_6); injection ea_ with ea_ en_ ec_; subst ea_; subst ec_; clear en_; have ea_ := Option.some.inj (hx213_9.symm.trans hx222_9); injection ea_ with ea_ en_ ec_; subst ea_; subst ec_; clear en_; have ea_ := Option.some.inj (hx213_13.symm.trans hx222_13); injection ea_ with ea_ en_ ec_; subst ea_; subst ec_; clear en_; have p223 : 0 ≤ (x5_1 : Int) := of_decide_eq_true as_; have q223 : x5_1 < (l0.length : Int) := of_decide_eq_true as_; obtain ⟨ad223, A223_6, c223_6, A223_9, c223_9, A223_13, c223_13, e223, hx223_0, hx223_1, hx223_2, hx223_3, hx223_4, hx223_5, hx223_6, hx223_7, hx223_8, hx223_9, hx223_10, hx223_11, hx223_12, hx223_13, hl223_6, hi223_6, hl223_9, hi223_9, hl223_13, hi223_13⟩ := at_T136 HR0.out x5_1 p223 q223; obtain rfl : ad213 = ad223 := (by injection e223); have HR223_6 := Aside0.mk hi223_6; have HC223_6 := Aside0.mk hl223_6; clear hi223_6 hl223_6; have HR223_9 := Aside0.mk hi223_9; have HC223_9 := Aside0.mk hl223_9; clear hi223_9 hl223_9; have HR223_13 := Aside0.mk hi223_13; have HC223_13 := Aside0.mk hl223_13; clear hi223_13 hl223_13; replace p223 := eq_true p223; replace q223 := eq_true q223; have ea_ := Option.some.inj (hx213_6.symm.trans hx223_6); injection ea_ with ea_ en_ ec_; subst ea_; subst ec_; clear en_; have ea_ := Option.some.inj (hx213_9.symm.trans hx223_9); injection ea_ with ea_ en_ ec_; subst ea_; subst ec_; clear en_; have ea_ := Option.some.inj (hx213_13.symm.trans hx223_13); injection ea_ with ea_ en_ ec_; subst ea_; subst ec_; clear en_) | ((with_reducible refine gate_callee (f := 145) rfl ?_); refine goe_ (some 107) Try.func145 #[.slice A213_9 ((rd_T136 l0 x5_1).f6.f2.f1).length c213_9, .int .i64 (wrap64 ((wrap64 (t220 + 1)) + 1))] ?_; (with_reducible refine (laws_heldInt64S.calls k1 _ _ ((rd_T136 l0 x5_1).f6.f2.f1) (wrap64 ((wrap64 (t220 + 1)) + 1)) t224 _ ?side1 ?side2 A15.out).mono ?_); (case side1 => exact kc_ HR223_9.out); (case side2 => exact HC223_9.out); rintro e w' ⟨rfl, ⟨nd, rfl⟩⟩; refine ⟨_, rfl, ?_⟩; have p225 : 0 ≤ (x5_1 : Int) := of_decide_eq_true as_; have q225 : x5_1 < (l0.length : Int) := of_decide_eq_true as_; obtain ⟨ad225, A225_6, c225_6, A225_9, c225_9, A225_13, c225_13, e225, hx225_0, hx225_1, hx225_2, hx225_3, hx225_4, hx225_5, hx225_6, hx225_7, hx225_8, hx225_9, hx225_10, hx225_11, hx225_12, hx225_13, hl225_6, hi225_6, hl225_9, hi225_9, hl225_13, hi225_13⟩ := at_T136 HR0.out x5_1 p225 q225; obtain rfl : ad213 = ad225 := (by injection e225); have HR225_6 := Aside0.mk hi225_6; have HC225_6 := Aside0.mk hl225_6; clear hi225_6 hl225_6; have HR225_9 := Aside0.mk hi225_9; have HC225_9 := Aside0.mk hl225_9; clear hi225_9 hl225_9; have HR225_13 := Aside0.mk hi225_13; have HC225_13 := Aside0.mk hl225_13; clear hi225_13 hl225_13; replace p225 := eq_true p225; replace q225 := eq_true q225; have ea_ := Option.some.inj (hx213_6.symm.trans hx225_6); injection ea_ with ea_ en_ ec_; subst ea_; subst ec_; clear en_; have ea_ := Option.some.inj (hx213_9.symm.trans hx225_9); injection ea_ with ea_ en_ ec_; subst ea_; subst ec_; clear en_; have ea_ := Option.some.inj (hx213_13.symm.trans hx225_13); injection ea_ with ea_ en_ ec_; subst ea_; subst ec_; clear en_; have p226 : 0 ≤ (x5_1 : Int) := of_decide_eq_true as_; have q226 : x5_1 < (l0.length : Int) := of_decide_eq_true as_; obtain ⟨ad226, A226_6, c226_6, A226_9, c226_9, A226_13, c226_13, e226, hx226_0, hx226_1, hx226_2, hx226_3, hx226_4, hx226_5, hx226_6, hx226_7, hx226_8, hx226_9, hx226_10, hx226_11, hx226_12, hx226_13, hl226_6, hi226_6, hl226_9, hi226_9, hl226_13, hi226_13⟩ := at_T136 HR0.out x5_1 p226 q226; obtain rfl : ad213 = ad226 := (by injection e226); have HR226_6 := Aside0.mk hi226_6; have HC226_6 := Aside0.mk hl226_6; clear hi226_6 hl226_6; have HR226_9 := Aside0.mk hi226_9; have HC226_9 := Aside0.mk hl226_9; clear hi226_9 hl226_9; have HR226_13 := Aside0.mk hi226_13; have HC226_13 := Aside0.mk hl226_13; clear hi226_13 hl226_13; replace p226 := eq_true p226; replace q226 := eq_true q226; have ea_ := Option.some.inj (hx213_6.symm.trans hx226_6); injection ea_ with ea_ en_ ec_; subst ea_; subst ec_; clear en_; have ea_ := Option.some.inj (hx213_9.symm.trans hx226_9); injection ea_ with ea_ en_ ec_; subst ea_; subst ec_; clear en_; have ea_ := Option.some.inj (hx213_13.symm.trans hx226_13); injection ea_ with ea_ en_ ec_; subst ea_; subst ec_; clear en_; have p227 : 0 ≤ (x5_1 : Int) := of_decide_eq_true as_; have q227 : x5_1 < (l0.length : Int) := of_decide_eq_true as_; obtain ⟨ad227, A227_6, c227_6, A227_9, c227_9, A227_13, c227_13, e227, hx227_0, hx227_1, hx227_2, hx227_3, hx227_4, hx227_5, hx227_6, hx227_7, hx227_8, hx227_9, hx227_10, hx227_11, hx227_12, hx227_13, hl227_6, hi227_6, hl227_9, hi227_9, hl227_13, hi227_13⟩ := at_T136 HR0.out x5_1 p227 q227; obtain rfl : ad213 = ad227 := (by injection e227); have HR227_6 := Aside0.mk hi227_6; have HC227_6 := Aside0.mk hl227_6; clear hi227_6 hl227_6; have HR227_9 := Aside0.mk hi227_9; have HC227_9 := Aside0.mk hl227_9; clear hi227_9 hl227_9; have HR227_13 := Aside0.mk hi227_13; have HC227_13 := Aside0.mk hl227_13; clear hi227_13 hl227_13; replace p227 := eq_true p227; replace q227 := eq_true q227; have ea_ := Option.some.inj (hx213_6.symm.trans hx227_6); injection ea_ with ea_ en_ ec_; subst ea_; subst ec_; clear en_; have ea_ := Option.some.inj (hx213_9.symm.trans hx227_9); injection ea_ with ea_ en_ ec_; subst ea_; subst ec_; clear en_; have ea_ := Option.some.inj (hx213_13.symm.trans hx227_13); injection ea_ with ea_ en_ ec_; subst ea_; subst ec_; clear en_; have p228 : 0 ≤ (x5_1 : Int) := of_decide_eq_true as_; have q228 : x5_1 < (l0.length : Int) := of_decide_eq_true as_; obtain ⟨ad228, A228_6, c228_6, A228_9, c228_9, A228_13, c228_13, e228, hx228_0, hx228_1, hx228_2, hx228_3, hx228_4, hx228_5, hx228_6, hx228_7, hx228_8, hx228_9, hx228_10, hx228_11, hx228_12, hx228_13, hl228_6, hi228_6, hl228_9, hi228_9, hl228_13, hi228_13⟩ := at_T136 HR0.out x5_1 p228 q228; obtain rfl : ad213 = ad228 := (by injection e228); have HR228_6 := Aside0.mk hi228_6; have HC228_6 := Aside0.mk hl228_6; clear hi228_6 hl228_6; have HR228_9 := Aside0.mk hi228_9; have HC228_9 := Aside0.mk hl228_9; clear hi228_9 hl228_9; have HR228_13 := Aside0.mk hi228_13; have HC228_13 := Aside0.mk hl228_13; clear hi228_13 hl228_13; replace p228 := eq_true p228; replace q228 := eq_true q228; have ea_ := Option.some.inj (hx213_6.symm.trans hx228_6); injection ea_ with ea_ en_ ec_; subst ea_; subst ec_; clear en_; have ea_ := Option.some.inj (hx213_9.symm.trans hx228_9); injection ea_ with ea_ en_ ec_; subst ea_; subst ec_; clear en_; have ea_ := Option.some.inj (hx213_13.symm.trans hx228_13); injection ea_ with ea_ en_ ec_; subst ea_; subst ec_; clear en_) | ((with_reducible refine gate_callee (f := 130) rfl ?_); refine goe_ (some 150) Try.func130 #[.slice A213_13 ((rd_T136 l0 x5_1).f6.f3).length c213_13, .int .i64 (wrap64 ((wrap64 ((wrap64 (t224 + 1)) + 1)) + 1))] ?_; (with_reducible refine (laws_heldPrefixS.calls k1 _ _ ((rd_T136 l0 x5_1).f6.f3) (wrap64 ((wrap64 ((wrap64 (t224 + 1)) + 1)) + 1)) t229 _ ?side1 ?side2 A20.out).mono ?_); (case side1 => exact kc_ HR228_13.out); (case side2 => exact HC228_13.out); rintro e w' ⟨rfl, ⟨nd, rfl⟩⟩; refine ⟨_, rfl, ?_⟩))
                                      go_ret
                                      exact ⟨sd_, by repeat (first | exact Drawn0.refl _ | apply Drawn0.step)⟩
                                    · rw [if_neg c21] at H
                                      have c21b0 : decide (t229 < 0) = false := decide_eq_false c21
                                      clear c21
                                      have H' := Aside0.mk H
                                      clear H
                                      have p213 : 0 ≤ (x5_1 : Int) := of_decide_eq_true as_
                                      have q213 : x5_1 < (l0.length : Int) := of_decide_eq_true as_
                                      obtain ⟨ad213, A213_6, c213_6, A213_9, c213_9, A213_13, c213_13, e213, hx213_0, hx213_1, hx213_2, hx213_3, hx213_4, hx213_5, hx213_6, hx213_7, hx213_8, hx213_9, hx213_10, hx213_11, hx213_12, hx213_13, hl213_6, hi213_6, hl213_9, hi213_9, hl213_13, hi213_13⟩ := at_T136 HR0.out x5_1 p213 q213
                                      cases e213
                                      have HR213_6 := Aside0.mk hi213_6
                                      have HC213_6 := Aside0.mk hl213_6
                                      clear hi213_6 hl213_6
                                      have HR213_9 := Aside0.mk hi213_9
                                      have HC213_9 := Aside0.mk hl213_9
                                      clear hi213_9 hl213_9
                                      have HR213_13 := Aside0.mk hi213_13
                                      have HC213_13 := Aside0.mk hl213_13
                                      clear hi213_13 hl213_13
                                      replace p213 := eq_true p213
                                      replace q213 := eq_true q213
                                      have p214 : 0 ≤ (x5_1 : Int) := of_decide_eq_true as_
                                      have q214 : x5_1 < (l0.length : Int) := of_decide_eq_true as_
                                      obtain ⟨ad214, A214_6, c214_6, A214_9, c214_9, A214_13, c214_13, e214, hx214_0, hx214_1, hx214_2, hx214_3, hx214_4, hx214_5, hx214_6, hx214_7, hx214_8, hx214_9, hx214_10, hx214_11, hx214_12, hx214_13, hl214_6, hi214_6, hl214_9, hi214_9, hl214_13, hi214_13⟩ := at_T136 HR0.out x5_1 p214 q214
                                      obtain rfl : ad213 = ad214 := (by injection e214)
                                      have HR214_6 := Aside0.mk hi214_6
                                      have HC214_6 := Aside0.mk hl214_6
                                      clear hi214_6 hl214_6
                                      have HR214_9 := Aside0.mk hi214_9
                                      have HC214_9 := Aside0.mk hl214_9
                                      clear hi214_9 hl214_9
                                      have HR214_13 := Aside0.mk hi214_13
                                      have HC214_13 := Aside0.mk hl214_13
                                      clear hi214_13 hl214_13
                                      replace p214 := eq_true p214
                                      replace q214 := eq_true q214
                                      have ea_ := Option.some.inj (hx213_6.symm.trans hx214_6)
                                      injection ea_ with ea_ en_ ec_
                                      subst ea_
                                      subst ec_
                                      clear en_
                                      have ea_ := Option.some.inj (hx213_9.symm.trans hx214_9)
                                      injection ea_ with ea_ en_ ec_
                                      subst ea_
                                      subst ec_
                                      clear en_
                                      have ea_ := Option.some.inj (hx213_13.symm.trans hx214_13)
                                      injection ea_ with ea_ en_ ec_
                                      subst ea_
                                      subst ec_
                                      clear en_
                                      have p215 : 0 ≤ (x5_1 : Int) := of_decide_eq_true as_
                                      have q215 : x5_1 < (l0.length : Int) := of_decide_eq_true as_
                                      obtain ⟨ad215, A215_6, c215_6, A215_9, c215_9, A215_13, c215_13, e215, hx215_0, hx215_1, hx215_2, hx215_3, hx215_4, hx215_5, hx215_6, hx215_7, hx215_8, hx215_9, hx215_10, hx215_11, hx215_12, hx215_13, hl215_6, hi215_6, hl215_9, hi215_9, hl215_13, hi215_13⟩ := at_T136 HR0.out x5_1 p215 q215
                                      obtain rfl : ad213 = ad215 := (by injection e215)
                                      have HR215_6 := Aside0.mk hi215_6
                                      have HC215_6 := Aside0.mk hl215_6
                                      clear hi215_6 hl215_6
                                      have HR215_9 := Aside0.mk hi215_9
                                      have HC215_9 := Aside0.mk hl215_9
                                      clear hi215_9 hl215_9
                                      have HR215_13 := Aside0.mk hi215_13
                                      have HC215_13 := Aside0.mk hl215_13
                                      clear hi215_13 hl215_13
                                      replace p215 := eq_true p215
                                      replace q215 := eq_true q215
                                      have ea_ := Option.some.inj (hx213_6.symm.trans hx215_6)
                                      injection ea_ with ea_ en_ ec_
                                      subst ea_
                                      subst ec_
                                      clear en_
                                      have ea_ := Option.some.inj (hx213_9.symm.trans hx215_9)
                                      injection ea_ with ea_ en_ ec_
                                      subst ea_
                                      subst ec_
                                      clear en_
                                      have ea_ := Option.some.inj (hx213_13.symm.trans hx215_13)
                                      injection ea_ with ea_ en_ ec_
                                      subst ea_
                                      subst ec_
                                      clear en_
                                      have p216 : 0 ≤ (x5_1 : Int) := of_decide_eq_true as_
                                      have q216 : x5_1 < (l0.length : Int) := of_decide_eq_true as_
                                      obtain ⟨ad216, A216_6, c216_6, A216_9, c216_9, A216_13, c216_13, e216, hx216_0, hx216_1, hx216_2, hx216_3, hx216_4, hx216_5, hx216_6, hx216_7, hx216_8, hx216_9, hx216_10, hx216_11, hx216_12, hx216_13, hl216_6, hi216_6, hl216_9, hi216_9, hl216_13, hi216_13⟩ := at_T136 HR0.out x5_1 p216 q216
                                      obtain rfl : ad213 = ad216 := (by injection e216)
                                      have HR216_6 := Aside0.mk hi216_6
                                      have HC216_6 := Aside0.mk hl216_6
                                      clear hi216_6 hl216_6
                                      have HR216_9 := Aside0.mk hi216_9
                                      have HC216_9 := Aside0.mk hl216_9
                                      clear hi216_9 hl216_9
                                      have HR216_13 := Aside0.mk hi216_13
                                      have HC216_13 := Aside0.mk hl216_13
                                      clear hi216_13 hl216_13
                                      replace p216 := eq_true p216
                                      replace q216 := eq_true q216
                                      have ea_ := Option.some.inj (hx213_6.symm.trans hx216_6)
                                      injection ea_ with ea_ en_ ec_
                                      subst ea_
                                      subst ec_
                                      clear en_
                                      have ea_ := Option.some.inj (hx213_9.symm.trans hx216_9)
                                      injection ea_ with ea_ en_ ec_
                                      subst ea_
                                      subst ec_
                                      clear en_
                                      have ea_ := Option.some.inj (hx213_13.symm.trans hx216_13)
                                      injection ea_ with ea_ en_ ec_
                                      subst ea_
                                      subst ec_
                                      clear en_
                                      have p217 : 0 ≤ (x5_1 : Int) := of_decide_eq_true as_
                                      have q217 : x5_1 < (l0.length : Int) := of_decide_eq_true as_
                                      obtain ⟨ad217, A217_6, c217_6, A217_9, c217_9, A217_13, c217_13, e217, hx217_0, hx217_1, hx217_2, hx217_3, hx217_4, hx217_5, hx217_6, hx217_7, hx217_8, hx217_9, hx217_10, hx217_11, hx217_12, hx217_13, hl217_6, hi217_6, hl217_9, hi217_9, hl217_13, hi217_13⟩ := at_T136 HR0.out x5_1 p217 q217
                                      obtain rfl : ad213 = ad217 := (by injection e217)
                                      have HR217_6 := Aside0.mk hi217_6
                                      have HC217_6 := Aside0.mk hl217_6
                                      clear hi217_6 hl217_6
                                      have HR217_9 := Aside0.mk hi217_9
                                      have HC217_9 := Aside0.mk hl217_9
                                      clear hi217_9 hl217_9
                                      have HR217_13 := Aside0.mk hi217_13
                                      have HC217_13 := Aside0.mk hl217_13
                                      clear hi217_13 hl217_13
                                      replace p217 := eq_true p217
                                      replace q217 := eq_true q217
                                      have ea_ := Option.some.inj (hx213_6.symm.trans hx217_6)
                                      injection ea_ with ea_ en_ ec_
                                      subst ea_
                                      subst ec_
                                      clear en_
                                      have ea_ := Option.some.inj (hx213_9.symm.trans hx217_9)
                                      injection ea_ with ea_ en_ ec_
                                      subst ea_
                                      subst ec_
                                      clear en_
                                      have ea_ := Option.some.inj (hx213_13.symm.trans hx217_13)
                                      injection ea_ with ea_ en_ ec_
                                      subst ea_
                                      subst ec_
                                      clear en_
                                      have p218 : 0 ≤ (x5_1 : Int) := of_decide_eq_true as_
                                      have q218 : x5_1 < (l0.length : Int) := of_decide_eq_true as_
                                      obtain ⟨ad218, A218_6, c218_6, A218_9, c218_9, A218_13, c218_13, e218, hx218_0, hx218_1, hx218_2, hx218_3, hx218_4, hx218_5, hx218_6, hx218_7, hx218_8, hx218_9, hx218_10, hx218_11, hx218_12, hx218_13, hl218_6, hi218_6, hl218_9, hi218_9, hl218_13, hi218_13⟩ := at_T136 HR0.out x5_1 p218 q218
                                      obtain rfl : ad213 = ad218 := (by injection e218)
                                      have HR218_6 := Aside0.mk hi218_6
                                      have HC218_6 := Aside0.mk hl218_6
                                      clear hi218_6 hl218_6
                                      have HR218_9 := Aside0.mk hi218_9
                                      have HC218_9 := Aside0.mk hl218_9
                                      clear hi218_9 hl218_9
                                      have HR218_13 := Aside0.mk hi218_13
                                      have HC218_13 := Aside0.mk hl218_13
                                      clear hi218_13 hl218_13
                                      replace p218 := eq_true p218
                                      replace q218 := eq_true q218
                                      have ea_ := Option.some.inj (hx213_6.symm.trans hx218_6)
                                      injection ea_ with ea_ en_ ec_
                                      subst ea_
                                      subst ec_
                                      clear en_
                                      have ea_ := Option.some.inj (hx213_9.symm.trans hx218_9)
                                      injection ea_ with ea_ en_ ec_
                                      subst ea_
                                      subst ec_
                                      clear en_
                                      have ea_ := Option.some.inj (hx213_13.symm.trans hx218_13)
                                      injection ea_ with ea_ en_ ec_
                                      subst ea_
                                      subst ec_
                                      clear en_
                                      have p219 : 0 ≤ (x5_1 : Int) := of_decide_eq_true as_
                                      have q219 : x5_1 < (l0.length : Int) := of_decide_eq_true as_
                                      obtain ⟨ad219, A219_6, c219_6, A219_9, c219_9, A219_13, c219_13, e219, hx219_0, hx219_1, hx219_2, hx219_3, hx219_4, hx219_5, hx219_6, hx219_7, hx219_8, hx219_9, hx219_10, hx219_11, hx219_12, hx219_13, hl219_6, hi219_6, hl219_9, hi219_9, hl219_13, hi219_13⟩ := at_T136 HR0.out x5_1 p219 q219
                                      obtain rfl : ad213 = ad219 := (by injection e219)
                                      have HR219_6 := Aside0.mk hi219_6
                                      have HC219_6 := Aside0.mk hl219_6
                                      clear hi219_6 hl219_6
                                      have HR219_9 := Aside0.mk hi219_9
                                      have HC219_9 := Aside0.mk hl219_9
                                      clear hi219_9 hl219_9
                                      have HR219_13 := Aside0.mk hi219_13
                                      have HC219_13 := Aside0.mk hl219_13
                                      clear hi219_13 hl219_13
                                      replace p219 := eq_true p219
                                      replace q219 := eq_true q219
                                      have ea_ := Option.some.inj (hx213_6.symm.trans hx219_6)
                                      injection ea_ with ea_ en_ ec_
                                      subst ea_
                                      subst ec_
                                      clear en_
                                      have ea_ := Option.some.inj (hx213_9.symm.trans hx219_9)
                                      injection ea_ with ea_ en_ ec_
                                      subst ea_
                                      subst ec_
                                      clear en_
                                      have ea_ := Option.some.inj (hx213_13.symm.trans hx219_13)
                                      injection ea_ with ea_ en_ ec_
                                      subst ea_
                                      subst ec_
                                      clear en_
                                      go_wp2_with (first | ((with_reducible refine gate_callee (f := 130) rfl ?_); refine goe_ (some 73) Try.func130 #[.slice A213_6 ((rd_T136 l0 x5_1).f6.f0).length c213_6, .int .i64 (wrap64 ((wrap64 ((wrap64 ((wrap64 ((wrap64 ((wrap64 (x1_1 + 1)) + 1)) + 1)) + 1)) + 1)) + 1))] ?_; (with_reducible refine (laws_heldPrefixS.calls k1 _ _ ((rd_T136 l0 x5_1).f6.f0) (wrap64 ((wrap64 ((wrap64 ((wrap64 ((wrap64 ((wrap64 (x1_1 + 1)) + 1)) + 1)) + 1)) + 1)) + 1)) t220 _ ?side1 ?side2 A11.out).mono ?_); (case side1 => exact kc_ HR219_6.out); (case side2 => exact HC219_6.out); rintro e w' ⟨rfl, ⟨nd, rfl⟩⟩; refine ⟨_, rfl, ?_⟩; have p221 : 0 ≤ (x5_1 : Int) := of_decide_eq_true as_; have q221 : x5_1 < (l0.length : Int) := of_decide_eq_true as_; obtain ⟨ad221, A221_6, c221_6, A221_9, c221_9, A221_13, c221_13, e221, hx221_0, hx221_1, hx221_2, hx221_3, hx221_4, hx221_5, hx221_6, hx221_7, hx221_8, hx221_9, hx221_10, hx221_11, hx221_12, hx221_13, hl221_6, hi221_6, hl221_9, hi221_9, hl221_13, hi221_13⟩ := at_T136 HR0.out x5_1 p221 q221; obtain rfl : ad213 = ad221 := (by injection e221); have HR221_6 := Aside0.mk hi221_6; have HC221_6 := Aside0.mk hl221_6; clear hi221_6 hl221_6; have HR221_9 := Aside0.mk hi221_9; have HC221_9 := Aside0.mk hl221_9; clear hi221_9 hl221_9; have HR221_13 := Aside0.mk hi221_13; have HC221_13 := Aside0.mk hl221_13; clear hi221_13 hl221_13; replace p221 := eq_true p221; replace q221 := eq_true q221; have ea_ := Option.some.inj (hx213_6.symm.trans hx221_6); injection ea_ with ea_ en_ ec_; subst ea_; subst ec_; clear en_; have ea_ := Option.some.inj (hx213_9.symm.trans hx221_9); injection ea_ with ea_ en_ ec_; subst ea_; subst ec_; clear en_; have ea_ := Option.some.inj (hx213_13.symm.trans hx221_13); injection ea_ with ea_ en_ ec_; subst ea_; subst ec_; clear en_; have p222 : 0 ≤ (x5_1 : Int) := of_decide_eq_true as_; have q222 : x5_1 < (l0.length : Int) := of_decide_eq_true as_; obtain ⟨ad222, A222_6, c222_6, A222_9, c222_9, A222_13, c222_13, e222, hx222_0, hx222_1, hx222_2, hx222_3, hx222_4, hx222_5, hx222_6, hx222_7, hx222_8, hx222_9, hx222_10, hx222_11, hx222_12, hx222_13, hl222_6, hi222_6, hl222_9, hi222_9, hl222_13, hi222_13⟩ := at_T136 HR0.out x5_1 p222 q222; obtain rfl : ad213 = ad222 := (by injection e222); have HR222_6 := Aside0.mk hi222_6; have HC222_6 := Aside0.mk hl222_6; clear hi222_6 hl222_6; have HR222_9 := Aside0.mk hi222_9; have HC222_9 := Aside0.mk hl222_9; clear hi222_9 hl222_9; have HR222_13 := Aside0.mk hi222_13; have HC222_13 := Aside0.mk hl222_13; clear hi222_13 hl222_13; replace p222 := eq_true p222; replace q222 := eq_true q222; have ea_ := Option.some.inj (hx213_6.symm.trans hx222_6); injection ea_ with ea_ en_ ec_; subst ea_; subst ec_; clear en_; have ea_ := Option.some.inj (hx213_9.symm.trans hx222_9); injection ea_ with ea_ en_ ec_; subst ea_; subst ec_; clear en_; have ea_ := Option.some.inj (hx213_13.symm.trans hx222_13); injection ea_ with ea_ en_ ec_; subst ea_; subst ec_; clear en_; have p223 : 0 ≤ (x5_1 : Int) := of_decide_eq_true as_; have q223 : x5_1 < (l0.length : Int) := of_decide_eq_true as_; obtain ⟨ad223, A223_6, c223_6, A223_9, c223_9, A223_13, c223_13, e223, hx223_0, hx223_1, hx223_2, hx223_3, hx223_4, hx223_5, hx223_6, hx223_7, hx223_8, hx223_9, hx223_10, hx223_11, hx223_12, hx223_13, hl223_6, hi223_6, hl223_9, hi223_9, hl223_13, hi223_13⟩ := at_T136 HR0.out x5_1 p223 q223; obtain rfl : ad213 = ad223 := (by injection e223); have HR223_6 := Aside0.mk hi223_6; have HC223_6 := Aside0.mk hl223_6; clear hi223_6 hl223_6; have HR223_9 := Aside0.mk hi223_9; have HC223_9 := Aside0.mk hl223_9; clear hi223_9 hl223_9; have HR223_13 := Aside0.mk hi223_13; have HC223_13 := Aside0.mk hl223_13; clear hi223_13 hl223_13; replace p223 := eq_true p223; replace q223 := eq_true q223; have ea_ := Option.some.inj (hx213_6.symm.trans hx223_6); injection ea_ with ea_ en_ ec_; subst ea_; subst ec_; clear en_; have ea_ := Option.some.inj (hx213_9.symm.trans hx223_9); injection ea_ with ea_ en_ ec_; subst ea_; subst ec_; clear en_; have ea_ := Option.some.inj (hx213_13.symm.trans hx223_13); injection ea_ with ea_ en_ ec_; subst ea_; subst ec_; clear en_) | ((with_reducible refine gate_callee (f := 145) rfl ?_); refine goe_ (some 107) Try.func145 #[.slice A213_9 ((rd_T136 l0 x5_1).f6.f2.f1).length c213_9, .int .i64 (wrap64 ((wrap64 (t220 + 1)) + 1))] ?_; (with_reducible refine (laws_heldInt64S.calls k1 _ _ ((rd_T136 l0 x5_1).f6.f2.f1) (wrap64 ((wrap64 (t220 + 1)) + 1)) t224 _ ?side1 ?side2 A15.out).mono ?_); (case side1 => exact kc_ HR223_9.out); (case side2 => exact HC223_9.out); rintro e w' ⟨rfl, ⟨nd, rfl⟩⟩; refine ⟨_, rfl, ?_⟩; have p225 : 0 ≤ (x5_1 : Int) := of_decide_eq_true as_; have q225 : x5_1 < (l0.length : Int) := of_decide_eq_true as_; obtain ⟨ad225, A225_6, c225_6, A225_9, c225_9, A225_13, c225_13, e225, hx225_0, hx225_1, hx225_2, hx225_3, hx225_4, hx225_5, hx225_6, hx225_7, hx225_8, hx225_9, hx225_10, hx225_11, hx225_12, hx225_13, hl225_6, hi225_6, hl225_9, hi225_9, hl225_13, hi225_13⟩ := at_T136 HR0.out x5_1 p225 q225; obtain rfl : ad213 = ad225 := (by injection e225); have HR225_6 := Aside0.mk hi225_6; have HC225_6 := Aside0.mk hl225_6; clear hi225_6 hl225_6; have HR225_9 := Aside0.mk hi225_9; have HC225_9 := Aside0.mk hl225_9; clear hi225_9 hl225_9; have HR225_13 := Aside0.mk hi225_13; have HC225_13 := Aside0.mk hl225_13; clear hi225_13 hl225_13; replace p225 := eq_true p225; replace q225 := eq_true q225; have ea_ := Option.some.inj (hx213_6.symm.trans hx225_6); injection ea_ with ea_ en_ ec_; subst ea_; subst ec_; clear en_; have ea_ := Option.some.inj (hx213_9.symm.trans hx225_9); injection ea_ with ea_ en_ ec_; subst ea_; subst ec_; clear en_; have ea_ := Option.some.inj (hx213_13.symm.trans hx225_13); injection ea_ with ea_ en_ ec_; subst ea_; subst ec_; clear en_; have p226 : 0 ≤ (x5_1 : Int) := of_decide_eq_true as_; have q226 : x5_1 < (l0.length : Int) := of_decide_eq_true as_; obtain ⟨ad226, A226_6, c226_6, A226_9, c226_9, A226_13, c226_13, e226, hx226_0, hx226_1, hx226_2, hx226_3, hx226_4, hx226_5, hx226_6, hx226_7, hx226_8, hx226_9, hx226_10, hx226_11, hx226_12, hx226_13, hl226_6, hi226_6, hl226_9, hi226_9, hl226_13, hi226_13⟩ := at_T136 HR0.out x5_1 p226 q226; obtain rfl : ad213 = ad226 := (by injection e226); have HR226_6 := Aside0.mk hi226_6; have HC226_6 := Aside0.mk hl226_6; clear hi226_6 hl226_6; have HR226_9 := Aside0.mk hi226_9; have HC226_9 := Aside0.mk hl226_9; clear hi226_9 hl226_9; have HR226_13 := Aside0.mk hi226_13; have HC226_13 := Aside0.mk hl226_13; clear hi226_13 hl226_13; replace p226 := eq_true p226; replace q226 := eq_true q226; have ea_ := Option.some.inj (hx213_6.symm.trans hx226_6); injection ea_ with ea_ en_ ec_; subst ea_; subst ec_; clear en_; have ea_ := Option.some.inj (hx213_9.symm.trans hx226_9); injection ea_ with ea_ en_ ec_; subst ea_; subst ec_; clear en_; have ea_ := Option.some.inj (hx213_13.symm.trans hx226_13); injection ea_ with ea_ en_ ec_; subst ea_; subst ec_; clear en_; have p227 : 0 ≤ (x5_1 : Int) := of_decide_eq_true as_; have q227 : x5_1 < (l0.length : Int) := of_decide_eq_true as_; obtain ⟨ad227, A227_6, c227_6, A227_9, c227_9, A227_13, c227_13, e227, hx227_0, hx227_1, hx227_2, hx227_3, hx227_4, hx227_5, hx227_6, hx227_7, hx227_8, hx227_9, hx227_10, hx227_11, hx227_12, hx227_13, hl227_6, hi227_6, hl227_9, hi227_9, hl227_13, hi227_13⟩ := at_T136 HR0.out x5_1 p227 q227; obtain rfl : ad213 = ad227 := (by injection e227); have HR227_6 := Aside0.mk hi227_6; have HC227_6 := Aside0.mk hl227_6; clear hi227_6 hl227_6; have HR227_9 := Aside0.mk hi227_9; have HC227_9 := Aside0.mk hl227_9; clear hi227_9 hl227_9; have HR227_13 := Aside0.mk hi227_13; have HC227_13 := Aside0.mk hl227_13; clear hi227_13 hl227_13; replace p227 := eq_true p227; replace q227 := eq_true q227; have ea_ := Option.some.inj (hx213_6.symm.trans hx227_6); injection ea_ with ea_ en_ ec_; subst ea_; subst ec_; clear en_; have ea_ := Option.some.inj (hx213_9.symm.trans hx227_9); injection ea_ with ea_ en_ ec_; subst ea_; subst ec_; clear en_; have ea_ := Option.some.inj (hx213_13.symm.trans hx227_13); injection ea_ with ea_ en_ ec_; subst ea_; subst ec_; clear en_; have p228 : 0 ≤ (x5_1 : Int) := of_decide_eq_true as_; have q228 : x5_1 < (l0.length : Int) := of_decide_eq_true as_; obtain ⟨ad228, A228_6, c228_6, A228_9, c228_9, A228_13, c228_13, e228, hx228_0, hx228_1, hx228_2, hx228_3, hx228_4, hx228_5, hx228_6, hx228_7, hx228_8, hx228_9, hx228_10, hx228_11, hx228_12, hx228_13, hl228_6, hi228_6, hl228_9, hi228_9, hl228_13, hi228_13⟩ := at_T136 HR0.out x5_1 p228 q228; obtain rfl : ad213 = ad228 := (by injection e228); have HR228_6 := Aside0.mk hi228_6; have HC228_6 := Aside0.mk hl228_6; clear hi228_6 hl228_6; have HR228_9 := Aside0.mk hi228_9; have HC228_9 := Aside0.mk hl228_9; clear hi228_9 hl228_9; have HR228_13 := Aside0.mk hi228_13; have HC228_13 := Aside0.mk hl228_13; clear hi228_13 hl228_13; replace p228 := eq_true p228; replace q228 := eq_true q228; have ea_ := Option.some.inj (hx213_6.symm.trans hx228_6); injection ea_ with ea_ en_ ec_; subst ea_; subst ec_; clear en_; have ea_ := Option.some.inj (hx213_9.symm.trans hx228_9); injection ea_ with ea_ en_ ec_; subst ea_; subst ec_; clear en_; have ea_ := Option.some.inj (hx213_13.symm.trans hx228_13); injection ea_ with ea_ en_ ec_; subst ea_; subst ec_; clear en_) | ((with_reducible refine gate_callee (f := 130) rfl ?_); refine goe_ (some 150) Try.func130 #[.slice A213_13 ((rd_T136 l0 x5_1).f6.f3).length c213_13, .int .i64 (wrap64 ((wrap64 ((wrap64 (t224 + 1)) + 1)) + 1))] ?_; (with_reducible refine (laws_heldPrefixS.calls k1 _ _ ((rd_T136 l0 x5_1).f6.f3) (wrap64 ((wrap64 ((wrap64 (t224 + 1)) + 1)) + 1)) t229 _ ?side1 ?side2 A20.out).mono ?_); (case side1 => exact kc_ HR228_13.out); (case side2 => exact HC228_13.out); rintro e w' ⟨rfl, ⟨nd, rfl⟩⟩; refine ⟨_, rfl, ?_⟩))
                                      go_roundg k1
                                      case measure => have := HK1.out; omega
                                      case rel => exact ⟨(t229), (wrap64 (x5_1 + 1)), sd_, sd_, H', ⟨by have := HK1.out; omega⟩, by repeat (first | exact Drawn0.refl _ | apply Drawn0.step)⟩
                                  · rw [if_neg c19] at H
                                    have c19b0 : (((rd_T136 l0 x5_1).f6.f2.f4) == (wrap64 ((wrap64 (t224 + 1)) + 1))) = false := beq_eq_false_iff_ne.mpr c19
                                    have c19b1 : (((rd_T136 l0 x5_1).f6.f2.f4) != (wrap64 ((wrap64 (t224 + 1)) + 1))) = true := bne_iff_ne.mpr c19
                                    obtain rfl := Option.some.inj H
                                    have p213 : 0 ≤ (x5_1 : Int) := of_decide_eq_true as_
                                    have q213 : x5_1 < (l0.length : Int) := of_decide_eq_true as_
                                    obtain ⟨ad213, A213_6, c213_6, A213_9, c213_9, A213_13, c213_13, e213, hx213_0, hx213_1, hx213_2, hx213_3, hx213_4, hx213_5, hx213_6, hx213_7, hx213_8, hx213_9, hx213_10, hx213_11, hx213_12, hx213_13, hl213_6, hi213_6, hl213_9, hi213_9, hl213_13, hi213_13⟩ := at_T136 HR0.out x5_1 p213 q213
                                    cases e213
                                    have HR213_6 := Aside0.mk hi213_6
                                    have HC213_6 := Aside0.mk hl213_6
                                    clear hi213_6 hl213_6
                                    have HR213_9 := Aside0.mk hi213_9
                                    have HC213_9 := Aside0.mk hl213_9
                                    clear hi213_9 hl213_9
                                    have HR213_13 := Aside0.mk hi213_13
                                    have HC213_13 := Aside0.mk hl213_13
                                    clear hi213_13 hl213_13
                                    replace p213 := eq_true p213
                                    replace q213 := eq_true q213
                                    have p214 : 0 ≤ (x5_1 : Int) := of_decide_eq_true as_
                                    have q214 : x5_1 < (l0.length : Int) := of_decide_eq_true as_
                                    obtain ⟨ad214, A214_6, c214_6, A214_9, c214_9, A214_13, c214_13, e214, hx214_0, hx214_1, hx214_2, hx214_3, hx214_4, hx214_5, hx214_6, hx214_7, hx214_8, hx214_9, hx214_10, hx214_11, hx214_12, hx214_13, hl214_6, hi214_6, hl214_9, hi214_9, hl214_13, hi214_13⟩ := at_T136 HR0.out x5_1 p214 q214
                                    obtain rfl : ad213 = ad214 := (by injection e214)
                                    have HR214_6 := Aside0.mk hi214_6
                                    have HC214_6 := Aside0.mk hl214_6
                                    clear hi214_6 hl214_6
                                    have HR214_9 := Aside0.mk hi214_9
                                    have HC214_9 := Aside0.mk hl214_9
                                    clear hi214_9 hl214_9
                                    have HR214_13 := Aside0.mk hi214_13
                                    have HC214_13 := Aside0.mk hl214_13
                                    clear hi214_13 hl214_13
                                    replace p214 := eq_true p214
                                    replace q214 := eq_true q214
                                    have ea_ := Option.some.inj (hx213_6.symm.trans hx214_6)
                                    injection ea_ with ea_ en_ ec_
                                    subst ea_
                                    subst ec_
                                    clear en_
                                    have ea_ := Option.some.inj (hx213_9.symm.trans hx214_9)
                                    injection ea_ with ea_ en_ ec_
                                    subst ea_
                                    subst ec_
                                    clear en_
                                    have ea_ := Option.some.inj (hx213_13.symm.trans hx214_13)
                                    injection ea_ with ea_ en_ ec_
                                    subst ea_
                                    subst ec_
                                    clear en_
                                    have p215 : 0 ≤ (x5_1 : Int) := of_decide_eq_true as_
                                    have q215 : x5_1 < (l0.length : Int) := of_decide_eq_true as_
                                    obtain ⟨ad215, A215_6, c215_6, A215_9, c215_9, A215_13, c215_13, e215, hx215_0, hx215_1, hx215_2, hx215_3, hx215_4, hx215_5, hx215_6, hx215_7, hx215_8, hx215_9, hx215_10, hx215_11, hx215_12, hx215_13, hl215_6, hi215_6, hl215_9, hi215_9, hl215_13, hi215_13⟩ := at_T136 HR0.out x5_1 p215 q215
                                    obtain rfl : ad213 = ad215 := (by injection e215)
                                    have HR215_6 := Aside0.mk hi215_6
                                    have HC215_6 := Aside0.mk hl215_6
                                    clear hi215_6 hl215_6
                                    have HR215_9 := Aside0.mk hi215_9
                                    have HC215_9 := Aside0.mk hl215_9
                                    clear hi215_9 hl215_9
                                    have HR215_13 := Aside0.mk hi215_13
                                    have HC215_13 := Aside0.mk hl215_13
                                    clear hi215_13 hl215_13
                                    replace p215 := eq_true p215
                                    replace q215 := eq_true q215
                                    have ea_ := Option.some.inj (hx213_6.symm.trans hx215_6)
                                    injection ea_ with ea_ en_ ec_
                                    subst ea_
                                    subst ec_
                                    clear en_
                                    have ea_ := Option.some.inj (hx213_9.symm.trans hx215_9)
                                    injection ea_ with ea_ en_ ec_
                                    subst ea_
                                    subst ec_
                                    clear en_
                                    have ea_ := Option.some.inj (hx213_13.symm.trans hx215_13)
                                    injection ea_ with ea_ en_ ec_
                                    subst ea_
                                    subst ec_
                                    clear en_
                                    have p216 : 0 ≤ (x5_1 : Int) := of_decide_eq_true as_
                                    have q216 : x5_1 < (l0.length : Int) := of_decide_eq_true as_
                                    obtain ⟨ad216, A216_6, c216_6, A216_9, c216_9, A216_13, c216_13, e216, hx216_0, hx216_1, hx216_2, hx216_3, hx216_4, hx216_5, hx216_6, hx216_7, hx216_8, hx216_9, hx216_10, hx216_11, hx216_12, hx216_13, hl216_6, hi216_6, hl216_9, hi216_9, hl216_13, hi216_13⟩ := at_T136 HR0.out x5_1 p216 q216
                                    obtain rfl : ad213 = ad216 := (by injection e216)
                                    have HR216_6 := Aside0.mk hi216_6
                                    have HC216_6 := Aside0.mk hl216_6
                                    clear hi216_6 hl216_6
                                    have HR216_9 := Aside0.mk hi216_9
                                    have HC216_9 := Aside0.mk hl216_9
                                    clear hi216_9 hl216_9
                                    have HR216_13 := Aside0.mk hi216_13
                                    have HC216_13 := Aside0.mk hl216_13
                                    clear hi216_13 hl216_13
                                    replace p216 := eq_true p216
                                    replace q216 := eq_true q216
                                    have ea_ := Option.some.inj (hx213_6.symm.trans hx216_6)
                                    injection ea_ with ea_ en_ ec_
                                    subst ea_
                                    subst ec_
                                    clear en_
                                    have ea_ := Option.some.inj (hx213_9.symm.trans hx216_9)
                                    injection ea_ with ea_ en_ ec_
                                    subst ea_
                                    subst ec_
                                    clear en_
                                    have ea_ := Option.some.inj (hx213_13.symm.trans hx216_13)
                                    injection ea_ with ea_ en_ ec_
                                    subst ea_
                                    subst ec_
                                    clear en_
                                    have p217 : 0 ≤ (x5_1 : Int) := of_decide_eq_true as_
                                    have q217 : x5_1 < (l0.length : Int) := of_decide_eq_true as_
                                    obtain ⟨ad217, A217_6, c217_6, A217_9, c217_9, A217_13, c217_13, e217, hx217_0, hx217_1, hx217_2, hx217_3, hx217_4, hx217_5, hx217_6, hx217_7, hx217_8, hx217_9, hx217_10, hx217_11, hx217_12, hx217_13, hl217_6, hi217_6, hl217_9, hi217_9, hl217_13, hi217_13⟩ := at_T136 HR0.out x5_1 p217 q217
                                    obtain rfl : ad213 = ad217 := (by injection e217)
                                    have HR217_6 := Aside0.mk hi217_6
                                    have HC217_6 := Aside0.mk hl217_6
                                    clear hi217_6 hl217_6
                                    have HR217_9 := Aside0.mk hi217_9
                                    have HC217_9 := Aside0.mk hl217_9
                                    clear hi217_9 hl217_9
                                    have HR217_13 := Aside0.mk hi217_13
                                    have HC217_13 := Aside0.mk hl217_13
                                    clear hi217_13 hl217_13
                                    replace p217 := eq_true p217
                                    replace q217 := eq_true q217
                                    have ea_ := Option.some.inj (hx213_6.symm.trans hx217_6)
                                    injection ea_ with ea_ en_ ec_
                                    subst ea_
                                    subst ec_
                                    clear en_
                                    have ea_ := Option.some.inj (hx213_9.symm.trans hx217_9)
                                    injection ea_ with ea_ en_ ec_
                                    subst ea_
                                    subst ec_
                                    clear en_
                                    have ea_ := Option.some.inj (hx213_13.symm.trans hx217_13)
                                    injection ea_ with ea_ en_ ec_
                                    subst ea_
                                    subst ec_
                                    clear en_
                                    have p218 : 0 ≤ (x5_1 : Int) := of_decide_eq_true as_
                                    have q218 : x5_1 < (l0.length : Int) := of_decide_eq_true as_
                                    obtain ⟨ad218, A218_6, c218_6, A218_9, c218_9, A218_13, c218_13, e218, hx218_0, hx218_1, hx218_2, hx218_3, hx218_4, hx218_5, hx218_6, hx218_7, hx218_8, hx218_9, hx218_10, hx218_11, hx218_12, hx218_13, hl218_6, hi218_6, hl218_9, hi218_9, hl218_13, hi218_13⟩ := at_T136 HR0.out x5_1 p218 q218
                                    obtain rfl : ad213 = ad218 := (by injection e218)
                                    have HR218_6 := Aside0.mk hi218_6
                                    have HC218_6 := Aside0.mk hl218_6
                                    clear hi218_6 hl218_6
                                    have HR218_9 := Aside0.mk hi218_9
                                    have HC218_9 := Aside0.mk hl218_9
                                    clear hi218_9 hl218_9
                                    have HR218_13 := Aside0.mk hi218_13
                                    have HC218_13 := Aside0.mk hl218_13
                                    clear hi218_13 hl218_13
                                    replace p218 := eq_true p218
                                    replace q218 := eq_true q218
                                    have ea_ := Option.some.inj (hx213_6.symm.trans hx218_6)
                                    injection ea_ with ea_ en_ ec_
                                    subst ea_
                                    subst ec_
                                    clear en_
                                    have ea_ := Option.some.inj (hx213_9.symm.trans hx218_9)
                                    injection ea_ with ea_ en_ ec_
                                    subst ea_
                                    subst ec_
                                    clear en_
                                    have ea_ := Option.some.inj (hx213_13.symm.trans hx218_13)
                                    injection ea_ with ea_ en_ ec_
                                    subst ea_
                                    subst ec_
                                    clear en_
                                    have p219 : 0 ≤ (x5_1 : Int) := of_decide_eq_true as_
                                    have q219 : x5_1 < (l0.length : Int) := of_decide_eq_true as_
                                    obtain ⟨ad219, A219_6, c219_6, A219_9, c219_9, A219_13, c219_13, e219, hx219_0, hx219_1, hx219_2, hx219_3, hx219_4, hx219_5, hx219_6, hx219_7, hx219_8, hx219_9, hx219_10, hx219_11, hx219_12, hx219_13, hl219_6, hi219_6, hl219_9, hi219_9, hl219_13, hi219_13⟩ := at_T136 HR0.out x5_1 p219 q219
                                    obtain rfl : ad213 = ad219 := (by injection e219)
                                    have HR219_6 := Aside0.mk hi219_6
                                    have HC219_6 := Aside0.mk hl219_6
                                    clear hi219_6 hl219_6
                                    have HR219_9 := Aside0.mk hi219_9
                                    have HC219_9 := Aside0.mk hl219_9
                                    clear hi219_9 hl219_9
                                    have HR219_13 := Aside0.mk hi219_13
                                    have HC219_13 := Aside0.mk hl219_13
                                    clear hi219_13 hl219_13
                                    replace p219 := eq_true p219
                                    replace q219 := eq_true q219
                                    have ea_ := Option.some.inj (hx213_6.symm.trans hx219_6)
                                    injection ea_ with ea_ en_ ec_
                                    subst ea_
                                    subst ec_
                                    clear en_
                                    have ea_ := Option.some.inj (hx213_9.symm.trans hx219_9)
                                    injection ea_ with ea_ en_ ec_
                                    subst ea_
                                    subst ec_
                                    clear en_
                                    have ea_ := Option.some.inj (hx213_13.symm.trans hx219_13)
                                    injection ea_ with ea_ en_ ec_
                                    subst ea_
                                    subst ec_
                                    clear en_
                                    go_wp2_with (first | ((with_reducible refine gate_callee (f := 130) rfl ?_); refine goe_ (some 73) Try.func130 #[.slice A213_6 ((rd_T136 l0 x5_1).f6.f0).length c213_6, .int .i64 (wrap64 ((wrap64 ((wrap64 ((wrap64 ((wrap64 ((wrap64 (x1_1 + 1)) + 1)) + 1)) + 1)) + 1)) + 1))] ?_; (with_reducible refine (laws_heldPrefixS.calls k1 _ _ ((rd_T136 l0 x5_1).f6.f0) (wrap64 ((wrap64 ((wrap64 ((wrap64 ((wrap64 ((wrap64 (x1_1 + 1)) + 1)) + 1)) + 1)) + 1)) + 1)) t220 _ ?side1 ?side2 A11.out).mono ?_); (case side1 => exact kc_ HR219_6.out); (case side2 => exact HC219_6.out); rintro e w' ⟨rfl, ⟨nd, rfl⟩⟩; refine ⟨_, rfl, ?_⟩; have p221 : 0 ≤ (x5_1 : Int) := of_decide_eq_true as_; have q221 : x5_1 < (l0.length : Int) := of_decide_eq_true as_; obtain ⟨ad221, A221_6, c221_6, A221_9, c221_9, A221_13, c221_13, e221, hx221_0, hx221_1, hx221_2, hx221_3, hx221_4, hx221_5, hx221_6, hx221_7, hx221_8, hx221_9, hx221_10, hx221_11, hx221_12, hx221_13, hl221_6, hi221_6, hl221_9, hi221_9, hl221_13, hi221_13⟩ := at_T136 HR0.out x5_1 p221 q221; obtain rfl : ad213 = ad221 := (by injection e221); have HR221_6 := Aside0.mk hi221_6; have HC221_6 := Aside0.mk hl221_6; clear hi221_6 hl221_6; have HR221_9 := Aside0.mk hi221_9; have HC221_9 := Aside0.mk hl221_9; clear hi221_9 hl221_9; have HR221_13 := Aside0.mk hi221_13; have HC221_13 := Aside0.mk hl221_13; clear hi221_13 hl221_13; replace p221 := eq_true p221; replace q221 := eq_true q221; have ea_ := Option.some.inj (hx213_6.symm.trans hx221_6); injection ea_ with ea_ en_ ec_; subst ea_; subst ec_; clear en_; have ea_ := Option.some.inj (hx213_9.symm.trans hx221_9); injection ea_ with ea_ en_ ec_; subst ea_; subst ec_; clear en_; have ea_ := Option.some.inj (hx213_13.symm.trans hx221_13); injection ea_ with ea_ en_ ec_; subst ea_; subst ec_; clear en_; have p222 : 0 ≤ (x5_1 : Int) := of_decide_eq_true as_; have q222 : x5_1 < (l0.length : Int) := of_decide_eq_true as_; obtain ⟨ad222, A222_6, c222_6, A222_9, c222_9, A222_13, c222_13, e222, hx222_0, hx222_1, hx222_2, hx222_3, hx222_4, hx222_5, hx222_6, hx222_7, hx222_8, hx222_9, hx222_10, hx222_11, hx222_12, hx222_13, hl222_6, hi222_6, hl222_9, hi222_9, hl222_13, hi222_13⟩ := at_T136 HR0.out x5_1 p222 q222; obtain rfl : ad213 = ad222 := (by injection e222); have HR222_6 := Aside0.mk hi222_6; have HC222_6 := Aside0.mk hl222_6; clear hi222_6 hl222_6; have HR222_9 := Aside0.mk hi222_9; have HC222_9 := Aside0.mk hl222_9; clear hi222_9 hl222_9; have HR222_13 := Aside0.mk hi222_13; have HC222_13 := Aside0.mk hl222_13; clear hi222_13 hl222_13; replace p222 := eq_true p222; replace q222 := eq_true q222; have ea_ := Option.some.inj (hx213_6.symm.trans hx222_6); injection ea_ with ea_ en_ ec_; subst ea_; subst ec_; clear en_; have ea_ := Option.some.inj (hx213_9.symm.trans hx222_9); injection ea_ with ea_ en_ ec_; subst ea_; subst ec_; clear en_; have ea_ := Option.some.inj (hx213_13.symm.trans hx222_13); injection ea_ with ea_ en_ ec_; subst ea_; subst ec_; clear en_; have p223 : 0 ≤ (x5_1 : Int) := of_decide_eq_true as_; have q223 : x5_1 < (l0.length : Int) := of_decide_eq_true as_; obtain ⟨ad223, A223_6, c223_6, A223_9, c223_9, A223_13, c223_13, e223, hx223_0, hx223_1, hx223_2, hx223_3, hx223_4, hx223_5, hx223_6, hx223_7, hx223_8, hx223_9, hx223_10, hx223_11, hx223_12, hx223_13, hl223_6, hi223_6, hl223_9, hi223_9, hl223_13, hi223_13⟩ := at_T136 HR0.out x5_1 p223 q223; obtain rfl : ad213 = ad223 := (by injection e223); have HR223_6 := Aside0.mk hi223_6; have HC223_6 := Aside0.mk hl223_6; clear hi223_6 hl223_6; have HR223_9 := Aside0.mk hi223_9; have HC223_9 := Aside0.mk hl223_9; clear hi223_9 hl223_9; have HR223_13 := Aside0.mk hi223_13; have HC223_13 := Aside0.mk hl223_13; clear hi223_13 hl223_13; replace p223 := eq_true p223; replace q223 := eq_true q223; have ea_ := Option.some.inj (hx213_6.symm.trans hx223_6); injection ea_ with ea_ en_ ec_; subst ea_; subst ec_; clear en_; have ea_ := Option.some.inj (hx213_9.symm.trans hx223_9); injection ea_ with ea_ en_ ec_; subst ea_; subst ec_; clear en_; have ea_ := Option.some.inj (hx213_13.symm.trans hx223_13); injection ea_ with ea_ en_ ec_; subst ea_; subst ec_; clear en_) | ((with_reducible refine gate_callee (f := 145) rfl ?_); refine goe_ (some 107) Try.func145 #[.slice A213_9 ((rd_T136 l0 x5_1).f6.f2.f1).length c213_9, .int .i64 (wrap64 ((wrap64 (t220 + 1)) + 1))] ?_; (with_reducible refine (laws_heldInt64S.calls k1 _ _ ((rd_T136 l0 x5_1).f6.f2.f1) (wrap64 ((wrap64 (t220 + 1)) + 1)) t224 _ ?side1 ?side2 A15.out).mono ?_); (case side1 => exact kc_ HR223_9.out); (case side2 => exact HC223_9.out); rintro e w' ⟨rfl, ⟨nd, rfl⟩⟩; refine ⟨_, rfl, ?_⟩; have p225 : 0 ≤ (x5_1 : Int) := of_decide_eq_true as_; have q225 : x5_1 < (l0.length : Int) := of_decide_eq_true as_; obtain ⟨ad225, A225_6, c225_6, A225_9, c225_9, A225_13, c225_13, e225, hx225_0, hx225_1, hx225_2, hx225_3, hx225_4, hx225_5, hx225_6, hx225_7, hx225_8, hx225_9, hx225_10, hx225_11, hx225_12, hx225_13, hl225_6, hi225_6, hl225_9, hi225_9, hl225_13, hi225_13⟩ := at_T136 HR0.out x5_1 p225 q225; obtain rfl : ad213 = ad225 := (by injection e225); have HR225_6 := Aside0.mk hi225_6; have HC225_6 := Aside0.mk hl225_6; clear hi225_6 hl225_6; have HR225_9 := Aside0.mk hi225_9; have HC225_9 := Aside0.mk hl225_9; clear hi225_9 hl225_9; have HR225_13 := Aside0.mk hi225_13; have HC225_13 := Aside0.mk hl225_13; clear hi225_13 hl225_13; replace p225 := eq_true p225; replace q225 := eq_true q225; have ea_ := Option.some.inj (hx213_6.symm.trans hx225_6); injection ea_ with ea_ en_ ec_; subst ea_; subst ec_; clear en_; have ea_ := Option.some.inj (hx213_9.symm.trans hx225_9); injection ea_ with ea_ en_ ec_; subst ea_; subst ec_; clear en_; have ea_ := Option.some.inj (hx213_13.symm.trans hx225_13); injection ea_ with ea_ en_ ec_; subst ea_; subst ec_; clear en_; have p226 : 0 ≤ (x5_1 : Int) := of_decide_eq_true as_; have q226 : x5_1 < (l0.length : Int) := of_decide_eq_true as_; obtain ⟨ad226, A226_6, c226_6, A226_9, c226_9, A226_13, c226_13, e226, hx226_0, hx226_1, hx226_2, hx226_3, hx226_4, hx226_5, hx226_6, hx226_7, hx226_8, hx226_9, hx226_10, hx226_11, hx226_12, hx226_13, hl226_6, hi226_6, hl226_9, hi226_9, hl226_13, hi226_13⟩ := at_T136 HR0.out x5_1 p226 q226; obtain rfl : ad213 = ad226 := (by injection e226); have HR226_6 := Aside0.mk hi226_6; have HC226_6 := Aside0.mk hl226_6; clear hi226_6 hl226_6; have HR226_9 := Aside0.mk hi226_9; have HC226_9 := Aside0.mk hl226_9; clear hi226_9 hl226_9; have HR226_13 := Aside0.mk hi226_13; have HC226_13 := Aside0.mk hl226_13; clear hi226_13 hl226_13; replace p226 := eq_true p226; replace q226 := eq_true q226; have ea_ := Option.some.inj (hx213_6.symm.trans hx226_6); injection ea_ with ea_ en_ ec_; subst ea_; subst ec_; clear en_; have ea_ := Option.some.inj (hx213_9.symm.trans hx226_9); injection ea_ with ea_ en_ ec_; subst ea_; subst ec_; clear en_; have ea_ := Option.some.inj (hx213_13.symm.trans hx226_13); injection ea_ with ea_ en_ ec_; subst ea_; subst ec_; clear en_; have p227 : 0 ≤ (x5_1 : Int) := of_decide_eq_true as_; have q227 : x5_1 < (l0.length : Int) := of_decide_eq_true as_; obtain ⟨ad227, A227_6, c227_6, A227_9, c227_9, A227_13, c227_13, e227, hx227_0, hx227_1, hx227_2, hx227_3, hx227_4, hx227_5, hx227_6, hx227_7, hx227_8, hx227_9, hx227_10, hx227_11, hx227_12, hx227_13, hl227_6, hi227_6, hl227_9, hi227_9, hl227_13, hi227_13⟩ := at_T136 HR0.out x5_1 p227 q227; obtain rfl : ad213 = ad227 := (by injection e227); have HR227_6 := Aside0.mk hi227_6; have HC227_6 := Aside0.mk hl227_6; clear hi227_6 hl227_6; have HR227_9 := Aside0.mk hi227_9; have HC227_9 := Aside0.mk hl227_9; clear hi227_9 hl227_9; have HR227_13 := Aside0.mk hi227_13; have HC227_13 := Aside0.mk hl227_13; clear hi227_13 hl227_13; replace p227 := eq_true p227; replace q227 := eq_true q227; have ea_ := Option.some.inj (hx213_6.symm.trans hx227_6); injection ea_ with ea_ en_ ec_; subst ea_; subst ec_; clear en_; have ea_ := Option.some.inj (hx213_9.symm.trans hx227_9); injection ea_ with ea_ en_ ec_; subst ea_; subst ec_; clear en_; have ea_ := Option.some.inj (hx213_13.symm.trans hx227_13); injection ea_ with ea_ en_ ec_; subst ea_; subst ec_; clear en_))
                                    go_ret
                                    exact ⟨sd_, by repeat (first | exact Drawn0.refl _ | apply Drawn0.step)⟩
                                · rw [if_neg c18] at H
                                  have c18b0 : (((rd_T136 l0 x5_1).f6.f2.f3) == (wrap64 (t224 + 1))) = false := beq_eq_false_iff_ne.mpr c18
                                  have c18b1 : (((rd_T136 l0 x5_1).f6.f2.f3) != (wrap64 (t224 + 1))) = true := bne_iff_ne.mpr c18
                                  obtain rfl := Option.some.inj H
                                  have p213 : 0 ≤ (x5_1 : Int) := of_decide_eq_true as_
                                  have q213 : x5_1 < (l0.length : Int) := of_decide_eq_true as_
                                  obtain ⟨ad213, A213_6, c213_6, A213_9, c213_9, A213_13, c213_13, e213, hx213_0, hx213_1, hx213_2, hx213_3, hx213_4, hx213_5, hx213_6, hx213_7, hx213_8, hx213_9, hx213_10, hx213_11, hx213_12, hx213_13, hl213_6, hi213_6, hl213_9, hi213_9, hl213_13, hi213_13⟩ := at_T136 HR0.out x5_1 p213 q213
                                  cases e213
                                  have HR213_6 := Aside0.mk hi213_6
                                  have HC213_6 := Aside0.mk hl213_6
                                  clear hi213_6 hl213_6
                                  have HR213_9 := Aside0.mk hi213_9
                                  have HC213_9 := Aside0.mk hl213_9
                                  clear hi213_9 hl213_9
                                  have HR213_13 := Aside0.mk hi213_13
                                  have HC213_13 := Aside0.mk hl213_13
                                  clear hi213_13 hl213_13
                                  replace p213 := eq_true p213
                                  replace q213 := eq_true q213
                                  have p214 : 0 ≤ (x5_1 : Int) := of_decide_eq_true as_
                                  have q214 : x5_1 < (l0.length : Int) := of_decide_eq_true as_
                                  obtain ⟨ad214, A214_6, c214_6, A214_9, c214_9, A214_13, c214_13, e214, hx214_0, hx214_1, hx214_2, hx214_3, hx214_4, hx214_5, hx214_6, hx214_7, hx214_8, hx214_9, hx214_10, hx214_11, hx214_12, hx214_13, hl214_6, hi214_6, hl214_9, hi214_9, hl214_13, hi214_13⟩ := at_T136 HR0.out x5_1 p214 q214
                                  obtain rfl : ad213 = ad214 := (by injection e214)
                                  have HR214_6 := Aside0.mk hi214_6
                                  have HC214_6 := Aside0.mk hl214_6
                                  clear hi214_6 hl214_6
                                  have HR214_9 := Aside0.mk hi214_9
                                  have HC214_9 := Aside0.mk hl214_9
                                  clear hi214_9 hl214_9
                                  have HR214_13 := Aside0.mk hi214_13
                                  have HC214_13 := Aside0.mk hl214_13
                                  clear hi214_13 hl214_13
                                  replace p214 := eq_true p214
                                  replace q214 := eq_true q214
                                  have ea_ := Option.some.inj (hx213_6.symm.trans hx214_6)
                                  injection ea_ with ea_ en_ ec_
                                  subst ea_
                                  subst ec_
                                  clear en_
                                  have ea_ := Option.some.inj (hx213_9.symm.trans hx214_9)
                                  injection ea_ with ea_ en_ ec_
                                  subst ea_
                                  subst ec_
                                  clear en_
                                  have ea_ := Option.some.inj (hx213_13.symm.trans hx214_13)
                                  injection ea_ with ea_ en_ ec_
                                  subst ea_
                                  subst ec_
                                  clear en_
                                  have p215 : 0 ≤ (x5_1 : Int) := of_decide_eq_true as_
                                  have q215 : x5_1 < (l0.length : Int) := of_decide_eq_true as_
                                  obtain ⟨ad215, A215_6, c215_6, A215_9, c215_9, A215_13, c215_13, e215, hx215_0, hx215_1, hx215_2, hx215_3, hx215_4, hx215_5, hx215_6, hx215_7, hx215_8, hx215_9, hx215_10, hx215_11, hx215_12, hx215_13, hl215_6, hi215_6, hl215_9, hi215_9, hl215_13, hi215_13⟩ := at_T136 HR0.out x5_1 p215 q215
                                  obtain rfl : ad213 = ad215 := (by injection e215)
                                  have HR215_6 := Aside0.mk hi215_6
                                  have HC215_6 := Aside0.mk hl215_6
                                  clear hi215_6 hl215_6
                                  have HR215_9 := Aside0.mk hi215_9
                                  have HC215_9 := Aside0.mk hl215_9
                                  clear hi215_9 hl215_9
                                  have HR215_13 := Aside0.mk hi215_13
                                  have HC215_13 := Aside0.mk hl215_13
                                  clear hi215_13 hl215_13
                                  replace p215 := eq_true p215
                                  replace q215 := eq_true q215
                                  have ea_ := Option.some.inj (hx213_6.symm.trans hx215_6)
                                  injection ea_ with ea_ en_ ec_
                                  subst ea_
                                  subst ec_
                                  clear en_
                                  have ea_ := Option.some.inj (hx213_9.symm.trans hx215_9)
                                  injection ea_ with ea_ en_ ec_
                                  subst ea_
                                  subst ec_
                                  clear en_
                                  have ea_ := Option.some.inj (hx213_13.symm.trans hx215_13)
                                  injection ea_ with ea_ en_ ec_
                                  subst ea_
                                  subst ec_
                                  clear en_
                                  have p216 : 0 ≤ (x5_1 : Int) := of_decide_eq_true as_
                                  have q216 : x5_1 < (l0.length : Int) := of_decide_eq_true as_
                                  obtain ⟨ad216, A216_6, c216_6, A216_9, c216_9, A216_13, c216_13, e216, hx216_0, hx216_1, hx216_2, hx216_3, hx216_4, hx216_5, hx216_6, hx216_7, hx216_8, hx216_9, hx216_10, hx216_11, hx216_12, hx216_13, hl216_6, hi216_6, hl216_9, hi216_9, hl216_13, hi216_13⟩ := at_T136 HR0.out x5_1 p216 q216
                                  obtain rfl : ad213 = ad216 := (by injection e216)
                                  have HR216_6 := Aside0.mk hi216_6
                                  have HC216_6 := Aside0.mk hl216_6
                                  clear hi216_6 hl216_6
                                  have HR216_9 := Aside0.mk hi216_9
                                  have HC216_9 := Aside0.mk hl216_9
                                  clear hi216_9 hl216_9
                                  have HR216_13 := Aside0.mk hi216_13
                                  have HC216_13 := Aside0.mk hl216_13
                                  clear hi216_13 hl216_13
                                  replace p216 := eq_true p216
                                  replace q216 := eq_true q216
                                  have ea_ := Option.some.inj (hx213_6.symm.trans hx216_6)
                                  injection ea_ with ea_ en_ ec_
                                  subst ea_
                                  subst ec_
                                  clear en_
                                  have ea_ := Option.some.inj (hx213_9.symm.trans hx216_9)
                                  injection ea_ with ea_ en_ ec_
                                  subst ea_
                                  subst ec_
                                  clear en_
                                  have ea_ := Option.some.inj (hx213_13.symm.trans hx216_13)
                                  injection ea_ with ea_ en_ ec_
                                  subst ea_
                                  subst ec_
                                  clear en_
                                  have p217 : 0 ≤ (x5_1 : Int) := of_decide_eq_true as_
                                  have q217 : x5_1 < (l0.length : Int) := of_decide_eq_true as_
                                  obtain ⟨ad217, A217_6, c217_6, A217_9, c217_9, A217_13, c217_13, e217, hx217_0, hx217_1, hx217_2, hx217_3, hx217_4, hx217_5, hx217_6, hx217_7, hx217_8, hx217_9, hx217_10, hx217_11, hx217_12, hx217_13, hl217_6, hi217_6, hl217_9, hi217_9, hl217_13, hi217_13⟩ := at_T136 HR0.out x5_1 p217 q217
                                  obtain rfl : ad213 = ad217 := (by injection e217)
                                  have HR217_6 := Aside0.mk hi217_6
                                  have HC217_6 := Aside0.mk hl217_6
                                  clear hi217_6 hl217_6
                                  have HR217_9 := Aside0.mk hi217_9
                                  have HC217_9 := Aside0.mk hl217_9
                                  clear hi217_9 hl217_9
                                  have HR217_13 := Aside0.mk hi217_13
                                  have HC217_13 := Aside0.mk hl217_13
                                  clear hi217_13 hl217_13
                                  replace p217 := eq_true p217
                                  replace q217 := eq_true q217
                                  have ea_ := Option.some.inj (hx213_6.symm.trans hx217_6)
                                  injection ea_ with ea_ en_ ec_
                                  subst ea_
                                  subst ec_
                                  clear en_
                                  have ea_ := Option.some.inj (hx213_9.symm.trans hx217_9)
                                  injection ea_ with ea_ en_ ec_
                                  subst ea_
                                  subst ec_
                                  clear en_
                                  have ea_ := Option.some.inj (hx213_13.symm.trans hx217_13)
                                  injection ea_ with ea_ en_ ec_
                                  subst ea_
                                  subst ec_
                                  clear en_
                                  have p218 : 0 ≤ (x5_1 : Int) := of_decide_eq_true as_
                                  have q218 : x5_1 < (l0.length : Int) := of_decide_eq_true as_
                                  obtain ⟨ad218, A218_6, c218_6, A218_9, c218_9, A218_13, c218_13, e218, hx218_0, hx218_1, hx218_2, hx218_3, hx218_4, hx218_5, hx218_6, hx218_7, hx218_8, hx218_9, hx218_10, hx218_11, hx218_12, hx218_13, hl218_6, hi218_6, hl218_9, hi218_9, hl218_13, hi218_13⟩ := at_T136 HR0.out x5_1 p218 q218
                                  obtain rfl : ad213 = ad218 := (by injection e218)
                                  have HR218_6 := Aside0.mk hi218_6
                                  have HC218_6 := Aside0.mk hl218_6
                                  clear hi218_6 hl218_6
                                  have HR218_9 := Aside0.mk hi218_9
                                  have HC218_9 := Aside0.mk hl218_9
                                  clear hi218_9 hl218_9
                                  have HR218_13 := Aside0.mk hi218_13
                                  have HC218_13 := Aside0.mk hl218_13
                                  clear hi218_13 hl218_13
                                  replace p218 := eq_true p218
                                  replace q218 := eq_true q218
                                  have ea_ := Option.some.inj (hx213_6.symm.trans hx218_6)
                                  injection ea_ with ea_ en_ ec_
                                  subst ea_
                                  subst ec_
                                  clear en_
                                  have ea_ := Option.some.inj (hx213_9.symm.trans hx218_9)
                                  injection ea_ with ea_ en_ ec_
                                  subst ea_
                                  subst ec_
                                  clear en_
                                  have ea_ := Option.some.inj (hx213_13.symm.trans hx218_13)
                                  injection ea_ with ea_ en_ ec_
                                  subst ea_
                                  subst ec_
                                  clear en_
                                  have p219 : 0 ≤ (x5_1 : Int) := of_decide_eq_true as_
                                  have q219 : x5_1 < (l0.length : Int) := of_decide_eq_true as_
                                  obtain ⟨ad219, A219_6, c219_6, A219_9, c219_9, A219_13, c219_13, e219, hx219_0, hx219_1, hx219_2, hx219_3, hx219_4, hx219_5, hx219_6, hx219_7, hx219_8, hx219_9, hx219_10, hx219_11, hx219_12, hx219_13, hl219_6, hi219_6, hl219_9, hi219_9, hl219_13, hi219_13⟩ := at_T136 HR0.out x5_1 p219 q219
                                  obtain rfl : ad213 = ad219 := (by injection e219)
                                  have HR219_6 := Aside0.mk hi219_6
                                  have HC219_6 := Aside0.mk hl219_6
                                  clear hi219_6 hl219_6
                                  have HR219_9 := Aside0.mk hi219_9
                                  have HC219_9 := Aside0.mk hl219_9
                                  clear hi219_9 hl219_9
                                  have HR219_13 := Aside0.mk hi219_13
                                  have HC219_13 := Aside0.mk hl219_13
                                  clear hi219_13 hl219_13
                                  replace p219 := eq_true p219
                                  replace q219 := eq_true q219
                                  have ea_ := Option.some.inj (hx213_6.symm.trans hx219_6)
                                  injection ea_ with ea_ en_ ec_
                                  subst ea_
                                  subst ec_
                                  clear en_
                                  have ea_ := Option.some.inj (hx213_9.symm.trans hx219_9)
                                  injection ea_ with ea_ en_ ec_
                                  subst ea_
                                  subst ec_
                                  clear en_
                                  have ea_ := Option.some.inj (hx213_13.symm.trans hx219_13)
                                  injection ea_ with ea_ en_ ec_
                                  subst ea_
                                  subst ec_
                                  clear en_
                                  go_wp2_with (first | ((with_reducible refine gate_callee (f := 130) rfl ?_); refine goe_ (some 73) Try.func130 #[.slice A213_6 ((rd_T136 l0 x5_1).f6.f0).length c213_6, .int .i64 (wrap64 ((wrap64 ((wrap64 ((wrap64 ((wrap64 ((wrap64 (x1_1 + 1)) + 1)) + 1)) + 1)) + 1)) + 1))] ?_; (with_reducible refine (laws_heldPrefixS.calls k1 _ _ ((rd_T136 l0 x5_1).f6.f0) (wrap64 ((wrap64 ((wrap64 ((wrap64 ((wrap64 ((wrap64 (x1_1 + 1)) + 1)) + 1)) + 1)) + 1)) + 1)) t220 _ ?side1 ?side2 A11.out).mono ?_); (case side1 => exact kc_ HR219_6.out); (case side2 => exact HC219_6.out); rintro e w' ⟨rfl, ⟨nd, rfl⟩⟩; refine ⟨_, rfl, ?_⟩; have p221 : 0 ≤ (x5_1 : Int) := of_decide_eq_true as_; have q221 : x5_1 < (l0.length : Int) := of_decide_eq_true as_; obtain ⟨ad221, A221_6, c221_6, A221_9, c221_9, A221_13, c221_13, e221, hx221_0, hx221_1, hx221_2, hx221_3, hx221_4, hx221_5, hx221_6, hx221_7, hx221_8, hx221_9, hx221_10, hx221_11, hx221_12, hx221_13, hl221_6, hi221_6, hl221_9, hi221_9, hl221_13, hi221_13⟩ := at_T136 HR0.out x5_1 p221 q221; obtain rfl : ad213 = ad221 := (by injection e221); have HR221_6 := Aside0.mk hi221_6; have HC221_6 := Aside0.mk hl221_6; clear hi221_6 hl221_6; have HR221_9 := Aside0.mk hi221_9; have HC221_9 := Aside0.mk hl221_9; clear hi221_9 hl221_9; have HR221_13 := Aside0.mk hi221_13; have HC221_13 := Aside0.mk hl221_13; clear hi221_13 hl221_13; replace p221 := eq_true p221; replace q221 := eq_true q221; have ea_ := Option.some.inj (hx213_6.symm.trans hx221_6); injection ea_ with ea_ en_ ec_; subst ea_; subst ec_; clear en_; have ea_ := Option.some.inj (hx213_9.symm.trans hx221_9); injection ea_ with ea_ en_ ec_; subst ea_; subst ec_; clear en_; have ea_ := Option.some.inj (hx213_13.symm.trans hx221_13); injection ea_ with ea_ en_ ec_; subst ea_; subst ec_; clear en_; have p222 : 0 ≤ (x5_1 : Int) := of_decide_eq_true as_; have q222 : x5_1 < (l0.length : Int) := of_decide_eq_true as_; obtain ⟨ad222, A222_6, c222_6, A222_9, c222_9, A222_13, c222_13, e222, hx222_0, hx222_1, hx222_2, hx222_3, hx222_4, hx222_5, hx222_6, hx222_7, hx222_8, hx222_9, hx222_10, hx222_11, hx222_12, hx222_13, hl222_6, hi222_6, hl222_9, hi222_9, hl222_13, hi222_13⟩ := at_T136 HR0.out x5_1 p222 q222; obtain rfl : ad213 = ad222 := (by injection e222); have HR222_6 := Aside0.mk hi222_6; have HC222_6 := Aside0.mk hl222_6; clear hi222_6 hl222_6; have HR222_9 := Aside0.mk hi222_9; have HC222_9 := Aside0.mk hl222_9; clear hi222_9 hl222_9; have HR222_13 := Aside0.mk hi222_13; have HC222_13 := Aside0.mk hl222_13; clear hi222_13 hl222_13; replace p222 := eq_true p222; replace q222 := eq_true q222; have ea_ := Option.some.inj (hx213_6.symm.trans hx222_6); injection ea_ with ea_ en_ ec_; subst ea_; subst ec_; clear en_; have ea_ := Option.some.inj (hx213_9.symm.trans hx222_9); injection ea_ with ea_ en_ ec_; subst ea_; subst ec_; clear en_; have ea_ := Option.some.inj (hx213_13.symm.trans hx222_13); injection ea_ with ea_ en_ ec_; subst ea_; subst ec_; clear en_; have p223 : 0 ≤ (x5_1 : Int) := of_decide_eq_true as_; have q223 : x5_1 < (l0.length : Int) := of_decide_eq_true as_; obtain ⟨ad223, A223_6, c223_6, A223_9, c223_9, A223_13, c223_13, e223, hx223_0, hx223_1, hx223_2, hx223_3, hx223_4, hx223_5, hx223_6, hx223_7, hx223_8, hx223_9, hx223_10, hx223_11, hx223_12, hx223_13, hl223_6, hi223_6, hl223_9, hi223_9, hl223_13, hi223_13⟩ := at_T136 HR0.out x5_1 p223 q223; obtain rfl : ad213 = ad223 := (by injection e223); have HR223_6 := Aside0.mk hi223_6; have HC223_6 := Aside0.mk hl223_6; clear hi223_6 hl223_6; have HR223_9 := Aside0.mk hi223_9; have HC223_9 := Aside0.mk hl223_9; clear hi223_9 hl223_9; have HR223_13 := Aside0.mk hi223_13; have HC223_13 := Aside0.mk hl223_13; clear hi223_13 hl223_13; replace p223 := eq_true p223; replace q223 := eq_true q223; have ea_ := Option.some.inj (hx213_6.symm.trans hx223_6); injection ea_ with ea_ en_ ec_; subst ea_; subst ec_; clear en_; have ea_ := Option.some.inj (hx213_9.symm.trans hx223_9); injection ea_ with ea_ en_ ec_; subst ea_; subst ec_; clear en_; have ea_ := Option.some.inj (hx213_13.symm.trans hx223_13); injection ea_ with ea_ en_ ec_; subst ea_; subst ec_; clear en_) | ((with_reducible refine gate_callee (f := 145) rfl ?_); refine goe_ (some 107) Try.func145 #[.slice A213_9 ((rd_T136 l0 x5_1).f6.f2.f1).length c213_9, .int .i64 (wrap64 ((wrap64 (t220 + 1)) + 1))] ?_; (with_reducible refine (laws_heldInt64S.calls k1 _ _ ((rd_T136 l0 x5_1).f6.f2.f1) (wrap64 ((wrap64 (t220 + 1)) + 1)) t224 _ ?side1 ?side2 A15.out).mono ?_); (case side1 => exact kc_ HR223_9.out); (case side2 => exact HC223_9.out); rintro e w' ⟨rfl, ⟨nd, rfl⟩⟩; refine ⟨_, rfl, ?_⟩; have p225 : 0 ≤ (x5_1 : Int) := of_decide_eq_true as_; have q225 : x5_1 < (l0.length : Int) := of_decide_eq_true as_; obtain ⟨ad225, A225_6, c225_6, A225_9, c225_9, A225_13, c225_13, e225, hx225_0, hx225_1, hx225_2, hx225_3, hx225_4, hx225_5, hx225_6, hx225_7, hx225_8, hx225_9, hx225_10, hx225_11, hx225_12, hx225_13, hl225_6, hi225_6, hl225_9, hi225_9, hl225_13, hi225_13⟩ := at_T136 HR0.out x5_1 p225 q225; obtain rfl : ad213 = ad225 := (by injection e225); have HR225_6 := Aside0.mk hi225_6; have HC225_6 := Aside0.mk hl225_6; clear hi225_6 hl225_6; have HR225_9 := Aside0.mk hi225_9; have HC225_9 := Aside0.mk hl225_9; clear hi225_9 hl225_9; have HR225_13 := Aside0.mk hi225_13; have HC225_13 := Aside0.mk hl225_13; clear hi225_13 hl225_13; replace p225 := eq_true p225; replace q225 := eq_true q225; have ea_ := Option.some.inj (hx213_6.symm.trans hx225_6); injection ea_ with ea_ en_ ec_; subst ea_; subst ec_; clear en_; have ea_ := Option.some.inj (hx213_9.symm.trans hx225_9); injection ea_ with ea_ en_ ec_; subst ea_; subst ec_; clear en_; have ea_ := Option.some.inj (hx213_13.symm.trans hx225_13); injection ea_ with ea_ en_ ec_; subst ea_; subst ec_; clear en_; have p226 : 0 ≤ (x5_1 : Int) := of_decide_eq_true as_; have q226 : x5_1 < (l0.length : Int) := of_decide_eq_true as_; obtain ⟨ad226, A226_6, c226_6, A226_9, c226_9, A226_13, c226_13, e226, hx226_0, hx226_1, hx226_2, hx226_3, hx226_4, hx226_5, hx226_6, hx226_7, hx226_8, hx226_9, hx226_10, hx226_11, hx226_12, hx226_13, hl226_6, hi226_6, hl226_9, hi226_9, hl226_13, hi226_13⟩ := at_T136 HR0.out x5_1 p226 q226; obtain rfl : ad213 = ad226 := (by injection e226); have HR226_6 := Aside0.mk hi226_6; have HC226_6 := Aside0.mk hl226_6; clear hi226_6 hl226_6; have HR226_9 := Aside0.mk hi226_9; have HC226_9 := Aside0.mk hl226_9; clear hi226_9 hl226_9; have HR226_13 := Aside0.mk hi226_13; have HC226_13 := Aside0.mk hl226_13; clear hi226_13 hl226_13; replace p226 := eq_true p226; replace q226 := eq_true q226; have ea_ := Option.some.inj (hx213_6.symm.trans hx226_6); injection ea_ with ea_ en_ ec_; subst ea_; subst ec_; clear en_; have ea_ := Option.some.inj (hx213_9.symm.trans hx226_9); injection ea_ with ea_ en_ ec_; subst ea_; subst ec_; clear en_; have ea_ := Option.some.inj (hx213_13.symm.trans hx226_13); injection ea_ with ea_ en_ ec_; subst ea_; subst ec_; clear en_))
                                  go_ret
                                  exact ⟨sd_, by repeat (first | exact Drawn0.refl _ | apply Drawn0.step)⟩
                              · rw [if_neg c17] at H
                                have c17b0 : (((rd_T136 l0 x5_1).f6.f2.f2) == t224) = false := beq_eq_false_iff_ne.mpr c17
                                have c17b1 : (((rd_T136 l0 x5_1).f6.f2.f2) != t224) = true := bne_iff_ne.mpr c17
                                obtain rfl := Option.some.inj H
                                have p213 : 0 ≤ (x5_1 : Int) := of_decide_eq_true as_
                                have q213 : x5_1 < (l0.length : Int) := of_decide_eq_true as_
                                obtain ⟨ad213, A213_6, c213_6, A213_9, c213_9, A213_13, c213_13, e213, hx213_0, hx213_1, hx213_2, hx213_3, hx213_4, hx213_5, hx213_6, hx213_7, hx213_8, hx213_9, hx213_10, hx213_11, hx213_12, hx213_13, hl213_6, hi213_6, hl213_9, hi213_9, hl213_13, hi213_13⟩ := at_T136 HR0.out x5_1 p213 q213
                                cases e213
                                have HR213_6 := Aside0.mk hi213_6
                                have HC213_6 := Aside0.mk hl213_6
                                clear hi213_6 hl213_6
                                have HR213_9 := Aside0.mk hi213_9
                                have HC213_9 := Aside0.mk hl213_9
                                clear hi213_9 hl213_9
                                have HR213_13 := Aside0.mk hi213_13
                                have HC213_13 := Aside0.mk hl213_13
                                clear hi213_13 hl213_13
                                replace p213 := eq_true p213
                                replace q213 := eq_true q213
                                have p214 : 0 ≤ (x5_1 : Int) := of_decide_eq_true as_
                                have q214 : x5_1 < (l0.length : Int) := of_decide_eq_true as_
                                obtain ⟨ad214, A214_6, c214_6, A214_9, c214_9, A214_13, c214_13, e214, hx214_0, hx214_1, hx214_2, hx214_3, hx214_4, hx214_5, hx214_6, hx214_7, hx214_8, hx214_9, hx214_10, hx214_11, hx214_12, hx214_13, hl214_6, hi214_6, hl214_9, hi214_9, hl214_13, hi214_13⟩ := at_T136 HR0.out x5_1 p214 q214
                                obtain rfl : ad213 = ad214 := (by injection e214)
                                have HR214_6 := Aside0.mk hi214_6
                                have HC214_6 := Aside0.mk hl214_6
                                clear hi214_6 hl214_6
                                have HR214_9 := Aside0.mk hi214_9
                                have HC214_9 := Aside0.mk hl214_9
                                clear hi214_9 hl214_9
                                have HR214_13 := Aside0.mk hi214_13
                                have HC214_13 := Aside0.mk hl214_13
                                clear hi214_13 hl214_13
                                replace p214 := eq_true p214
                                replace q214 := eq_true q214
                                have ea_ := Option.some.inj (hx213_6.symm.trans hx214_6)
                                injection ea_ with ea_ en_ ec_
                                subst ea_
                                subst ec_
                                clear en_
                                have ea_ := Option.some.inj (hx213_9.symm.trans hx214_9)
                                injection ea_ with ea_ en_ ec_
                                subst ea_
                                subst ec_
                                clear en_
                                have ea_ := Option.some.inj (hx213_13.symm.trans hx214_13)
                                injection ea_ with ea_ en_ ec_
                                subst ea_
                                subst ec_
                                clear en_
                                have p215 : 0 ≤ (x5_1 : Int) := of_decide_eq_true as_
                                have q215 : x5_1 < (l0.length : Int) := of_decide_eq_true as_
                                obtain ⟨ad215, A215_6, c215_6, A215_9, c215_9, A215_13, c215_13, e215, hx215_0, hx215_1, hx215_2, hx215_3, hx215_4, hx215_5, hx215_6, hx215_7, hx215_8, hx215_9, hx215_10, hx215_11, hx215_12, hx215_13, hl215_6, hi215_6, hl215_9, hi215_9, hl215_13, hi215_13⟩ := at_T136 HR0.out x5_1 p215 q215
                                obtain rfl : ad213 = ad215 := (by injection e215)
                                have HR215_6 := Aside0.mk hi215_6
                                have HC215_6 := Aside0.mk hl215_6
                                clear hi215_6 hl215_6
                                have HR215_9 := Aside0.mk hi215_9
                                have HC215_9 := Aside0.mk hl215_9
                                clear hi215_9 hl215_9
                                have HR215_13 := Aside0.mk hi215_13
                                have HC215_13 := Aside0.mk hl215_13
                                clear hi215_13 hl215_13
                                replace p215 := eq_true p215
                                replace q215 := eq_true q215
                                have ea_ := Option.some.inj (hx213_6.symm.trans hx215_6)
                                injection ea_ with ea_ en_ ec_
                                subst ea_
                                subst ec_
                                clear en_
                                have ea_ := Option.some.inj (hx213_9.symm.trans hx215_9)
                                injection ea_ with ea_ en_ ec_
                                subst ea_
                                subst ec_
                                clear en_
                                have ea_ := Option.some.inj (hx213_13.symm.trans hx215_13)
                                injection ea_ with ea_ en_ ec_
                                subst ea_
                                subst ec_
                                clear en_
                                have p216 : 0 ≤ (x5_1 : Int) := of_decide_eq_true as_
                                have q216 : x5_1 < (l0.length : Int) := of_decide_eq_true as_
                                obtain ⟨ad216, A216_6, c216_6, A216_9, c216_9, A216_13, c216_13, e216, hx216_0, hx216_1, hx216_2, hx216_3, hx216_4, hx216_5, hx216_6, hx216_7, hx216_8, hx216_9, hx216_10, hx216_11, hx216_12, hx216_13, hl216_6, hi216_6, hl216_9, hi216_9, hl216_13, hi216_13⟩ := at_T136 HR0.out x5_1 p216 q216
                                obtain rfl : ad213 = ad216 := (by injection e216)
                                have HR216_6 := Aside0.mk hi216_6
                                have HC216_6 := Aside0.mk hl216_6
                                clear hi216_6 hl216_6
                                have HR216_9 := Aside0.mk hi216_9
                                have HC216_9 := Aside0.mk hl216_9
                                clear hi216_9 hl216_9
                                have HR216_13 := Aside0.mk hi216_13
                                have HC216_13 := Aside0.mk hl216_13
                                clear hi216_13 hl216_13
                                replace p216 := eq_true p216
                                replace q216 := eq_true q216
                                have ea_ := Option.some.inj (hx213_6.symm.trans hx216_6)
                                injection ea_ with ea_ en_ ec_
                                subst ea_
                                subst ec_
                                clear en_
                                have ea_ := Option.some.inj (hx213_9.symm.trans hx216_9)
                                injection ea_ with ea_ en_ ec_
                                subst ea_
                                subst ec_
                                clear en_
                                have ea_ := Option.some.inj (hx213_13.symm.trans hx216_13)
                                injection ea_ with ea_ en_ ec_
                                subst ea_
                                subst ec_
                                clear en_
                                have p217 : 0 ≤ (x5_1 : Int) := of_decide_eq_true as_
                                have q217 : x5_1 < (l0.length : Int) := of_decide_eq_true as_
                                obtain ⟨ad217, A217_6, c217_6, A217_9, c217_9, A217_13, c217_13, e217, hx217_0, hx217_1, hx217_2, hx217_3, hx217_4, hx217_5, hx217_6, hx217_7, hx217_8, hx217_9, hx217_10, hx217_11, hx217_12, hx217_13, hl217_6, hi217_6, hl217_9, hi217_9, hl217_13, hi217_13⟩ := at_T136 HR0.out x5_1 p217 q217
                                obtain rfl : ad213 = ad217 := (by injection e217)
                                have HR217_6 := Aside0.mk hi217_6
                                have HC217_6 := Aside0.mk hl217_6
                                clear hi217_6 hl217_6
                                have HR217_9 := Aside0.mk hi217_9
                                have HC217_9 := Aside0.mk hl217_9
                                clear hi217_9 hl217_9
                                have HR217_13 := Aside0.mk hi217_13
                                have HC217_13 := Aside0.mk hl217_13
                                clear hi217_13 hl217_13
                                replace p217 := eq_true p217
                                replace q217 := eq_true q217
                                have ea_ := Option.some.inj (hx213_6.symm.trans hx217_6)
                                injection ea_ with ea_ en_ ec_
                                subst ea_
                                subst ec_
                                clear en_
                                have ea_ := Option.some.inj (hx213_9.symm.trans hx217_9)
                                injection ea_ with ea_ en_ ec_
                                subst ea_
                                subst ec_
                                clear en_
                                have ea_ := Option.some.inj (hx213_13.symm.trans hx217_13)
                                injection ea_ with ea_ en_ ec_
                                subst ea_
                                subst ec_
                                clear en_
                                have p218 : 0 ≤ (x5_1 : Int) := of_decide_eq_true as_
                                have q218 : x5_1 < (l0.length : Int) := of_decide_eq_true as_
                                obtain ⟨ad218, A218_6, c218_6, A218_9, c218_9, A218_13, c218_13, e218, hx218_0, hx218_1, hx218_2, hx218_3, hx218_4, hx218_5, hx218_6, hx218_7, hx218_8, hx218_9, hx218_10, hx218_11, hx218_12, hx218_13, hl218_6, hi218_6, hl218_9, hi218_9, hl218_13, hi218_13⟩ := at_T136 HR0.out x5_1 p218 q218
                                obtain rfl : ad213 = ad218 := (by injection e218)
                                have HR218_6 := Aside0.mk hi218_6
                                have HC218_6 := Aside0.mk hl218_6
                                clear hi218_6 hl218_6
                                have HR218_9 := Aside0.mk hi218_9
                                have HC218_9 := Aside0.mk hl218_9
                                clear hi218_9 hl218_9
                                have HR218_13 := Aside0.mk hi218_13
                                have HC218_13 := Aside0.mk hl218_13
                                clear hi218_13 hl218_13
                                replace p218 := eq_true p218
                                replace q218 := eq_true q218
                                have ea_ := Option.some.inj (hx213_6.symm.trans hx218_6)
                                injection ea_ with ea_ en_ ec_
                                subst ea_
                                subst ec_
                                clear en_
                                have ea_ := Option.some.inj (hx213_9.symm.trans hx218_9)
                                injection ea_ with ea_ en_ ec_
                                subst ea_
                                subst ec_
                                clear en_
                                have ea_ := Option.some.inj (hx213_13.symm.trans hx218_13)
                                injection ea_ with ea_ en_ ec_
                                subst ea_
                                subst ec_
                                clear en_
                                have p219 : 0 ≤ (x5_1 : Int) := of_decide_eq_true as_
                                have q219 : x5_1 < (l0.length : Int) := of_decide_eq_true as_
                                obtain ⟨ad219, A219_6, c219_6, A219_9, c219_9, A219_13, c219_13, e219, hx219_0, hx219_1, hx219_2, hx219_3, hx219_4, hx219_5, hx219_6, hx219_7, hx219_8, hx219_9, hx219_10, hx219_11, hx219_12, hx219_13, hl219_6, hi219_6, hl219_9, hi219_9, hl219_13, hi219_13⟩ := at_T136 HR0.out x5_1 p219 q219
                                obtain rfl : ad213 = ad219 := (by injection e219)
                                have HR219_6 := Aside0.mk hi219_6
                                have HC219_6 := Aside0.mk hl219_6
                                clear hi219_6 hl219_6
                                have HR219_9 := Aside0.mk hi219_9
                                have HC219_9 := Aside0.mk hl219_9
                                clear hi219_9 hl219_9
                                have HR219_13 := Aside0.mk hi219_13
                                have HC219_13 := Aside0.mk hl219_13
                                clear hi219_13 hl219_13
                                replace p219 := eq_true p219
                                replace q219 := eq_true q219
                                have ea_ := Option.some.inj (hx213_6.symm.trans hx219_6)
                                injection ea_ with ea_ en_ ec_
                                subst ea_
                                subst ec_
                                clear en_
                                have ea_ := Option.some.inj (hx213_9.symm.trans hx219_9)
                                injection ea_ with ea_ en_ ec_
                                subst ea_
                                subst ec_
                                clear en_
                                have ea_ := Option.some.inj (hx213_13.symm.trans hx219_13)
                                injection ea_ with ea_ en_ ec_
                                subst ea_
                                subst ec_
                                clear en_
                                go_wp2_with (first | ((with_reducible refine gate_callee (f := 130) rfl ?_); refine goe_ (some 73) Try.func130 #[.slice A213_6 ((rd_T136 l0 x5_1).f6.f0).length c213_6, .int .i64 (wrap64 ((wrap64 ((wrap64 ((wrap64 ((wrap64 ((wrap64 (x1_1 + 1)) + 1)) + 1)) + 1)) + 1)) + 1))] ?_; (with_reducible refine (laws_heldPrefixS.calls k1 _ _ ((rd_T136 l0 x5_1).f6.f0) (wrap64 ((wrap64 ((wrap64 ((wrap64 ((wrap64 ((wrap64 (x1_1 + 1)) + 1)) + 1)) + 1)) + 1)) + 1)) t220 _ ?side1 ?side2 A11.out).mono ?_); (case side1 => exact kc_ HR219_6.out); (case side2 => exact HC219_6.out); rintro e w' ⟨rfl, ⟨nd, rfl⟩⟩; refine ⟨_, rfl, ?_⟩; have p221 : 0 ≤ (x5_1 : Int) := of_decide_eq_true as_; have q221 : x5_1 < (l0.length : Int) := of_decide_eq_true as_; obtain ⟨ad221, A221_6, c221_6, A221_9, c221_9, A221_13, c221_13, e221, hx221_0, hx221_1, hx221_2, hx221_3, hx221_4, hx221_5, hx221_6, hx221_7, hx221_8, hx221_9, hx221_10, hx221_11, hx221_12, hx221_13, hl221_6, hi221_6, hl221_9, hi221_9, hl221_13, hi221_13⟩ := at_T136 HR0.out x5_1 p221 q221; obtain rfl : ad213 = ad221 := (by injection e221); have HR221_6 := Aside0.mk hi221_6; have HC221_6 := Aside0.mk hl221_6; clear hi221_6 hl221_6; have HR221_9 := Aside0.mk hi221_9; have HC221_9 := Aside0.mk hl221_9; clear hi221_9 hl221_9; have HR221_13 := Aside0.mk hi221_13; have HC221_13 := Aside0.mk hl221_13; clear hi221_13 hl221_13; replace p221 := eq_true p221; replace q221 := eq_true q221; have ea_ := Option.some.inj (hx213_6.symm.trans hx221_6); injection ea_ with ea_ en_ ec_; subst ea_; subst ec_; clear en_; have ea_ := Option.some.inj (hx213_9.symm.trans hx221_9); injection ea_ with ea_ en_ ec_; subst ea_; subst ec_; clear en_; have ea_ := Option.some.inj (hx213_13.symm.trans hx221_13); injection ea_ with ea_ en_ ec_; subst ea_; subst ec_; clear en_; have p222 : 0 ≤ (x5_1 : Int) := of_decide_eq_true as_; have q222 : x5_1 < (l0.length : Int) := of_decide_eq_true as_; obtain ⟨ad222, A222_6, c222_6, A222_9, c222_9, A222_13, c222_13, e222, hx222_0, hx222_1, hx222_2, hx222_3, hx222_4, hx222_5, hx222_6, hx222_7, hx222_8, hx222_9, hx222_10, hx222_11, hx222_12, hx222_13, hl222_6, hi222_6, hl222_9, hi222_9, hl222_13, hi222_13⟩ := at_T136 HR0.out x5_1 p222 q222; obtain rfl : ad213 = ad222 := (by injection e222); have HR222_6 := Aside0.mk hi222_6; have HC222_6 := Aside0.mk hl222_6; clear hi222_6 hl222_6; have HR222_9 := Aside0.mk hi222_9; have HC222_9 := Aside0.mk hl222_9; clear hi222_9 hl222_9; have HR222_13 := Aside0.mk hi222_13; have HC222_13 := Aside0.mk hl222_13; clear hi222_13 hl222_13; replace p222 := eq_true p222; replace q222 := eq_true q222; have ea_ := Option.some.inj (hx213_6.symm.trans hx222_6); injection ea_ with ea_ en_ ec_; subst ea_; subst ec_; clear en_; have ea_ := Option.some.inj (hx213_9.symm.trans hx222_9); injection ea_ with ea_ en_ ec_; subst ea_; subst ec_; clear en_; have ea_ := Option.some.inj (hx213_13.symm.trans hx222_13); injection ea_ with ea_ en_ ec_; subst ea_; subst ec_; clear en_; have p223 : 0 ≤ (x5_1 : Int) := of_decide_eq_true as_; have q223 : x5_1 < (l0.length : Int) := of_decide_eq_true as_; obtain ⟨ad223, A223_6, c223_6, A223_9, c223_9, A223_13, c223_13, e223, hx223_0, hx223_1, hx223_2, hx223_3, hx223_4, hx223_5, hx223_6, hx223_7, hx223_8, hx223_9, hx223_10, hx223_11, hx223_12, hx223_13, hl223_6, hi223_6, hl223_9, hi223_9, hl223_13, hi223_13⟩ := at_T136 HR0.out x5_1 p223 q223; obtain rfl : ad213 = ad223 := (by injection e223); have HR223_6 := Aside0.mk hi223_6; have HC223_6 := Aside0.mk hl223_6; clear hi223_6 hl223_6; have HR223_9 := Aside0.mk hi223_9; have HC223_9 := Aside0.mk hl223_9; clear hi223_9 hl223_9; have HR223_13 := Aside0.mk hi223_13; have HC223_13 := Aside0.mk hl223_13; clear hi223_13 hl223_13; replace p223 := eq_true p223; replace q223 := eq_true q223; have ea_ := Option.some.inj (hx213_6.symm.trans hx223_6); injection ea_ with ea_ en_ ec_; subst ea_; subst ec_; clear en_; have ea_ := Option.some.inj (hx213_9.symm.trans hx223_9); injection ea_ with ea_ en_ ec_; subst ea_; subst ec_; clear en_; have ea_ := Option.some.inj (hx213_13.symm.trans hx223_13); injection ea_ with ea_ en_ ec_; subst ea_; subst ec_; clear en_) | ((with_reducible refine gate_callee (f := 145) rfl ?_); refine goe_ (some 107) Try.func145 #[.slice A213_9 ((rd_T136 l0 x5_1).f6.f2.f1).length c213_9, .int .i64 (wrap64 ((wrap64 (t220 + 1)) + 1))] ?_; (with_reducible refine (laws_heldInt64S.calls k1 _ _ ((rd_T136 l0 x5_1).f6.f2.f1) (wrap64 ((wrap64 (t220 + 1)) + 1)) t224 _ ?side1 ?side2 A15.out).mono ?_); (case side1 => exact kc_ HR223_9.out); (case side2 => exact HC223_9.out); rintro e w' ⟨rfl, ⟨nd, rfl⟩⟩; refine ⟨_, rfl, ?_⟩; have p225 : 0 ≤ (x5_1 : Int) := of_decide_eq_true as_; have q225 : x5_1 < (l0.length : Int) := of_decide_eq_true as_; obtain ⟨ad225, A225_6, c225_6, A225_9, c225_9, A225_13, c225_13, e225, hx225_0, hx225_1, hx225_2, hx225_3, hx225_4, hx225_5, hx225_6, hx225_7, hx225_8, hx225_9, hx225_10, hx225_11, hx225_12, hx225_13, hl225_6, hi225_6, hl225_9, hi225_9, hl225_13, hi225_13⟩ := at_T136 HR0.out x5_1 p225 q225; obtain rfl : ad213 = ad225 := (by injection e225); have HR225_6 := Aside0.mk hi225_6; have HC225_6 := Aside0.mk hl225_6; clear hi225_6 hl225_6; have HR225_9 := Aside0.mk hi225_9; have HC225_9 := Aside0.mk hl225_9; clear hi225_9 hl225_9; have HR225_13 := Aside0.mk hi225_13; have HC225_13 := Aside0.mk hl225_13; clear hi225_13 hl225_13; replace p225 := eq_true p225; replace q225 := eq_true q225; have ea_ := Option.some.inj (hx213_6.symm.trans hx225_6); injection ea_ with ea_ en_ ec_; subst ea_; subst ec_; clear en_; have ea_ := Option.some.inj (hx213_9.symm.trans hx225_9); injection ea_ with ea_ en_ ec_; subst ea_; subst ec_; clear en_; have ea_ := Option.some.inj (hx213_13.symm.trans hx225_13); injection ea_ with ea_ en_ ec_; subst ea_; subst ec_; clear en_))
                                go_ret
                                exact ⟨sd_, by repeat (first | exact Drawn0.refl _ | apply Drawn0.step)⟩
                          · rw [if_neg c14] at H
                            have c14b0 : (((rd_T136 l0 x5_1).f6.f2.f0) == (wrap64 (t220 + 1))) = false := beq_eq_false_iff_ne.mpr c14
                            have c14b1 : (((rd_T136 l0 x5_1).f6.f2.f0) != (wrap64 (t220 + 1))) = true := bne_iff_ne.mpr c14
                            obtain rfl := Option.some.inj H
                            have p213 : 0 ≤ (x5_1 : Int) := of_decide_eq_true as_
                            have q213 : x5_1 < (l0.length : Int) := of_decide_eq_true as_
                            obtain ⟨ad213, A213_6, c213_6, A213_9, c213_9, A213_13, c213_13, e213, hx213_0, hx213_1, hx213_2, hx213_3, hx213_4, hx213_5, hx213_6, hx213_7, hx213_8, hx213_9, hx213_10, hx213_11, hx213_12, hx213_13, hl213_6, hi213_6, hl213_9, hi213_9, hl213_13, hi213_13⟩ := at_T136 HR0.out x5_1 p213 q213
                            cases e213
                            have HR213_6 := Aside0.mk hi213_6
                            have HC213_6 := Aside0.mk hl213_6
                            clear hi213_6 hl213_6
                            have HR213_9 := Aside0.mk hi213_9
                            have HC213_9 := Aside0.mk hl213_9
                            clear hi213_9 hl213_9
                            have HR213_13 := Aside0.mk hi213_13
                            have HC213_13 := Aside0.mk hl213_13
                            clear hi213_13 hl213_13
                            replace p213 := eq_true p213
                            replace q213 := eq_true q213
                            have p214 : 0 ≤ (x5_1 : Int) := of_decide_eq_true as_
                            have q214 : x5_1 < (l0.length : Int) := of_decide_eq_true as_
                            obtain ⟨ad214, A214_6, c214_6, A214_9, c214_9, A214_13, c214_13, e214, hx214_0, hx214_1, hx214_2, hx214_3, hx214_4, hx214_5, hx214_6, hx214_7, hx214_8, hx214_9, hx214_10, hx214_11, hx214_12, hx214_13, hl214_6, hi214_6, hl214_9, hi214_9, hl214_13, hi214_13⟩ := at_T136 HR0.out x5_1 p214 q214
                            obtain rfl : ad213 = ad214 := (by injection e214)
                            have HR214_6 := Aside0.mk hi214_6
                            have HC214_6 := Aside0.mk hl214_6
                            clear hi214_6 hl214_6
                            have HR214_9 := Aside0.mk hi214_9
                            have HC214_9 := Aside0.mk hl214_9
                            clear hi214_9 hl214_9
                            have HR214_13 := Aside0.mk hi214_13
                            have HC214_13 := Aside0.mk hl214_13
                            clear hi214_13 hl214_13
                            replace p214 := eq_true p214
                            replace q214 := eq_true q214
                            have ea_ := Option.some.inj (hx213_6.symm.trans hx214_6)
                            injection ea_ with ea_ en_ ec_
                            subst ea_
                            subst ec_
                            clear en_
                            have ea_ := Option.some.inj (hx213_9.symm.trans hx214_9)
                            injection ea_ with ea_ en_ ec_
                            subst ea_
                            subst ec_
                            clear en_
                            have ea_ := Option.some.inj (hx213_13.symm.trans hx214_13)
                            injection ea_ with ea_ en_ ec_
                            subst ea_
                            subst ec_
                            clear en_
                            have p215 : 0 ≤ (x5_1 : Int) := of_decide_eq_true as_
                            have q215 : x5_1 < (l0.length : Int) := of_decide_eq_true as_
                            obtain ⟨ad215, A215_6, c215_6, A215_9, c215_9, A215_13, c215_13, e215, hx215_0, hx215_1, hx215_2, hx215_3, hx215_4, hx215_5, hx215_6, hx215_7, hx215_8, hx215_9, hx215_10, hx215_11, hx215_12, hx215_13, hl215_6, hi215_6, hl215_9, hi215_9, hl215_13, hi215_13⟩ := at_T136 HR0.out x5_1 p215 q215
                            obtain rfl : ad213 = ad215 := (by injection e215)
                            have HR215_6 := Aside0.mk hi215_6
                            have HC215_6 := Aside0.mk hl215_6
                            clear hi215_6 hl215_6
                            have HR215_9 := Aside0.mk hi215_9
                            have HC215_9 := Aside0.mk hl215_9
                            clear hi215_9 hl215_9
                            have HR215_13 := Aside0.mk hi215_13
                            have HC215_13 := Aside0.mk hl215_13
                            clear hi215_13 hl215_13
                            replace p215 := eq_true p215
                            replace q215 := eq_true q215
                            have ea_ := Option.some.inj (hx213_6.symm.trans hx215_6)
                            injection ea_ with ea_ en_ ec_
                            subst ea_
                            subst ec_
                            clear en_
                            have ea_ := Option.some.inj (hx213_9.symm.trans hx215_9)
                            injection ea_ with ea_ en_ ec_
                            subst ea_
                            subst ec_
                            clear en_
                            have ea_ := Option.some.inj (hx213_13.symm.trans hx215_13)
                            injection ea_ with ea_ en_ ec_
                            subst ea_
                            subst ec_
                            clear en_
                            have p216 : 0 ≤ (x5_1 : Int) := of_decide_eq_true as_
                            have q216 : x5_1 < (l0.length : Int) := of_decide_eq_true as_
                            obtain ⟨ad216, A216_6, c216_6, A216_9, c216_9, A216_13, c216_13, e216, hx216_0, hx216_1, hx216_2, hx216_3, hx216_4, hx216_5, hx216_6, hx216_7, hx216_8, hx216_9, hx216_10, hx216_11, hx216_12, hx216_13, hl216_6, hi216_6, hl216_9, hi216_9, hl216_13, hi216_13⟩ := at_T136 HR0.out x5_1 p216 q216
                            obtain rfl : ad213 = ad216 := (by injection e216)
                            have HR216_6 := Aside0.mk hi216_6
                            have HC216_6 := Aside0.mk hl216_6
                            clear hi216_6 hl216_6
                            have HR216_9 := Aside0.mk hi216_9
                            have HC216_9 := Aside0.mk hl216_9
                            clear hi216_9 hl216_9
                            have HR216_13 := Aside0.mk hi216_13
                            have HC216_13 := Aside0.mk hl216_13
                            clear hi216_13 hl216_13
                            replace p216 := eq_true p216
                            replace q216 := eq_true q216
                            have ea_ := Option.some.inj (hx213_6.symm.trans hx216_6)
                            injection ea_ with ea_ en_ ec_
                            subst ea_
                            subst ec_
                            clear en_
                            have ea_ := Option.some.inj (hx213_9.symm.trans hx216_9)
                            injection ea_ with ea_ en_ ec_
                            subst ea_
                            subst ec_
                            clear en_
                            have ea_ := Option.some.inj (hx213_13.symm.trans hx216_13)
                            injection ea_ with ea_ en_ ec_
                            subst ea_
                            subst ec_
                            clear en_
                            have p217 : 0 ≤ (x5_1 : Int) := of_decide_eq_true as_
                            have q217 : x5_1 < (l0.length : Int) := of_decide_eq_true as_
                            obtain ⟨ad217, A217_6, c217_6, A217_9, c217_9, A217_13, c217_13, e217, hx217_0, hx217_1, hx217_2, hx217_3, hx217_4, hx217_5, hx217_6, hx217_7, hx217_8, hx217_9, hx217_10, hx217_11, hx217_12, hx217_13, hl217_6, hi217_6, hl217_9, hi217_9, hl217_13, hi217_13⟩ := at_T136 HR0.out x5_1 p217 q217
                            obtain rfl : ad213 = ad217 := (by injection e217)
                            have HR217_6 := Aside0.mk hi217_6
                            have HC217_6 := Aside0.mk hl217_6
                            clear hi217_6 hl217_6
                            have HR217_9 := Aside0.mk hi217_9
                            have HC217_9 := Aside0.mk hl217_9
                            clear hi217_9 hl217_9
                            have HR217_13 := Aside0.mk hi217_13
                            have HC217_13 := Aside0.mk hl217_13
                            clear hi217_13 hl217_13
                            replace p217 := eq_true p217
                            replace q217 := eq_true q217
                            have ea_ := Option.some.inj (hx213_6.symm.trans hx217_6)
                            injection ea_ with ea_ en_ ec_
                            subst ea_
                            subst ec_
                            clear en_
                            have ea_ := Option.some.inj (hx213_9.symm.trans hx217_9)
                            injection ea_ with ea_ en_ ec_
                            subst ea_
                            subst ec_
                            clear en_
                            have ea_ := Option.some.inj (hx213_13.symm.trans hx217_13)
                            injection ea_ with ea_ en_ ec_
                            subst ea_
                            subst ec_
                            clear en_
                            have p218 : 0 ≤ (x5_1 : Int) := of_decide_eq_true as_
                            have q218 : x5_1 < (l0.length : Int) := of_decide_eq_true as_
                            obtain ⟨ad218, A218_6, c218_6, A218_9, c218_9, A218_13, c218_13, e218, hx218_0, hx218_1, hx218_2, hx218_3, hx218_4, hx218_5, hx218_6, hx218_7, hx218_8, hx218_9, hx218_10, hx218_11, hx218_12, hx218_13, hl218_6, hi218_6, hl218_9, hi218_9, hl218_13, hi218_13⟩ := at_T136 HR0.out x5_1 p218 q218
                            obtain rfl : ad213 = ad218 := (by injection e218)
                            have HR218_6 := Aside0.mk hi218_6
                            have HC218_6 := Aside0.mk hl218_6
                            clear hi218_6 hl218_6
                            have HR218_9 := Aside0.mk hi218_9
                            have HC218_9 := Aside0.mk hl218_9
                            clear hi218_9 hl218_9
                            have HR218_13 := Aside0.mk hi218_13
                            have HC218_13 := Aside0.mk hl218_13
                            clear hi218_13 hl218_13
                            replace p218 := eq_true p218
                            replace q218 := eq_true q218
                            have ea_ := Option.some.inj (hx213_6.symm.trans hx218_6)
                            injection ea_ with ea_ en_ ec_
                            subst ea_
                            subst ec_
                            clear en_
                            have ea_ := Option.some.inj (hx213_9.symm.trans hx218_9)
                            injection ea_ with ea_ en_ ec_
                            subst ea_
                            subst ec_
                            clear en_
                            have ea_ := Option.some.inj (hx213_13.symm.trans hx218_13)
                            injection ea_ with ea_ en_ ec_
                            subst ea_
                            subst ec_
                            clear en_
                            have p219 : 0 ≤ (x5_1 : Int) := of_decide_eq_true as_
                            have q219 : x5_1 < (l0.length : Int) := of_decide_eq_true as_
                            obtain ⟨ad219, A219_6, c219_6, A219_9, c219_9, A219_13, c219_13, e219, hx219_0, hx219_1, hx219_2, hx219_3, hx219_4, hx219_5, hx219_6, hx219_7, hx219_8, hx219_9, hx219_10, hx219_11, hx219_12, hx219_13, hl219_6, hi219_6, hl219_9, hi219_9, hl219_13, hi219_13⟩ := at_T136 HR0.out x5_1 p219 q219
                            obtain rfl : ad213 = ad219 := (by injection e219)
                            have HR219_6 := Aside0.mk hi219_6
                            have HC219_6 := Aside0.mk hl219_6
                            clear hi219_6 hl219_6
                            have HR219_9 := Aside0.mk hi219_9
                            have HC219_9 := Aside0.mk hl219_9
                            clear hi219_9 hl219_9
                            have HR219_13 := Aside0.mk hi219_13
                            have HC219_13 := Aside0.mk hl219_13
                            clear hi219_13 hl219_13
                            replace p219 := eq_true p219
                            replace q219 := eq_true q219
                            have ea_ := Option.some.inj (hx213_6.symm.trans hx219_6)
                            injection ea_ with ea_ en_ ec_
                            subst ea_
                            subst ec_
                            clear en_
                            have ea_ := Option.some.inj (hx213_9.symm.trans hx219_9)
                            injection ea_ with ea_ en_ ec_
                            subst ea_
                            subst ec_
                            clear en_
                            have ea_ := Option.some.inj (hx213_13.symm.trans hx219_13)
                            injection ea_ with ea_ en_ ec_
                            subst ea_
                            subst ec_
                            clear en_
                            go_wp2_with (first | ((with_reducible refine gate_callee (f := 130) rfl ?_); refine goe_ (some 73) Try.func130 #[.slice A213_6 ((rd_T136 l0 x5_1).f6.f0).length c213_6, .int .i64 (wrap64 ((wrap64 ((wrap64 ((wrap64 ((wrap64 ((wrap64 (x1_1 + 1)) + 1)) + 1)) + 1)) + 1)) + 1))] ?_; (with_reducible refine (laws_heldPrefixS.calls k1 _ _ ((rd_T136 l0 x5_1).f6.f0) (wrap64 ((wrap64 ((wrap64 ((wrap64 ((wrap64 ((wrap64 (x1_1 + 1)) + 1)) + 1)) + 1)) + 1)) + 1)) t220 _ ?side1 ?side2 A11.out).mono ?_); (case side1 => exact kc_ HR219_6.out); (case side2 => exact HC219_6.out); rintro e w' ⟨rfl, ⟨nd, rfl⟩⟩; refine ⟨_, rfl, ?_⟩; have p221 : 0 ≤ (x5_1 : Int) := of_decide_eq_true as_; have q221 : x5_1 < (l0.length : Int) := of_decide_eq_true as_; obtain ⟨ad221, A221_6, c221_6, A221_9, c221_9, A221_13, c221_13, e221, hx221_0, hx221_1, hx221_2, hx221_3, hx221_4, hx221_5, hx221_6, hx221_7, hx221_8, hx221_9, hx221_10, hx221_11, hx221_12, hx221_13, hl221_6, hi221_6, hl221_9, hi221_9, hl221_13, hi221_13⟩ := at_T136 HR0.out x5_1 p221 q221; obtain rfl : ad213 = ad221 := (by injection e221); have HR221_6 := Aside0.mk hi221_6; have HC221_6 := Aside0.mk hl221_6; clear hi221_6 hl221_6; have HR221_9 := Aside0.mk hi221_9; have HC221_9 := Aside0.mk hl221_9; clear hi221_9 hl221_9; have HR221_13 := Aside0.mk hi221_13; have HC221_13 := Aside0.mk hl221_13; clear hi221_13 hl221_13; replace p221 := eq_true p221; replace q221 := eq_true q221; have ea_ := Option.some.inj (hx213_6.symm.trans hx221_6); injection ea_ with ea_ en_ ec_; subst ea_; subst ec_; clear en_; have ea_ := Option.some.inj (hx213_9.symm.trans hx221_9); injection ea_ with ea_ en_ ec_; subst ea_; subst ec_; clear en_; have ea_ := Option.some.inj (hx213_13.symm.trans hx221_13); injection ea_ with ea_ en_ ec_; subst ea_; subst ec_; clear en_; have p222 : 0 ≤ (x5_1 : Int) := of_decide_eq_true as_; have q222 : x5_1 < (l0.length : Int) := of_decide_eq_true as_; obtain ⟨ad222, A222_6, c222_6, A222_9, c222_9, A222_13, c222_13, e222, hx222_0, hx222_1, hx222_2, hx222_3, hx222_4, hx222_5, hx222_6, hx222_7, hx222_8, hx222_9, hx222_10, hx222_11, hx222_12, hx222_13, hl222_6, hi222_6, hl222_9, hi222_9, hl222_13, hi222_13⟩ := at_T136 HR0.out x5_1 p222 q222; obtain rfl : ad213 = ad222 := (by injection e222); have HR222_6 := Aside0.mk hi222_6; have HC222_6 := Aside0.mk hl222_6; clear hi222_6 hl222_6; have HR222_9 := Aside0.mk hi222_9; have HC222_9 := Aside0.mk hl222_9; clear hi222_9 hl222_9; have HR222_13 := Aside0.mk hi222_13; have HC222_13 := Aside0.mk hl222_13; clear hi222_13 hl222_13; replace p222 := eq_true p222; replace q222 := eq_true q222; have ea_ := Option.some.inj (hx213_6.symm.trans hx222_6); injection ea_ with ea_ en_ ec_; subst ea_; subst ec_; clear en_; have ea_ := Option.some.inj (hx213_9.symm.trans hx222_9); injection ea_ with ea_ en_ ec_; subst ea_; subst ec_; clear en_; have ea_ := Option.some.inj (hx213_13.symm.trans hx222_13); injection ea_ with ea_ en_ ec_; subst ea_; subst ec_; clear en_))
                            go_ret
                            exact ⟨sd_, by repeat (first | exact Drawn0.refl _ | apply Drawn0.step)⟩
                    · rw [if_neg c10] at H
                      have c10b0 : (((rd_T136 l0 x5_1).f5) == (wrap64 ((wrap64 ((wrap64 ((wrap64 ((wrap64 (x1_1 + 1)) + 1)) + 1)) + 1)) + 1))) = false := beq_eq_false_iff_ne.mpr c10
                      have c10b1 : (((rd_T136 l0 x5_1).f5) != (wrap64 ((wrap64 ((wrap64 ((wrap64 ((wrap64 (x1_1 + 1)) + 1)) + 1)) + 1)) + 1))) = true := bne_iff_ne.mpr c10
                      obtain rfl := Option.some.inj H
                      have p213 : 0 ≤ (x5_1 : Int) := of_decide_eq_true as_
                      have q213 : x5_1 < (l0.length : Int) := of_decide_eq_true as_
                      obtain ⟨ad213, A213_6, c213_6, A213_9, c213_9, A213_13, c213_13, e213, hx213_0, hx213_1, hx213_2, hx213_3, hx213_4, hx213_5, hx213_6, hx213_7, hx213_8, hx213_9, hx213_10, hx213_11, hx213_12, hx213_13, hl213_6, hi213_6, hl213_9, hi213_9, hl213_13, hi213_13⟩ := at_T136 HR0.out x5_1 p213 q213
                      cases e213
                      have HR213_6 := Aside0.mk hi213_6
                      have HC213_6 := Aside0.mk hl213_6
                      clear hi213_6 hl213_6
                      have HR213_9 := Aside0.mk hi213_9
                      have HC213_9 := Aside0.mk hl213_9
                      clear hi213_9 hl213_9
                      have HR213_13 := Aside0.mk hi213_13
                      have HC213_13 := Aside0.mk hl213_13
                      clear hi213_13 hl213_13
                      replace p213 := eq_true p213
                      replace q213 := eq_true q213
                      have p214 : 0 ≤ (x5_1 : Int) := of_decide_eq_true as_
                      have q214 : x5_1 < (l0.length : Int) := of_decide_eq_true as_
                      obtain ⟨ad214, A214_6, c214_6, A214_9, c214_9, A214_13, c214_13, e214, hx214_0, hx214_1, hx214_2, hx214_3, hx214_4, hx214_5, hx214_6, hx214_7, hx214_8, hx214_9, hx214_10, hx214_11, hx214_12, hx214_13, hl214_6, hi214_6, hl214_9, hi214_9, hl214_13, hi214_13⟩ := at_T136 HR0.out x5_1 p214 q214
                      obtain rfl : ad213 = ad214 := (by injection e214)
                      have HR214_6 := Aside0.mk hi214_6
                      have HC214_6 := Aside0.mk hl214_6
                      clear hi214_6 hl214_6
                      have HR214_9 := Aside0.mk hi214_9
                      have HC214_9 := Aside0.mk hl214_9
                      clear hi214_9 hl214_9
                      have HR214_13 := Aside0.mk hi214_13
                      have HC214_13 := Aside0.mk hl214_13
                      clear hi214_13 hl214_13
                      replace p214 := eq_true p214
                      replace q214 := eq_true q214
                      have ea_ := Option.some.inj (hx213_6.symm.trans hx214_6)
                      injection ea_ with ea_ en_ ec_
                      subst ea_
                      subst ec_
                      clear en_
                      have ea_ := Option.some.inj (hx213_9.symm.trans hx214_9)
                      injection ea_ with ea_ en_ ec_
                      subst ea_
                      subst ec_
                      clear en_
                      have ea_ := Option.some.inj (hx213_13.symm.trans hx214_13)
                      injection ea_ with ea_ en_ ec_
                      subst ea_
                      subst ec_
                      clear en_
                      have p215 : 0 ≤ (x5_1 : Int) := of_decide_eq_true as_
                      have q215 : x5_1 < (l0.length : Int) := of_decide_eq_true as_
                      obtain ⟨ad215, A215_6, c215_6, A215_9, c215_9, A215_13, c215_13, e215, hx215_0, hx215_1, hx215_2, hx215_3, hx215_4, hx215_5, hx215_6, hx215_7, hx215_8, hx215_9, hx215_10, hx215_11, hx215_12, hx215_13, hl215_6, hi215_6, hl215_9, hi215_9, hl215_13, hi215_13⟩ := at_T136 HR0.out x5_1 p215 q215
                      obtain rfl : ad213 = ad215 := (by injection e215)
                      have HR215_6 := Aside0.mk hi215_6
                      have HC215_6 := Aside0.mk hl215_6
                      clear hi215_6 hl215_6
                      have HR215_9 := Aside0.mk hi215_9
                      have HC215_9 := Aside0.mk hl215_9
                      clear hi215_9 hl215_9
                      have HR215_13 := Aside0.mk hi215_13
                      have HC215_13 := Aside0.mk hl215_13
                      clear hi215_13 hl215_13
                      replace p215 := eq_true p215
                      replace q215 := eq_true q215
                      have ea_ := Option.some.inj (hx213_6.symm.trans hx215_6)
                      injection ea_ with ea_ en_ ec_
                      subst ea_
                      subst ec_
                      clear en_
                      have ea_ := Option.some.inj (hx213_9.symm.trans hx215_9)
                      injection ea_ with ea_ en_ ec_
                      subst ea_
                      subst ec_
                      clear en_
                      have ea_ := Option.some.inj (hx213_13.symm.trans hx215_13)
                      injection ea_ with ea_ en_ ec_
                      subst ea_
                      subst ec_
                      clear en_
                      have p216 : 0 ≤ (x5_1 : Int) := of_decide_eq_true as_
                      have q216 : x5_1 < (l0.length : Int) := of_decide_eq_true as_
                      obtain ⟨ad216, A216_6, c216_6, A216_9, c216_9, A216_13, c216_13, e216, hx216_0, hx216_1, hx216_2, hx216_3, hx216_4, hx216_5, hx216_6, hx216_7, hx216_8, hx216_9, hx216_10, hx216_11, hx216_12, hx216_13, hl216_6, hi216_6, hl216_9, hi216_9, hl216_13, hi216_13⟩ := at_T136 HR0.out x5_1 p216 q216
                      obtain rfl : ad213 = ad216 := (by injection e216)
                      have HR216_6 := Aside0.mk hi216_6
                      have HC216_6 := Aside0.mk hl216_6
                      clear hi216_6 hl216_6
                      have HR216_9 := Aside0.mk hi216_9
                      have HC216_9 := Aside0.mk hl216_9
                      clear hi216_9 hl216_9
                      have HR216_13 := Aside0.mk hi216_13
                      have HC216_13 := Aside0.mk hl216_13
                      clear hi216_13 hl216_13
                      replace p216 := eq_true p216
                      replace q216 := eq_true q216
                      have ea_ := Option.some.inj (hx213_6.symm.trans hx216_6)
                      injection ea_ with ea_ en_ ec_
                      subst ea_
                      subst ec_
                      clear en_
                      have ea_ := Option.some.inj (hx213_9.symm.trans hx216_9)
                      injection ea_ with ea_ en_ ec_
                      subst ea_
                      subst ec_
                      clear en_
                      have ea_ := Option.some.inj (hx213_13.symm.trans hx216_13)
                      injection ea_ with ea_ en_ ec_
                      subst ea_
                      subst ec_
                      clear en_
                      have p217 : 0 ≤ (x5_1 : Int) := of_decide_eq_true as_
                      have q217 : x5_1 < (l0.length : Int) := of_decide_eq_true as_
                      obtain ⟨ad217, A217_6, c217_6, A217_9, c217_9, A217_13, c217_13, e217, hx217_0, hx217_1, hx217_2, hx217_3, hx217_4, hx217_5, hx217_6, hx217_7, hx217_8, hx217_9, hx217_10, hx217_11, hx217_12, hx217_13, hl217_6, hi217_6, hl217_9, hi217_9, hl217_13, hi217_13⟩ := at_T136 HR0.out x5_1 p217 q217
                      obtain rfl : ad213 = ad217 := (by injection e217)
                      have HR217_6 := Aside0.mk hi217_6
                      have HC217_6 := Aside0.mk hl217_6
                      clear hi217_6 hl217_6
                      have HR217_9 := Aside0.mk hi217_9
                      have HC217_9 := Aside0.mk hl217_9
                      clear hi217_9 hl217_9
                      have HR217_13 := Aside0.mk hi217_13
                      have HC217_13 := Aside0.mk hl217_13
                      clear hi217_13 hl217_13
                      replace p217 := eq_true p217
                      replace q217 := eq_true q217
                      have ea_ := Option.some.inj (hx213_6.symm.trans hx217_6)
                      injection ea_ with ea_ en_ ec_
                      subst ea_
                      subst ec_
                      clear en_
                      have ea_ := Option.some.inj (hx213_9.symm.trans hx217_9)
                      injection ea_ with ea_ en_ ec_
                      subst ea_
                      subst ec_
                      clear en_
                      have ea_ := Option.some.inj (hx213_13.symm.trans hx217_13)
                      injection ea_ with ea_ en_ ec_
                      subst ea_
                      subst ec_
                      clear en_
                      have p218 : 0 ≤ (x5_1 : Int) := of_decide_eq_true as_
                      have q218 : x5_1 < (l0.length : Int) := of_decide_eq_true as_
                      obtain ⟨ad218, A218_6, c218_6, A218_9, c218_9, A218_13, c218_13, e218, hx218_0, hx218_1, hx218_2, hx218_3, hx218_4, hx218_5, hx218_6, hx218_7, hx218_8, hx218_9, hx218_10, hx218_11, hx218_12, hx218_13, hl218_6, hi218_6, hl218_9, hi218_9, hl218_13, hi218_13⟩ := at_T136 HR0.out x5_1 p218 q218
                      obtain rfl : ad213 = ad218 := (by injection e218)
                      have HR218_6 := Aside0.mk hi218_6
                      have HC218_6 := Aside0.mk hl218_6
                      clear hi218_6 hl218_6
                      have HR218_9 := Aside0.mk hi218_9
                      have HC218_9 := Aside0.mk hl218_9
                      clear hi218_9 hl218_9
                      have HR218_13 := Aside0.mk hi218_13
                      have HC218_13 := Aside0.mk hl218_13
                      clear hi218_13 hl218_13
                      replace p218 := eq_true p218
                      replace q218 := eq_true q218
                      have ea_ := Option.some.inj (hx213_6.symm.trans hx218_6)
                      injection ea_ with ea_ en_ ec_
                      subst ea_
                      subst ec_
                      clear en_
                      have ea_ := Option.some.inj (hx213_9.symm.trans hx218_9)
                      injection ea_ with ea_ en_ ec_
                      subst ea_
                      subst ec_
                      clear en_
                      have ea_ := Option.some.inj (hx213_13.symm.trans hx218_13)
                      injection ea_ with ea_ en_ ec_
                      subst ea_
                      subst ec_
                      clear en_
                      go_wp2
                      go_ret
                      exact ⟨sd_, by repeat (first | exact Drawn0.refl _ | apply Drawn0.step)⟩
                  · rw [if_neg c9] at H
                    have c9b0 : (((rd_T136 l0 x5_1).f4) == (wrap64 ((wrap64 ((wrap64 ((wrap64 (x1_1 + 1)) + 1)) + 1)) + 1))) = false := beq_eq_false_iff_ne.mpr c9
                    have c9b1 : (((rd_T136 l0 x5_1).f4) != (wrap64 ((wrap64 ((wrap64 ((wrap64 (x1_1 + 1)) + 1)) + 1)) + 1))) = true := bne_iff_ne.mpr c9
                    obtain rfl := Option.some.inj H
                    have p213 : 0 ≤ (x5_1 : Int) := of_decide_eq_true as_
                    have q213 : x5_1 < (l0.length : Int) := of_decide_eq_true as_
                    obtain ⟨ad213, A213_6, c213_6, A213_9, c213_9, A213_13, c213_13, e213, hx213_0, hx213_1, hx213_2, hx213_3, hx213_4, hx213_5, hx213_6, hx213_7, hx213_8, hx213_9, hx213_10, hx213_11, hx213_12, hx213_13, hl213_6, hi213_6, hl213_9, hi213_9, hl213_13, hi213_13⟩ := at_T136 HR0.out x5_1 p213 q213
                    cases e213
                    have HR213_6 := Aside0.mk hi213_6
                    have HC213_6 := Aside0.mk hl213_6
                    clear hi213_6 hl213_6
                    have HR213_9 := Aside0.mk hi213_9
                    have HC213_9 := Aside0.mk hl213_9
                    clear hi213_9 hl213_9
                    have HR213_13 := Aside0.mk hi213_13
                    have HC213_13 := Aside0.mk hl213_13
                    clear hi213_13 hl213_13
                    replace p213 := eq_true p213
                    replace q213 := eq_true q213
                    have p214 : 0 ≤ (x5_1 : Int) := of_decide_eq_true as_
                    have q214 : x5_1 < (l0.length : Int) := of_decide_eq_true as_
                    obtain ⟨ad214, A214_6, c214_6, A214_9, c214_9, A214_13, c214_13, e214, hx214_0, hx214_1, hx214_2, hx214_3, hx214_4, hx214_5, hx214_6, hx214_7, hx214_8, hx214_9, hx214_10, hx214_11, hx214_12, hx214_13, hl214_6, hi214_6, hl214_9, hi214_9, hl214_13, hi214_13⟩ := at_T136 HR0.out x5_1 p214 q214
                    obtain rfl : ad213 = ad214 := (by injection e214)
                    have HR214_6 := Aside0.mk hi214_6
                    have HC214_6 := Aside0.mk hl214_6
                    clear hi214_6 hl214_6
                    have HR214_9 := Aside0.mk hi214_9
                    have HC214_9 := Aside0.mk hl214_9
                    clear hi214_9 hl214_9
                    have HR214_13 := Aside0.mk hi214_13
                    have HC214_13 := Aside0.mk hl214_13
                    clear hi214_13 hl214_13
                    replace p214 := eq_true p214
                    replace q214 := eq_true q214
                    have ea_ := Option.some.inj (hx213_6.symm.trans hx214_6)
                    injection ea_ with ea_ en_ ec_
                    subst ea_
                    subst ec_
                    clear en_
                    have ea_ := Option.some.inj (hx213_9.symm.trans hx214_9)
                    injection ea_ with ea_ en_ ec_
                    subst ea_
                    subst ec_
                    clear en_
                    have ea_ := Option.some.inj (hx213_13.symm.trans hx214_13)
                    injection ea_ with ea_ en_ ec_
                    subst ea_
                    subst ec_
                    clear en_
                    have p215 : 0 ≤ (x5_1 : Int) := of_decide_eq_true as_
                    have q215 : x5_1 < (l0.length : Int) := of_decide_eq_true as_
                    obtain ⟨ad215, A215_6, c215_6, A215_9, c215_9, A215_13, c215_13, e215, hx215_0, hx215_1, hx215_2, hx215_3, hx215_4, hx215_5, hx215_6, hx215_7, hx215_8, hx215_9, hx215_10, hx215_11, hx215_12, hx215_13, hl215_6, hi215_6, hl215_9, hi215_9, hl215_13, hi215_13⟩ := at_T136 HR0.out x5_1 p215 q215
                    obtain rfl : ad213 = ad215 := (by injection e215)
                    have HR215_6 := Aside0.mk hi215_6
                    have HC215_6 := Aside0.mk hl215_6
                    clear hi215_6 hl215_6
                    have HR215_9 := Aside0.mk hi215_9
                    have HC215_9 := Aside0.mk hl215_9
                    clear hi215_9 hl215_9
                    have HR215_13 := Aside0.mk hi215_13
                    have HC215_13 := Aside0.mk hl215_13
                    clear hi215_13 hl215_13
                    replace p215 := eq_true p215
                    replace q215 := eq_true q215
                    have ea_ := Option.some.inj (hx213_6.symm.trans hx215_6)
                    injection ea_ with ea_ en_ ec_
                    subst ea_
                    subst ec_
                    clear en_
                    have ea_ := Option.some.inj (hx213_9.symm.trans hx215_9)
                    injection ea_ with ea_ en_ ec_
                    subst ea_
                    subst ec_
                    clear en_
                    have ea_ := Option.some.inj (hx213_13.symm.trans hx215_13)
                    injection ea_ with ea_ en_ ec_
                    subst ea_
                    subst ec_
                    clear en_
                    have p216 : 0 ≤ (x5_1 : Int) := of_decide_eq_true as_
                    have q216 : x5_1 < (l0.length : Int) := of_decide_eq_true as_
                    obtain ⟨ad216, A216_6, c216_6, A216_9, c216_9, A216_13, c216_13, e216, hx216_0, hx216_1, hx216_2, hx216_3, hx216_4, hx216_5, hx216_6, hx216_7, hx216_8, hx216_9, hx216_10, hx216_11, hx216_12, hx216_13, hl216_6, hi216_6, hl216_9, hi216_9, hl216_13, hi216_13⟩ := at_T136 HR0.out x5_1 p216 q216
                    obtain rfl : ad213 = ad216 := (by injection e216)
                    have HR216_6 := Aside0.mk hi216_6
                    have HC216_6 := Aside0.mk hl216_6
                    clear hi216_6 hl216_6
                    have HR216_9 := Aside0.mk hi216_9
                    have HC216_9 := Aside0.mk hl216_9
                    clear hi216_9 hl216_9
                    have HR216_13 := Aside0.mk hi216_13
                    have HC216_13 := Aside0.mk hl216_13
                    clear hi216_13 hl216_13
                    replace p216 := eq_true p216
                    replace q216 := eq_true q216
                    have ea_ := Option.some.inj (hx213_6.symm.trans hx216_6)
                    injection ea_ with ea_ en_ ec_
                    subst ea_
                    subst ec_
                    clear en_
                    have ea_ := Option.some.inj (hx213_9.symm.trans hx216_9)
                    injection ea_ with ea_ en_ ec_
                    subst ea_
                    subst ec_
                    clear en_
                    have ea_ := Option.some.inj (hx213_13.symm.trans hx216_13)
                    injection ea_ with ea_ en_ ec_
                    subst ea_
                    subst ec_
                    clear en_
                    have p217 : 0 ≤ (x5_1 : Int) := of_decide_eq_true as_
                    have q217 : x5_1 < (l0.length : Int) := of_decide_eq_true as_
                    obtain ⟨ad217, A217_6, c217_6, A217_9, c217_9, A217_13, c217_13, e217, hx217_0, hx217_1, hx217_2, hx217_3, hx217_4, hx217_5, hx217_6, hx217_7, hx217_8, hx217_9, hx217_10, hx217_11, hx217_12, hx217_13, hl217_6, hi217_6, hl217_9, hi217_9, hl217_13, hi217_13⟩ := at_T136 HR0.out x5_1 p217 q217
                    obtain rfl : ad213 = ad217 := (by injection e217)
                    have HR217_6 := Aside0.mk hi217_6
                    have HC217_6 := Aside0.mk hl217_6
                    clear hi217_6 hl217_6
                    have HR217_9 := Aside0.mk hi217_9
                    have HC217_9 := Aside0.mk hl217_9
                    clear hi217_9 hl217_9
                    have HR217_13 := Aside0.mk hi217_13
                    have HC217_13 := Aside0.mk hl217_13
                    clear hi217_13 hl217_13
                    replace p217 := eq_true p217
                    replace q217 := eq_true q217
                    have ea_ := Option.some.inj (hx213_6.symm.trans hx217_6)
                    injection ea_ with ea_ en_ ec_
                    subst ea_
                    subst ec_
                    clear en_
                    have ea_ := Option.some.inj (hx213_9.symm.trans hx217_9)
                    injection ea_ with ea_ en_ ec_
                    subst ea_
                    subst ec_
                    clear en_
                    have ea_ := Option.some.inj (hx213_13.symm.trans hx217_13)
                    injection ea_ with ea_ en_ ec_
                    subst ea_
                    subst ec_
                    clear en_
                    go_wp2
                    go_ret
                    exact ⟨sd_, by repeat (first | exact Drawn0.refl _ | apply Drawn0.step)⟩
                · rw [if_neg c8] at H
                  have c8b0 : (((rd_T136 l0 x5_1).f3) == (wrap64 ((wrap64 ((wrap64 (x1_1 + 1)) + 1)) + 1))) = false := beq_eq_false_iff_ne.mpr c8
                  have c8b1 : (((rd_T136 l0 x5_1).f3) != (wrap64 ((wrap64 ((wrap64 (x1_1 + 1)) + 1)) + 1))) = true := bne_iff_ne.mpr c8
                  obtain rfl := Option.some.inj H
                  have p213 : 0 ≤ (x5_1 : Int) := of_decide_eq_true as_
                  have q213 : x5_1 < (l0.length : Int) := of_decide_eq_true as_
                  obtain ⟨ad213, A213_6, c213_6, A213_9, c213_9, A213_13, c213_13, e213, hx213_0, hx213_1, hx213_2, hx213_3, hx213_4, hx213_5, hx213_6, hx213_7, hx213_8, hx213_9, hx213_10, hx213_11, hx213_12, hx213_13, hl213_6, hi213_6, hl213_9, hi213_9, hl213_13, hi213_13⟩ := at_T136 HR0.out x5_1 p213 q213
                  cases e213
                  have HR213_6 := Aside0.mk hi213_6
                  have HC213_6 := Aside0.mk hl213_6
                  clear hi213_6 hl213_6
                  have HR213_9 := Aside0.mk hi213_9
                  have HC213_9 := Aside0.mk hl213_9
                  clear hi213_9 hl213_9
                  have HR213_13 := Aside0.mk hi213_13
                  have HC213_13 := Aside0.mk hl213_13
                  clear hi213_13 hl213_13
                  replace p213 := eq_true p213
                  replace q213 := eq_true q213
                  have p214 : 0 ≤ (x5_1 : Int) := of_decide_eq_true as_
                  have q214 : x5_1 < (l0.length : Int) := of_decide_eq_true as_
                  obtain ⟨ad214, A214_6, c214_6, A214_9, c214_9, A214_13, c214_13, e214, hx214_0, hx214_1, hx214_2, hx214_3, hx214_4, hx214_5, hx214_6, hx214_7, hx214_8, hx214_9, hx214_10, hx214_11, hx214_12, hx214_13, hl214_6, hi214_6, hl214_9, hi214_9, hl214_13, hi214_13⟩ := at_T136 HR0.out x5_1 p214 q214
                  obtain rfl : ad213 = ad214 := (by injection e214)
                  have HR214_6 := Aside0.mk hi214_6
                  have HC214_6 := Aside0.mk hl214_6
                  clear hi214_6 hl214_6
                  have HR214_9 := Aside0.mk hi214_9
                  have HC214_9 := Aside0.mk hl214_9
                  clear hi214_9 hl214_9
                  have HR214_13 := Aside0.mk hi214_13
                  have HC214_13 := Aside0.mk hl214_13
                  clear hi214_13 hl214_13
                  replace p214 := eq_true p214
                  replace q214 := eq_true q214
                  have ea_ := Option.some.inj (hx213_6.symm.trans hx214_6)
                  injection ea_ with ea_ en_ ec_
                  subst ea_
                  subst ec_
                  clear en_
                  have ea_ := Option.some.inj (hx213_9.symm.trans hx214_9)
                  injection ea_ with ea_ en_ ec_
                  subst ea_
                  subst ec_
                  clear en_
                  have ea_ := Option.some.inj (hx213_13.symm.trans hx214_13)
                  injection ea_ with ea_ en_ ec_
                  subst ea_
                  subst ec_
                  clear en_
                  have p215 : 0 ≤ (x5_1 : Int) := of_decide_eq_true as_
                  have q215 : x5_1 < (l0.length : Int) := of_decide_eq_true as_
                  obtain ⟨ad215, A215_6, c215_6, A215_9, c215_9, A215_13, c215_13, e215, hx215_0, hx215_1, hx215_2, hx215_3, hx215_4, hx215_5, hx215_6, hx215_7, hx215_8, hx215_9, hx215_10, hx215_11, hx215_12, hx215_13, hl215_6, hi215_6, hl215_9, hi215_9, hl215_13, hi215_13⟩ := at_T136 HR0.out x5_1 p215 q215
                  obtain rfl : ad213 = ad215 := (by injection e215)
                  have HR215_6 := Aside0.mk hi215_6
                  have HC215_6 := Aside0.mk hl215_6
                  clear hi215_6 hl215_6
                  have HR215_9 := Aside0.mk hi215_9
                  have HC215_9 := Aside0.mk hl215_9
                  clear hi215_9 hl215_9
                  have HR215_13 := Aside0.mk hi215_13
                  have HC215_13 := Aside0.mk hl215_13
                  clear hi215_13 hl215_13
                  replace p215 := eq_true p215
                  replace q215 := eq_true q215
                  have ea_ := Option.some.inj (hx213_6.symm.trans hx215_6)
                  injection ea_ with ea_ en_ ec_
                  subst ea_
                  subst ec_
                  clear en_
                  have ea_ := Option.some.inj (hx213_9.symm.trans hx215_9)
                  injection ea_ with ea_ en_ ec_
                  subst ea_
                  subst ec_
                  clear en_
                  have ea_ := Option.some.inj (hx213_13.symm.trans hx215_13)
                  injection ea_ with ea_ en_ ec_
                  subst ea_
                  subst ec_
                  clear en_
                  have p216 : 0 ≤ (x5_1 : Int) := of_decide_eq_true as_
                  have q216 : x5_1 < (l0.length : Int) := of_decide_eq_true as_
                  obtain ⟨ad216, A216_6, c216_6, A216_9, c216_9, A216_13, c216_13, e216, hx216_0, hx216_1, hx216_2, hx216_3, hx216_4, hx216_5, hx216_6, hx216_7, hx216_8, hx216_9, hx216_10, hx216_11, hx216_12, hx216_13, hl216_6, hi216_6, hl216_9, hi216_9, hl216_13, hi216_13⟩ := at_T136 HR0.out x5_1 p216 q216
                  obtain rfl : ad213 = ad216 := (by injection e216)
                  have HR216_6 := Aside0.mk hi216_6
                  have HC216_6 := Aside0.mk hl216_6
                  clear hi216_6 hl216_6
                  have HR216_9 := Aside0.mk hi216_9
                  have HC216_9 := Aside0.mk hl216_9
                  clear hi216_9 hl216_9
                  have HR216_13 := Aside0.mk hi216_13
                  have HC216_13 := Aside0.mk hl216_13
                  clear hi216_13 hl216_13
                  replace p216 := eq_true p216
                  replace q216 := eq_true q216
                  have ea_ := Option.some.inj (hx213_6.symm.trans hx216_6)
                  injection ea_ with ea_ en_ ec_
                  subst ea_
                  subst ec_
                  clear en_
                  have ea_ := Option.some.inj (hx213_9.symm.trans hx216_9)
                  injection ea_ with ea_ en_ ec_
                  subst ea_
                  subst ec_
                  clear en_
                  have ea_ := Option.some.inj (hx213_13.symm.trans hx216_13)
                  injection ea_ with ea_ en_ ec_
                  subst ea_
                  subst ec_
                  clear en_
                  go_wp2
                  go_ret
                  exact ⟨sd_, by repeat (first | exact Drawn0.refl _ | apply Drawn0.step)⟩
              · rw [if_neg c7] at H
                have c7b0 : (((rd_T136 l0 x5_1).f2) == (wrap64 ((wrap64 (x1_1 + 1)) + 1))) = false := beq_eq_false_iff_ne.mpr c7
                have c7b1 : (((rd_T136 l0 x5_1).f2) != (wrap64 ((wrap64 (x1_1 + 1)) + 1))) = true := bne_iff_ne.mpr c7
                obtain rfl := Option.some.inj H
                have p213 : 0 ≤ (x5_1 : Int) := of_decide_eq_true as_
                have q213 : x5_1 < (l0.length : Int) := of_decide_eq_true as_
                obtain ⟨ad213, A213_6, c213_6, A213_9, c213_9, A213_13, c213_13, e213, hx213_0, hx213_1, hx213_2, hx213_3, hx213_4, hx213_5, hx213_6, hx213_7, hx213_8, hx213_9, hx213_10, hx213_11, hx213_12, hx213_13, hl213_6, hi213_6, hl213_9, hi213_9, hl213_13, hi213_13⟩ := at_T136 HR0.out x5_1 p213 q213
                cases e213
                have HR213_6 := Aside0.mk hi213_6
                have HC213_6 := Aside0.mk hl213_6
                clear hi213_6 hl213_6
                have HR213_9 := Aside0.mk hi213_9
                have HC213_9 := Aside0.mk hl213_9
                clear hi213_9 hl213_9
                have HR213_13 := Aside0.mk hi213_13
                have HC213_13 := Aside0.mk hl213_13
                clear hi213_13 hl213_13
                replace p213 := eq_true p213
                replace q213 := eq_true q213
                have p214 : 0 ≤ (x5_1 : Int) := of_decide_eq_true as_
                have q214 : x5_1 < (l0.length : Int) := of_decide_eq_true as_
                obtain ⟨ad214, A214_6, c214_6, A214_9, c214_9, A214_13, c214_13, e214, hx214_0, hx214_1, hx214_2, hx214_3, hx214_4, hx214_5, hx214_6, hx214_7, hx214_8, hx214_9, hx214_10, hx214_11, hx214_12, hx214_13, hl214_6, hi214_6, hl214_9, hi214_9, hl214_13, hi214_13⟩ := at_T136 HR0.out x5_1 p214 q214
                obtain rfl : ad213 = ad214 := (by injection e214)
                have HR214_6 := Aside0.mk hi214_6
                have HC214_6 := Aside0.mk hl214_6
                clear hi214_6 hl214_6
                have HR214_9 := Aside0.mk hi214_9
                have HC214_9 := Aside0.mk hl214_9
                clear hi214_9 hl214_9
                have HR214_13 := Aside0.mk hi214_13
                have HC214_13 := Aside0.mk hl214_13
                clear hi214_13 hl214_13
                replace p214 := eq_true p214
                replace q214 := eq_true q214
                have ea_ := Option.some.inj (hx213_6.symm.trans hx214_6)
                injection ea_ with ea_ en_ ec_
                subst ea_
                subst ec_
                clear en_
                have ea_ := Option.some.inj (hx213_9.symm.trans hx214_9)
                injection ea_ with ea_ en_ ec_
                subst ea_
                subst ec_
                clear en_
                have ea_ := Option.some.inj (hx213_13.symm.trans hx214_13)
                injection ea_ with ea_ en_ ec_
                subst ea_
                subst ec_
                clear en_
                have p215 : 0 ≤ (x5_1 : Int) := of_decide_eq_true as_
                have q215 : x5_1 < (l0.length : Int) := of_decide_eq_true as_
                obtain ⟨ad215, A215_6, c215_6, A215_9, c215_9, A215_13, c215_13, e215, hx215_0, hx215_1, hx215_2, hx215_3, hx215_4, hx215_5, hx215_6, hx215_7, hx215_8, hx215_9, hx215_10, hx215_11, hx215_12, hx215_13, hl215_6, hi215_6, hl215_9, hi215_9, hl215_13, hi215_13⟩ := at_T136 HR0.out x5_1 p215 q215
                obtain rfl : ad213 = ad215 := (by injection e215)
                have HR215_6 := Aside0.mk hi215_6
                have HC215_6 := Aside0.mk hl215_6
                clear hi215_6 hl215_6
                have HR215_9 := Aside0.mk hi215_9
                have HC215_9 := Aside0.mk hl215_9
                clear hi215_9 hl215_9
                have HR215_13 := Aside0.mk hi215_13
                have HC215_13 := Aside0.mk hl215_13
                clear hi215_13 hl215_13
                replace p215 := eq_true p215
                replace q215 := eq_true q215
                have ea_ := Option.some.inj (hx213_6.symm.trans hx215_6)
                injection ea_ with ea_ en_ ec_
                subst ea_
                subst ec_
                clear en_
                have ea_ := Option.some.inj (hx213_9.symm.trans hx215_9)
                injection ea_ with ea_ en_ ec_
                subst ea_
                subst ec_
                clear en_
                have ea_ := Option.some.inj (hx213_13.symm.trans hx215_13)
                injection ea_ with ea_ en_ ec_
                subst ea_
                subst ec_
                clear en_
                go_wp2
                go_ret
                exact ⟨sd_, by repeat (first | exact Drawn0.refl _ | apply Drawn0.step)⟩
            · rw [if_neg c6] at H
              have c6b0 : (((rd_T136 l0 x5_1).f1) == (wrap64 (x1_1 + 1))) = false := beq_eq_false_iff_ne.mpr c6
              have c6b1 : (((rd_T136 l0 x5_1).f1) != (wrap64 (x1_1 + 1))) = true := bne_iff_ne.mpr c6
              obtain rfl := Option.some.inj H
              have p213 : 0 ≤ (x5_1 : Int) := of_decide_eq_true as_
              have q213 : x5_1 < (l0.length : Int) := of_decide_eq_true as_
              obtain ⟨ad213, A213_6, c213_6, A213_9, c213_9, A213_13, c213_13, e213, hx213_0, hx213_1, hx213_2, hx213_3, hx213_4, hx213_5, hx213_6, hx213_7, hx213_8, hx213_9, hx213_10, hx213_11, hx213_12, hx213_13, hl213_6, hi213_6, hl213_9, hi213_9, hl213_13, hi213_13⟩ := at_T136 HR0.out x5_1 p213 q213
              cases e213
              have HR213_6 := Aside0.mk hi213_6
              have HC213_6 := Aside0.mk hl213_6
              clear hi213_6 hl213_6
              have HR213_9 := Aside0.mk hi213_9
              have HC213_9 := Aside0.mk hl213_9
              clear hi213_9 hl213_9
              have HR213_13 := Aside0.mk hi213_13
              have HC213_13 := Aside0.mk hl213_13
              clear hi213_13 hl213_13
              replace p213 := eq_true p213
              replace q213 := eq_true q213
              have p214 : 0 ≤ (x5_1 : Int) := of_decide_eq_true as_
              have q214 : x5_1 < (l0.length : Int) := of_decide_eq_true as_
              obtain ⟨ad214, A214_6, c214_6, A214_9, c214_9, A214_13, c214_13, e214, hx214_0, hx214_1, hx214_2, hx214_3, hx214_4, hx214_5, hx214_6, hx214_7, hx214_8, hx214_9, hx214_10, hx214_11, hx214_12, hx214_13, hl214_6, hi214_6, hl214_9, hi214_9, hl214_13, hi214_13⟩ := at_T136 HR0.out x5_1 p214 q214
              obtain rfl : ad213 = ad214 := (by injection e214)
              have HR214_6 := Aside0.mk hi214_6
              have HC214_6 := Aside0.mk hl214_6
              clear hi214_6 hl214_6
              have HR214_9 := Aside0.mk hi214_9
              have HC214_9 := Aside0.mk hl214_9
              clear hi214_9 hl214_9
              have HR214_13 := Aside0.mk hi214_13
              have HC214_13 := Aside0.mk hl214_13
              clear hi214_13 hl214_13
              replace p214 := eq_true p214
              replace q214 := eq_true q214
              have ea_ := Option.some.inj (hx213_6.symm.trans hx214_6)
              injection ea_ with ea_ en_ ec_
              subst ea_
              subst ec_
              clear en_
              have ea_ := Option.some.inj (hx213_9.symm.trans hx214_9)
              injection ea_ with ea_ en_ ec_
              subst ea_
              subst ec_
              clear en_
              have ea_ := Option.some.inj (hx213_13.symm.trans hx214_13)
              injection ea_ with ea_ en_ ec_
              subst ea_
              subst ec_
              clear en_
              go_wp2
              go_ret
              exact ⟨sd_, by repeat (first | exact Drawn0.refl _ | apply Drawn0.step)⟩
          · rw [if_neg c5] at H
            have c5b0 : (((rd_T136 l0 x5_1).f0) == x1_1) = false := beq_eq_false_iff_ne.mpr c5
            have c5b1 : (((rd_T136 l0 x5_1).f0) != x1_1) = true := bne_iff_ne.mpr c5
            obtain rfl := Option.some.inj H
            have p213 : 0 ≤ (x5_1 : Int) := of_decide_eq_true as_
            have q213 : x5_1 < (l0.length : Int) := of_decide_eq_true as_
            obtain ⟨ad213, A213_6, c213_6, A213_9, c213_9, A213_13, c213_13, e213, hx213_0, hx213_1, hx213_2, hx213_3, hx213_4, hx213_5, hx213_6, hx213_7, hx213_8, hx213_9, hx213_10, hx213_11, hx213_12, hx213_13, hl213_6, hi213_6, hl213_9, hi213_9, hl213_13, hi213_13⟩ := at_T136 HR0.out x5_1 p213 q213
            cases e213
            have HR213_6 := Aside0.mk hi213_6
            have HC213_6 := Aside0.mk hl213_6
            clear hi213_6 hl213_6
            have HR213_9 := Aside0.mk hi213_9
            have HC213_9 := Aside0.mk hl213_9
            clear hi213_9 hl213_9
            have HR213_13 := Aside0.mk hi213_13
            have HC213_13 := Aside0.mk hl213_13
            clear hi213_13 hl213_13
            replace p213 := eq_true p213
            replace q213 := eq_true q213
            go_wp2
            go_ret
            exact ⟨sd_, by repeat (first | exact Drawn0.refl _ | apply Drawn0.step)⟩
        · rw [if_neg c4] at H
          exact absurd H (by simp)
      · rw [if_neg c3] at H
        have c3b0 : decide (x5_1 < (l0.length : Int)) = false := decide_eq_false c3
        clear c3
        obtain rfl := Option.some.inj H
        go_wp2
        go_ret
        exact ⟨sd_, by repeat (first | exact Drawn0.refl _ | apply Drawn0.step)⟩
end Go.Proofs.Ythmkjapmnlhflaa.PFnExactStartSession
