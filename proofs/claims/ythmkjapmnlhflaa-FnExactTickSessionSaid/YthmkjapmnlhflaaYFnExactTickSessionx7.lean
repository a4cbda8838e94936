/- The functions that the law FnExactTickSession reaches: each as a plain Lean function, with the proof that the call does what it says. -/
import Derived.Test.YthmkjapmnlhflaaYFnExactTickSessionx0
import Derived.Test.YthmkjapmnlhflaaYFnExactTickSessionx5
import Derived.Test.YthmkjapmnlhflaaYFnExactTickSessionx6
namespace Go.Proofs.Ythmkjapmnlhflaa.PFnExactTickSession
open Go.RowKit Go.Proofs.YthmkjapmnlhflaaW.PrintWords Go.Proofs.YthmkjapmnlhflaaW.PrintLast Go.Proofs.YthmkjapmnlhflaaW.PrintMore
attribute [local go_sem] max2_int min2_int max_two min_two max_three min_three max_four min_four
set_option linter.unusedVariables false
set_option linter.unusedSimpArgs false
def laws_heldMessageS.l0 : Nat → List (S136) → Int → Int → Option (Int)
  | 0, _, _, _ => none
  | k + 1, x0, x1, x5 => if x5 < (x0.length : Int) then (if 0 ≤ x5 then (if ((rd_T136 x0 x5).f0) = x1 then (if ((rd_T136 x0 x5).f1) = (wrap64 (x1 + 1)) then (if ((rd_T136 x0 x5).f2) = (wrap64 ((wrap64 (x1 + 1)) + 1)) then (if ((rd_T136 x0 x5).f3) = (wrap64 ((wrap64 ((wrap64 (x1 + 1)) + 1)) + 1)) then (if ((rd_T136 x0 x5).f4) = (wrap64 ((wrap64 ((wrap64 ((wrap64 (x1 + 1)) + 1)) + 1)) + 1)) then (if ((rd_T136 x0 x5).f5) = (wrap64 ((wrap64 ((wrap64 ((wrap64 ((wrap64 (x1 + 1)) + 1)) + 1)) + 1)) + 1)) then ((laws_heldPrefixS.f k ((rd_T136 x0 x5).f6.f0) (wrap64 ((wrap64 ((wrap64 ((wrap64 ((wrap64 ((wrap64 (x1 + 1)) + 1)) + 1)) + 1)) + 1)) + 1))).bind fun t148 => (if t148 < 0 then (some (-1)) else (if (((rd_T136 x0 x5).f6.f1) != ((Int.tmod t148 3) == 0)) = true then (some (-1)) else (if ((rd_T136 x0 x5).f6.f2.f0) = (wrap64 (t148 + 1)) then ((laws_heldInt64S.f k ((rd_T136 x0 x5).f6.f2.f1) (wrap64 ((wrap64 (t148 + 1)) + 1))).bind fun t152 => (if t152 < 0 then (some (-1)) else (if ((rd_T136 x0 x5).f6.f2.f2) = t152 then (if ((rd_T136 x0 x5).f6.f2.f3) = (wrap64 (t152 + 1)) then (if ((rd_T136 x0 x5).f6.f2.f4) = (wrap64 ((wrap64 (t152 + 1)) + 1)) then ((laws_heldPrefixS.f k ((rd_T136 x0 x5).f6.f3) (wrap64 ((wrap64 ((wrap64 (t152 + 1)) + 1)) + 1))).bind fun t157 => (if t157 < 0 then (some (-1)) else (laws_heldMessageS.l0 k x0 t157 (wrap64 (x5 + 1))))) else (some (-1))) else (some (-1))) else (some (-1))))) else (some (-1)))))) else (some (-1))) else (some (-1))) else (some (-1))) else (some (-1))) else (some (-1))) else (some (-1))) else (none)) else (some x1)
def laws_heldMessageS.f (k : Nat) (l0 : List (S136)) (a1 : Int) : Option (Int) := laws_heldMessageS.l0 k l0 a1 0
theorem laws_heldMessageS.mono_l : ∀ k, (∀ y0 y1 y2, LeO (laws_heldMessageS.l0 k y0 y1 y2) (laws_heldMessageS.l0 (k + 1) y0 y1 y2))
  | 0 => fun _ _ _ r h => by simp [laws_heldMessageS.l0] at h
  | k + 1 => by
    have ih0 := laws_heldMessageS.mono_l k
    · intro y0 y1 y2
      unfold laws_heldMessageS.l0
      repeat' first
      | (with_reducible exact ih0 _ _ _)
      | (with_reducible exact laws_heldInt64S.mono _ _ _)
      | (with_reducible exact laws_heldPrefixS.mono _ _ _)
      | (with_reducible exact LeO.refl _)
      | (with_reducible exact LeO.none _)
      | (with_reducible refine LeO.ite ?_ ?_)
      | (with_reducible refine LeO.bind ?_ (fun _ => ?_))
      | exact ih0 _ _ _
      | exact laws_heldInt64S.mono _ _ _
      | exact laws_heldPrefixS.mono _ _ _
      | exact LeO.none _
      | refine LeO.ite ?_ ?_
      | refine LeO.bind ?_ (fun _ => ?_)
theorem laws_heldMessageS.mono : ∀ a0 a1 k, LeO (laws_heldMessageS.f k a0 a1) (laws_heldMessageS.f (k + 1) a0 a1) := by
  intro a0 a1 k
  have ih0 := laws_heldMessageS.mono_l k
  unfold laws_heldMessageS.f
  repeat' first
      | (with_reducible exact ih0 _ _ _)
      | (with_reducible exact laws_heldInt64S.mono _ _ _)
      | (with_reducible exact laws_heldPrefixS.mono _ _ _)
      | (with_reducible exact LeO.refl _)
      | (with_reducible exact LeO.none _)
      | (with_reducible refine LeO.ite ?_ ?_)
      | (with_reducible refine LeO.bind ?_ (fun _ => ?_))
      | exact ih0 _ _ _
      | exact laws_heldInt64S.mono _ _ _
      | exact laws_heldPrefixS.mono _ _ _
      | exact LeO.none _
      | refine LeO.ite ?_ ?_
      | refine LeO.bind ?_ (fun _ => ?_)
set_option maxHeartbeats 8000000 in
set_option maxRecDepth 100000 in
theorem laws_heldMessageS.calls (k : Nat) (A0 : Option Addr) (c0 : Nat) (l0 : List (S136)) (a1 : Int) (r : Int) (w : World) (hr0 : Kd.C k136 w A0 l0.length l0) (hc0 : l0.length ≤ c0) (h : laws_heldMessageS.f k l0 a1 = some r) :
    Calls Try.prog 93 #[.slice A0 l0.length c0, .int .i64 a1] w fun e w' => e = .returned (.int .i64 r) ∧ Drawn0 w w' := by
  have HR0 := Aside0.mk hr0
  have HC0 := Aside0.mk hc0
  clear hr0 hc0
  have H : (laws_heldMessageS.l0 k l0 a1 0) = some r := h
  clear h
  have H' := Aside0.mk H
  clear H
  go_enter Try.func93, Try.ntmps93
  go_wp2
  go_loopg [1, 5] k (fun kq v1 v5 w' => ∃ (x1_1 : Int) (x5_1 : Int), v1 = .int .i64 x1_1 ∧ v5 = .int .i64 x5_1 ∧ Aside0 (laws_heldMessageS.l0 kq l0 x1_1 x5_1 = some r) ∧ Aside0 (kq ≤ k) ∧ Drawn0 w w')
  case atStart => exact ⟨(a1), (0), sd_, sd_, H', ⟨Nat.le_refl _⟩, by repeat (first | exact Drawn0.refl _ | apply Drawn0.step)⟩
  case round =>
    clear H'
    try clear p2
    obtain ⟨x1_1, x5_1, rfl, rfl, HA, HK1, ⟨m1, rfl⟩⟩ := hrel
    cases gk with
    | zero => exact absurd HA.out (by simp [laws_heldMessageS.l0])
    | succ k1 =>
      have H := HA.out
      clear HA
      simp only [laws_heldMessageS.l0] at H
      by_cases c3 : x5_1 < (l0.length : Int)
      · rw [if_pos c3] at H
        have c3b0 : decide (x5_1 < (l0.length : Int)) = true := decide_eq_true c3
        clear c3
        by_cases c4 : 0 ≤ x5_1
        · rw [if_pos c4] at H
          have c4b0 : decide (0 ≤ x5_1) = true := decide_eq_true c4
          clear c4
          by_cases c5 : ((rd_T136 l0 x5_1).f0) = x1_1
          · rw [if_pos c5] at H
            have c5b0 : (((rd_T136 l0 x5_1).f0) == x1_1) = true := beq_iff_eq.mpr c5
            have c5b1 : (((rd_T136 l0 x5_1).f0) != x1_1) = false := bne_eq_false_iff_eq.mpr c5
            clear c5
            by_cases c6 : ((rd_T136 l0 x5_1).f1) = (wrap64 (x1_1 + 1))
            · rw [if_pos c6] at H
              have c6b0 : (((rd_T136 l0 x5_1).f1) == (wrap64 (x1_1 + 1))) = true := beq_iff_eq.mpr c6
              have c6b1 : (((rd_T136 l0 x5_1).f1) != (wrap64 (x1_1 + 1))) = false := bne_eq_false_iff_eq.mpr c6
              clear c6
              by_cases c7 : ((rd_T136 l0 x5_1).f2) = (wrap64 ((wrap64 (x1_1 + 1)) + 1))
              · rw [if_pos c7] at H
                have c7b0 : (((rd_T136 l0 x5_1).f2) == (wrap64 ((wrap64 (x1_1 + 1)) + 1))) = true := beq_iff_eq.mpr c7
                have c7b1 : (((rd_T136 l0 x5_1).f2) != (wrap64 ((wrap64 (x1_1 + 1)) + 1))) = false := bne_eq_false_iff_eq.mpr c7
                clear c7
                by_cases c8 : ((rd_T136 l0 x5_1).f3) = (wrap64 ((wrap64 ((wrap64 (x1_1 + 1)) + 1)) + 1))
                · rw [if_pos c8] at H
                  have c8b0 : (((rd_T136 l0 x5_1).f3) == (wrap64 ((wrap64 ((wrap64 (x1_1 + 1)) + 1)) + 1))) = true := beq_iff_eq.mpr c8
                  have c8b1 : (((rd_T136 l0 x5_1).f3) != (wrap64 ((wrap64 ((wrap64 (x1_1 + 1)) + 1)) + 1))) = false := bne_eq_false_iff_eq.mpr c8
                  clear c8
                  by_cases c9 : ((rd_T136 l0 x5_1).f4) = (wrap64 ((wrap64 ((wrap64 ((wrap64 (x1_1 + 1)) + 1)) + 1)) + 1))
                  · rw [if_pos c9] at H
                    have c9b0 : (((rd_T136 l0 x5_1).f4) == (wrap64 ((wrap64 ((wrap64 ((wrap64 (x1_1 + 1)) + 1)) + 1)) + 1))) = true := beq_iff_eq.mpr c9
                    have c9b1 : (((rd_T136 l0 x5_1).f4) != (wrap64 ((wrap64 ((wrap64 ((wrap64 (x1_1 + 1)) + 1)) + 1)) + 1))) = false := bne_eq_false_iff_eq.mpr c9
                    clear c9
                    by_cases c10 : ((rd_T136 l0 x5_1).f5) = (wrap64 ((wrap64 ((wrap64 ((wrap64 ((wrap64 (x1_1 + 1)) + 1)) + 1)) + 1)) + 1))
                    · rw [if_pos c10] at H
                      have c10b0 : (((rd_T136 l0 x5_1).f5) == (wrap64 ((wrap64 ((wrap64 ((wrap64 ((wrap64 (x1_1 + 1)) + 1)) + 1)) + 1)) + 1))) = true := beq_iff_eq.mpr c10
                      have c10b1 : (((rd_T136 l0 x5_1).f5) != (wrap64 ((wrap64 ((wrap64 ((wrap64 ((wrap64 (x1_1 + 1)) + 1)) + 1)) + 1)) + 1))) = false := bne_eq_false_iff_eq.mpr c10
                      clear c10
                      replace H := Option.bind_eq_some_iff.mp H
                      obtain ⟨t148, A110, H⟩ := H
                      replace H : (if t148 < 0 then (some (-1)) else (if (((rd_T136 l0 x5_1).f6.f1) != ((Int.tmod t148 3) == 0)) = true then (some (-1)) else (if ((rd_T136 l0 x5_1).f6.f2.f0) = (wrap64 (t148 + 1)) then ((laws_heldInt64S.f k1 ((rd_T136 l0 x5_1).f6.f2.f1) (wrap64 ((wrap64 (t148 + 1)) + 1))).bind fun t152 => (if t152 < 0 then (some (-1)) else (if ((rd_T136 l0 x5_1).f6.f2.f2) = t152 then (if ((rd_T136 l0 x5_1).f6.f2.f3) = (wrap64 (t152 + 1)) then (if ((rd_T136 l0 x5_1).f6.f2.f4) = (wrap64 ((wrap64 (t152 + 1)) + 1)) then ((laws_heldPrefixS.f k1 ((rd_T136 l0 x5_1).f6.f3) (wrap64 ((wrap64 ((wrap64 (t152 + 1)) + 1)) + 1))).bind fun t157 => (if t157 < 0 then (some (-1)) else (laws_heldMessageS.l0 k1 l0 t157 (wrap64 (x5_1 + 1))))) else (some (-1))) else (some (-1))) else (some (-1))))) else (some (-1))))) = some r := H
                      have A11 := Aside0.mk A110
                      clear A110
                      by_cases c12 : t148 < 0
                      · rw [if_pos c12] at H
                        have c12b0 : decide (t148 < 0) = true := decide_eq_true c12
                        clear c12
                        obtain rfl := Option.some.inj H
                        have p141 : 0 ≤ (x5_1 : Int) := of_decide_eq_true as_
                        have q141 : x5_1 < (l0.length : Int) := of_decide_eq_true as_
                        obtain ⟨ad141, A141_6, c141_6, A141_9, c141_9, A141_13, c141_13, e141, hx141_0, hx141_1, hx141_2, hx141_3, hx141_4, hx141_5, hx141_6, hx141_7, hx141_8, hx141_9, hx141_10, hx141_11, hx141_12, hx141_13, hl141_6, hi141_6, hl141_9, hi141_9, hl141_13, hi141_13⟩ := at_T136 HR0.out x5_1 p141 q141
                        cases e141
                        have HR141_6 := Aside0.mk hi141_6
                        have HC141_6 := Aside0.mk hl141_6
                        clear hi141_6 hl141_6
                        have HR141_9 := Aside0.mk hi141_9
                        have HC141_9 := Aside0.mk hl141_9
                        clear hi141_9 hl141_9
                        have HR141_13 := Aside0.mk hi141_13
                        have HC141_13 := Aside0.mk hl141_13
                        clear hi141_13 hl141_13
                        replace p141 := eq_true p141
                        replace q141 := eq_true q141
                        have p142 : 0 ≤ (x5_1 : Int) := of_decide_eq_true as_
                        have q142 : x5_1 < (l0.length : Int) := of_decide_eq_true as_
                        obtain ⟨ad142, A142_6, c142_6, A142_9, c142_9, A142_13, c142_13, e142, hx142_0, hx142_1, hx142_2, hx142_3, hx142_4, hx142_5, hx142_6, hx142_7, hx142_8, hx142_9, hx142_10, hx142_11, hx142_12, hx142_13, hl142_6, hi142_6, hl142_9, hi142_9, hl142_13, hi142_13⟩ := at_T136 HR0.out x5_1 p142 q142
                        obtain rfl : ad141 = ad142 := (by injection e142)
                        have HR142_6 := Aside0.mk hi142_6
                        have HC142_6 := Aside0.mk hl142_6
                        clear hi142_6 hl142_6
                        have HR142_9 := Aside0.mk hi142_9
                        have HC142_9 := Aside0.mk hl142_9
                        clear hi142_9 hl142_9
                        have HR142_13 := Aside0.mk hi142_13
                        have HC142_13 := Aside0.mk hl142_13
                        clear hi142_13 hl142_13
                        replace p142 := eq_true p142
                        replace q142 := eq_true q142
                        have ea_ := Option.some.inj (hx141_6.symm.trans hx142_6)
                        injection ea_ with ea_ en_ ec_
                        subst ea_
                        subst ec_
                        clear en_
                        have ea_ := Option.some.inj (hx141_9.symm.trans hx142_9)
                        injection ea_ with ea_ en_ ec_
                        subst ea_
                        subst ec_
                        clear en_
                        have ea_ := Option.some.inj (hx141_13.symm.trans hx142_13)
                        injection ea_ with ea_ en_ ec_
                        subst ea_
                        subst ec_
                        clear en_
                        have p143 : 0 ≤ (x5_1 : Int) := of_decide_eq_true as_
                        have q143 : x5_1 < (l0.length : Int) := of_decide_eq_true as_
                        obtain ⟨ad143, A143_6, c143_6, A143_9, c143_9, A143_13, c143_13, e143, hx143_0, hx143_1, hx143_2, hx143_3, hx143_4, hx143_5, hx143_6, hx143_7, hx143_8, hx143_9, hx143_10, hx143_11, hx143_12, hx143_13, hl143_6, hi143_6, hl143_9, hi143_9, hl143_13, hi143_13⟩ := at_T136 HR0.out x5_1 p143 q143
                        obtain rfl : ad141 = ad143 := (by injection e143)
                        have HR143_6 := Aside0.mk hi143_6
                        have HC143_6 := Aside0.mk hl143_6
                        clear hi143_6 hl143_6
                        have HR143_9 := Aside0.mk hi143_9
                        have HC143_9 := Aside0.mk hl143_9
                        clear hi143_9 hl143_9
                        have HR143_13 := Aside0.mk hi143_13
                        have HC143_13 := Aside0.mk hl143_13
                        clear hi143_13 hl143_13
                        replace p143 := eq_true p143
                        replace q143 := eq_true q143
                        have ea_ := Option.some.inj (hx141_6.symm.trans hx143_6)
                        injection ea_ with ea_ en_ ec_
                        subst ea_
                        subst ec_
                        clear en_
                        have ea_ := Option.some.inj (hx141_9.symm.trans hx143_9)
                        injection ea_ with ea_ en_ ec_
                        subst ea_
                        subst ec_
                        clear en_
                        have ea_ := Option.some.inj (hx141_13.symm.trans hx143_13)
                        injection ea_ with ea_ en_ ec_
                        subst ea_
                        subst ec_
                        clear en_
                        have p144 : 0 ≤ (x5_1 : Int) := of_decide_eq_true as_
                        have q144 : x5_1 < (l0.length : Int) := of_decide_eq_true as_
                        obtain ⟨ad144, A144_6, c144_6, A144_9, c144_9, A144_13, c144_13, e144, hx144_0, hx144_1, hx144_2, hx144_3, hx144_4, hx144_5, hx144_6, hx144_7, hx144_8, hx144_9, hx144_10, hx144_11, hx144_12, hx144_13, hl144_6, hi144_6, hl144_9, hi144_9, hl144_13, hi144_13⟩ := at_T136 HR0.out x5_1 p144 q144
                        obtain rfl : ad141 = ad144 := (by injection e144)
                        have HR144_6 := Aside0.mk hi144_6
                        have HC144_6 := Aside0.mk hl144_6
                        clear hi144_6 hl144_6
                        have HR144_9 := Aside0.mk hi144_9
                        have HC144_9 := Aside0.mk hl144_9
                        clear hi144_9 hl144_9
                        have HR144_13 := Aside0.mk hi144_13
                        have HC144_13 := Aside0.mk hl144_13
                        clear hi144_13 hl144_13
                        replace p144 := eq_true p144
                        replace q144 := eq_true q144
                        have ea_ := Option.some.inj (hx141_6.symm.trans hx144_6)
                        injection ea_ with ea_ en_ ec_
                        subst ea_
                        subst ec_
                        clear en_
                        have ea_ := Option.some.inj (hx141_9.symm.trans hx144_9)
                        injection ea_ with ea_ en_ ec_
                        subst ea_
                        subst ec_
                        clear en_
                        have ea_ := Option.some.inj (hx141_13.symm.trans hx144_13)
                        injection ea_ with ea_ en_ ec_
                        subst ea_
                        subst ec_
                        clear en_
                        have p145 : 0 ≤ (x5_1 : Int) := of_decide_eq_true as_
                        have q145 : x5_1 < (l0.length : Int) := of_decide_eq_true as_
                        obtain ⟨ad145, A145_6, c145_6, A145_9, c145_9, A145_13, c145_13, e145, hx145_0, hx145_1, hx145_2, hx145_3, hx145_4, hx145_5, hx145_6, hx145_7, hx145_8, hx145_9, hx145_10, hx145_11, hx145_12, hx145_13, hl145_6, hi145_6, hl145_9, hi145_9, hl145_13, hi145_13⟩ := at_T136 HR0.out x5_1 p145 q145
                        obtain rfl : ad141 = ad145 := (by injection e145)
                        have HR145_6 := Aside0.mk hi145_6
                        have HC145_6 := Aside0.mk hl145_6
                        clear hi145_6 hl145_6
                        have HR145_9 := Aside0.mk hi145_9
                        have HC145_9 := Aside0.mk hl145_9
                        clear hi145_9 hl145_9
                        have HR145_13 := Aside0.mk hi145_13
                        have HC145_13 := Aside0.mk hl145_13
                        clear hi145_13 hl145_13
                        replace p145 := eq_true p145
                        replace q145 := eq_true q145
                        have ea_ := Option.some.inj (hx141_6.symm.trans hx145_6)
                        injection ea_ with ea_ en_ ec_
                        subst ea_
                        subst ec_
                        clear en_
                        have ea_ := Option.some.inj (hx141_9.symm.trans hx145_9)
                        injection ea_ with ea_ en_ ec_
                        subst ea_
                        subst ec_
                        clear en_
                        have ea_ := Option.some.inj (hx141_13.symm.trans hx145_13)
                        injection ea_ with ea_ en_ ec_
                        subst ea_
                        subst ec_
                        clear en_
                        have p146 : 0 ≤ (x5_1 : Int) := of_decide_eq_true as_
                        have q146 : x5_1 < (l0.length : Int) := of_decide_eq_true as_
                        obtain ⟨ad146, A146_6, c146_6, A146_9, c146_9, A146_13, c146_13, e146, hx146_0, hx146_1, hx146_2, hx146_3, hx146_4, hx146_5, hx146_6, hx146_7, hx146_8, hx146_9, hx146_10, hx146_11, hx146_12, hx146_13, hl146_6, hi146_6, hl146_9, hi146_9, hl146_13, hi146_13⟩ := at_T136 HR0.out x5_1 p146 q146
                        obtain rfl : ad141 = ad146 := (by injection e146)
                        have HR146_6 := Aside0.mk hi146_6
                        have HC146_6 := Aside0.mk hl146_6
                        clear hi146_6 hl146_6
                        have HR146_9 := Aside0.mk hi146_9
                        have HC146_9 := Aside0.mk hl146_9
                        clear hi146_9 hl146_9
                        have HR146_13 := Aside0.mk hi146_13
                        have HC146_13 := Aside0.mk hl146_13
                        clear hi146_13 hl146_13
                        replace p146 := eq_true p146
                        replace q146 := eq_true q146
                        have ea_ := Option.some.inj (hx141_6.symm.trans hx146_6)
                        injection ea_ with ea_ en_ ec_
                        subst ea_
                        subst ec_
                        clear en_
                        have ea_ := Option.some.inj (hx141_9.symm.trans hx146_9)
                        injection ea_ with ea_ en_ ec_
                        subst ea_
                        subst ec_
                        clear en_
                        have ea_ := Option.some.inj (hx141_13.symm.trans hx146_13)
                        injection ea_ with ea_ en_ ec_
                        subst ea_
                        subst ec_
                        clear en_
                        have p147 : 0 ≤ (x5_1 : Int) := of_decide_eq_true as_
                        have q147 : x5_1 < (l0.length : Int) := of_decide_eq_true as_
                        obtain ⟨ad147, A147_6, c147_6, A147_9, c147_9, A147_13, c147_13, e147, hx147_0, hx147_1, hx147_2, hx147_3, hx147_4, hx147_5, hx147_6, hx147_7, hx147_8, hx147_9, hx147_10, hx147_11, hx147_12, hx147_13, hl147_6, hi147_6, hl147_9, hi147_9, hl147_13, hi147_13⟩ := at_T136 HR0.out x5_1 p147 q147
                        obtain rfl : ad141 = ad147 := (by injection e147)
                        have HR147_6 := Aside0.mk hi147_6
                        have HC147_6 := Aside0.mk hl147_6
                        clear hi147_6 hl147_6
                        have HR147_9 := Aside0.mk hi147_9
                        have HC147_9 := Aside0.mk hl147_9
                        clear hi147_9 hl147_9
                        have HR147_13 := Aside0.mk hi147_13
                        have HC147_13 := Aside0.mk hl147_13
                        clear hi147_13 hl147_13
                        replace p147 := eq_true p147
                        replace q147 := eq_true q147
                        have ea_ := Option.some.inj (hx141_6.symm.trans hx147_6)
                        injection ea_ with ea_ en_ ec_
                        subst ea_
                        subst ec_
                        clear en_
                        have ea_ := Option.some.inj (hx141_9.symm.trans hx147_9)
                        injection ea_ with ea_ en_ ec_
                        subst ea_
                        subst ec_
                        clear en_
                        have ea_ := Option.some.inj (hx141_13.symm.trans hx147_13)
                        injection ea_ with ea_ en_ ec_
                        subst ea_
                        subst ec_
                        clear en_
                        go_wp2_with (first | ((with_reducible refine gate_callee (f := 130) rfl ?_); refine goe_ (some 73) Try.func130 #[.slice A141_6 ((rd_T136 l0 x5_1).f6.f0).length c141_6, .int .i64 (wrap64 ((wrap64 ((wrap64 ((wrap64 ((wrap64 ((wrap64 (x1_1 + 1)) + 1)) + 1)) + 1)) + 1)) + 1))] ?_; (with_reducible refine (laws_heldPrefixS.calls k1 _ _ ((rd_T136 l0 x5_1).f6.f0) (wrap64 ((wrap64 ((wrap64 ((wrap64 ((wrap64 ((wrap64 (x1_1 + 1)) + 1)) + 1)) + 1)) + 1)) + 1)) t148 _ ?side1 ?side2 A11.out).mono ?_); (case side1 => exact kc_ HR147_6.out); (case side2 => exact HC147_6.out); rintro e w' ⟨rfl, ⟨nd, rfl⟩⟩; refine ⟨_, rfl, ?_⟩))
                        go_ret
                        exact ⟨sd_, by repeat (first | exact Drawn0.refl _ | apply Drawn0.step)⟩
                      · rw [if_neg c12] at H
                        have c12b0 : decide (t148 < 0) = false := decide_eq_false c12
                        clear c12
                        by_cases c13 : (((rd_T136 l0 x5_1).f6.f1) != ((Int.tmod t148 3) == 0)) = true
                        · rw [if_pos c13] at H
                          have c13b0 : (((rd_T136 l0 x5_1).f6.f1) != ((Int.tmod t148 3) == 0)) = true := c13
                          (try (have c13b1 : decide (((rd_T136 l0 x5_1).f6.f1) = ((Int.tmod t148 3) == 0)) = false := by simpa using c13))
                          (try (have c13b2 : (((rd_T136 l0 x5_1).f6.f1) == ((Int.tmod t148 3) == 0)) = false := by simpa using c13))
                          (try (have c13b3 : ¬ (((rd_T136 l0 x5_1).f6.f1) = ((Int.tmod t148 3) == 0)) := by simpa using c13))
                          clear c13
                          obtain rfl := Option.some.inj H
                          have p141 : 0 ≤ (x5_1 : Int) := of_decide_eq_true as_
                          have q141 : x5_1 < (l0.length : Int) := of_decide_eq_true as_
                          obtain ⟨ad141, A141_6, c141_6, A141_9, c141_9, A141_13, c141_13, e141, hx141_0, hx141_1, hx141_2, hx141_3, hx141_4, hx141_5, hx141_6, hx141_7, hx141_8, hx141_9, hx141_10, hx141_11, hx141_12, hx141_13, hl141_6, hi141_6, hl141_9, hi141_9, hl141_13, hi141_13⟩ := at_T136 HR0.out x5_1 p141 q141
                          cases e141
                          have HR141_6 := Aside0.mk hi141_6
                          have HC141_6 := Aside0.mk hl141_6
                          clear hi141_6 hl141_6
                          have HR141_9 := Aside0.mk hi141_9
                          have HC141_9 := Aside0.mk hl141_9
                          clear hi141_9 hl141_9
                          have HR141_13 := Aside0.mk hi141_13
                          have HC141_13 := Aside0.mk hl141_13
                          clear hi141_13 hl141_13
                          replace p141 := eq_true p141
                          replace q141 := eq_true q141
                          have p142 : 0 ≤ (x5_1 : Int) := of_decide_eq_true as_
                          have q142 : x5_1 < (l0.length : Int) := of_decide_eq_true as_
                          obtain ⟨ad142, A142_6, c142_6, A142_9, c142_9, A142_13, c142_13, e142, hx142_0, hx142_1, hx142_2, hx142_3, hx142_4, hx142_5, hx142_6, hx142_7, hx142_8, hx142_9, hx142_10, hx142_11, hx142_12, hx142_13, hl142_6, hi142_6, hl142_9, hi142_9, hl142_13, hi142_13⟩ := at_T136 HR0.out x5_1 p142 q142
                          obtain rfl : ad141 = ad142 := (by injection e142)
                          have HR142_6 := Aside0.mk hi142_6
                          have HC142_6 := Aside0.mk hl142_6
                          clear hi142_6 hl142_6
                          have HR142_9 := Aside0.mk hi142_9
                          have HC142_9 := Aside0.mk hl142_9
                          clear hi142_9 hl142_9
                          have HR142_13 := Aside0.mk hi142_13
                          have HC142_13 := Aside0.mk hl142_13
                          clear hi142_13 hl142_13
                          replace p142 := eq_true p142
                          replace q142 := eq_true q142
                          have ea_ := Option.some.inj (hx141_6.symm.trans hx142_6)
                          injection ea_ with ea_ en_ ec_
                          subst ea_
                          subst ec_
                          clear en_
                          have ea_ := Option.some.inj (hx141_9.symm.trans hx142_9)
                          injection ea_ with ea_ en_ ec_
                          subst ea_
                          subst ec_
                          clear en_
                          have ea_ := Option.some.inj (hx141_13.symm.trans hx142_13)
                          injection ea_ with ea_ en_ ec_
                          subst ea_
                          subst ec_
                          clear en_
                          have p143 : 0 ≤ (x5_1 : Int) := of_decide_eq_true as_
                          have q143 : x5_1 < (l0.length : Int) := of_decide_eq_true as_
                          obtain ⟨ad143, A143_6, c143_6, A143_9, c143_9, A143_13, c143_13, e143, hx143_0, hx143_1, hx143_2, hx143_3, hx143_4, hx143_5, hx143_6, hx143_7, hx143_8, hx143_9, hx143_10, hx143_11, hx143_12, hx143_13, hl143_6, hi143_6, hl143_9, hi143_9, hl143_13, hi143_13⟩ := at_T136 HR0.out x5_1 p143 q143
                          obtain rfl : ad141 = ad143 := (by injection e143)
                          have HR143_6 := Aside0.mk hi143_6
                          have HC143_6 := Aside0.mk hl143_6
                          clear hi143_6 hl143_6
                          have HR143_9 := Aside0.mk hi143_9
                          have HC143_9 := Aside0.mk hl143_9
                          clear hi143_9 hl143_9
                          have HR143_13 := Aside0.mk hi143_13
                          have HC143_13 := Aside0.mk hl143_13
                          clear hi143_13 hl143_13
                          replace p143 := eq_true p143
                          replace q143 := eq_true q143
                          have ea_ := Option.some.inj (hx141_6.symm.trans hx143_6)
                          injection ea_ with ea_ en_ ec_
                          subst ea_
                          subst ec_
                          clear en_
                          have ea_ := Option.some.inj (hx141_9.symm.trans hx143_9)
                          injection ea_ with ea_ en_ ec_
                          subst ea_
                          subst ec_
                          clear en_
                          have ea_ := Option.some.inj (hx141_13.symm.trans hx143_13)
                          injection ea_ with ea_ en_ ec_
                          subst ea_
                          subst ec_
                          clear en_
                          have p144 : 0 ≤ (x5_1 : Int) := of_decide_eq_true as_
                          have q144 : x5_1 < (l0.length : Int) := of_decide_eq_true as_
                          obtain ⟨ad144, A144_6, c144_6, A144_9, c144_9, A144_13, c144_13, e144, hx144_0, hx144_1, hx144_2, hx144_3, hx144_4, hx144_5, hx144_6, hx144_7, hx144_8, hx144_9, hx144_10, hx144_11, hx144_12, hx144_13, hl144_6, hi144_6, hl144_9, hi144_9, hl144_13, hi144_13⟩ := at_T136 HR0.out x5_1 p144 q144
                          obtain rfl : ad141 = ad144 := (by injection e144)
                          have HR144_6 := Aside0.mk hi144_6
                          have HC144_6 := Aside0.mk hl144_6
                          clear hi144_6 hl144_6
                          have HR144_9 := Aside0.mk hi144_9
                          have HC144_9 := Aside0.mk hl144_9
                          clear hi144_9 hl144_9
                          have HR144_13 := Aside0.mk hi144_13
                          have HC144_13 := Aside0.mk hl144_13
                          clear hi144_13 hl144_13
                          replace p144 := eq_true p144
                          replace q144 := eq_true q144
                          have ea_ := Option.some.inj (hx141_6.symm.trans hx144_6)
                          injection ea_ with ea_ en_ ec_
                          subst ea_
                          subst ec_
                          clear en_
                          have ea_ := Option.some.inj (hx141_9.symm.trans hx144_9)
                          injection ea_ with ea_ en_ ec_
                          subst ea_
                          subst ec_
                          clear en_
                          have ea_ := Option.some.inj (hx141_13.symm.trans hx144_13)
                          injection ea_ with ea_ en_ ec_
                          subst ea_
                          subst ec_
                          clear en_
                          have p145 : 0 ≤ (x5_1 : Int) := of_decide_eq_true as_
                          have q145 : x5_1 < (l0.length : Int) := of_decide_eq_true as_
                          obtain ⟨ad145, A145_6, c145_6, A145_9, c145_9, A145_13, c145_13, e145, hx145_0, hx145_1, hx145_2, hx145_3, hx145_4, hx145_5, hx145_6, hx145_7, hx145_8, hx145_9, hx145_10, hx145_11, hx145_12, hx145_13, hl145_6, hi145_6, hl145_9, hi145_9, hl145_13, hi145_13⟩ := at_T136 HR0.out x5_1 p145 q145
                          obtain rfl : ad141 = ad145 := (by injection e145)
                          have HR145_6 := Aside0.mk hi145_6
                          have HC145_6 := Aside0.mk hl145_6
                          clear hi145_6 hl145_6
                          have HR145_9 := Aside0.mk hi145_9
                          have HC145_9 := Aside0.mk hl145_9
                          clear hi145_9 hl145_9
                          have HR145_13 := Aside0.mk hi145_13
                          have HC145_13 := Aside0.mk hl145_13
                          clear hi145_13 hl145_13
                          replace p145 := eq_true p145
                          replace q145 := eq_true q145
                          have ea_ := Option.some.inj (hx141_6.symm.trans hx145_6)
                          injection ea_ with ea_ en_ ec_
                          subst ea_
                          subst ec_
                          clear en_
                          have ea_ := Option.some.inj (hx141_9.symm.trans hx145_9)
                          injection ea_ with ea_ en_ ec_
                          subst ea_
                          subst ec_
                          clear en_
                          have ea_ := Option.some.inj (hx141_13.symm.trans hx145_13)
                          injection ea_ with ea_ en_ ec_
                          subst ea_
                          subst ec_
                          clear en_
                          have p146 : 0 ≤ (x5_1 : Int) := of_decide_eq_true as_
                          have q146 : x5_1 < (l0.length : Int) := of_decide_eq_true as_
                          obtain ⟨ad146, A146_6, c146_6, A146_9, c146_9, A146_13, c146_13, e146, hx146_0, hx146_1, hx146_2, hx146_3, hx146_4, hx146_5, hx146_6, hx146_7, hx146_8, hx146_9, hx146_10, hx146_11, hx146_12, hx146_13, hl146_6, hi146_6, hl146_9, hi146_9, hl146_13, hi146_13⟩ := at_T136 HR0.out x5_1 p146 q146
                          obtain rfl : ad141 = ad146 := (by injection e146)
                          have HR146_6 := Aside0.mk hi146_6
                          have HC146_6 := Aside0.mk hl146_6
                          clear hi146_6 hl146_6
                          have HR146_9 := Aside0.mk hi146_9
                          have HC146_9 := Aside0.mk hl146_9
                          clear hi146_9 hl146_9
                          have HR146_13 := Aside0.mk hi146_13
                          have HC146_13 := Aside0.mk hl146_13
                          clear hi146_13 hl146_13
                          replace p146 := eq_true p146
                          replace q146 := eq_true q146
                          have ea_ := Option.some.inj (hx141_6.symm.trans hx146_6)
                          injection ea_ with ea_ en_ ec_
                          subst ea_
                          subst ec_
                          clear en_
                          have ea_ := Option.some.inj (hx141_9.symm.trans hx146_9)
                          injection ea_ with ea_ en_ ec_
                          subst ea_
                          subst ec_
                          clear en_
                          have ea_ := Option.some.inj (hx141_13.symm.trans hx146_13)
                          injection ea_ with ea_ en_ ec_
                          subst ea_
                          subst ec_
                          clear en_
                          have p147 : 0 ≤ (x5_1 : Int) := of_decide_eq_true as_
                          have q147 : x5_1 < (l0.length : Int) := of_decide_eq_true as_
                          obtain ⟨ad147, A147_6, c147_6, A147_9, c147_9, A147_13, c147_13, e147, hx147_0, hx147_1, hx147_2, hx147_3, hx147_4, hx147_5, hx147_6, hx147_7, hx147_8, hx147_9, hx147_10, hx147_11, hx147_12, hx147_13, hl147_6, hi147_6, hl147_9, hi147_9, hl147_13, hi147_13⟩ := at_T136 HR0.out x5_1 p147 q147
                          obtain rfl : ad141 = ad147 := (by injection e147)
                          have HR147_6 := Aside0.mk hi147_6
                          have HC147_6 := Aside0.mk hl147_6
                          clear hi147_6 hl147_6
                          have HR147_9 := Aside0.mk hi147_9
                          have HC147_9 := Aside0.mk hl147_9
                          clear hi147_9 hl147_9
                          have HR147_13 := Aside0.mk hi147_13
                          have HC147_13 := Aside0.mk hl147_13
                          clear hi147_13 hl147_13
                          replace p147 := eq_true p147
                          replace q147 := eq_true q147
                          have ea_ := Option.some.inj (hx141_6.symm.trans hx147_6)
                          injection ea_ with ea_ en_ ec_
                          subst ea_
                          subst ec_
                          clear en_
                          have ea_ := Option.some.inj (hx141_9.symm.trans hx147_9)
                          injection ea_ with ea_ en_ ec_
                          subst ea_
                          subst ec_
                          clear en_
                          have ea_ := Option.some.inj (hx141_13.symm.trans hx147_13)
                          injection ea_ with ea_ en_ ec_
                          subst ea_
                          subst ec_
                          clear en_
                          go_wp2_with (first | ((with_reducible refine gate_callee (f := 130) rfl ?_); refine goe_ (some 73) Try.func130 #[.slice A141_6 ((rd_T136 l0 x5_1).f6.f0).length c141_6, .int .i64 (wrap64 ((wrap64 ((wrap64 ((wrap64 ((wrap64 ((wrap64 (x1_1 + 1)) + 1)) + 1)) + 1)) + 1)) + 1))] ?_; (with_reducible refine (laws_heldPrefixS.calls k1 _ _ ((rd_T136 l0 x5_1).f6.f0) (wrap64 ((wrap64 ((wrap64 ((wrap64 ((wrap64 ((wrap64 (x1_1 + 1)) + 1)) + 1)) + 1)) + 1)) + 1)) t148 _ ?side1 ?side2 A11.out).mono ?_); (case side1 => exact kc_ HR147_6.out); (case side2 => exact HC147_6.out); rintro e w' ⟨rfl, ⟨nd, rfl⟩⟩; refine ⟨_, rfl, ?_⟩; have p149 : 0 ≤ (x5_1 : Int) := of_decide_eq_true as_; have q149 : x5_1 < (l0.length : Int) := of_decide_eq_true as_; obtain ⟨ad149, A149_6, c149_6, A149_9, c149_9, A149_13, c149_13, e149, hx149_0, hx149_1, hx149_2, hx149_3, hx149_4, hx149_5, hx149_6, hx149_7, hx149_8, hx149_9, hx149_10, hx149_11, hx149_12, hx149_13, hl149_6, hi149_6, hl149_9, hi149_9, hl149_13, hi149_13⟩ := at_T136 HR0.out x5_1 p149 q149; obtain rfl : ad141 = ad149 := (by injection e149); have HR149_6 := Aside0.mk hi149_6; have HC149_6 := Aside0.mk hl149_6; clear hi149_6 hl149_6; have HR149_9 := Aside0.mk hi149_9; have HC149_9 := Aside0.mk hl149_9; clear hi149_9 hl149_9; have HR149_13 := Aside0.mk hi149_13; have HC149_13 := Aside0.mk hl149_13; clear hi149_13 hl149_13; replace p149 := eq_true p149; replace q149 := eq_true q149; have ea_ := Option.some.inj (hx141_6.symm.trans hx149_6); injection ea_ with ea_ en_ ec_; subst ea_; subst ec_; clear en_; have ea_ := Option.some.inj (hx141_9.symm.trans hx149_9); injection ea_ with ea_ en_ ec_; subst ea_; subst ec_; clear en_; have ea_ := Option.some.inj (hx141_13.symm.trans hx149_13); injection ea_ with ea_ en_ ec_; subst ea_; subst ec_; clear en_))
                          go_ret
                          exact ⟨sd_, by repeat (first | exact Drawn0.refl _ | apply Drawn0.step)⟩
                        · rw [if_neg c13] at H
                          have c13b0 : (((rd_T136 l0 x5_1).f6.f1) != ((Int.tmod t148 3) == 0)) = false := by simpa using c13
                          (try (have c13b1 : decide (((rd_T136 l0 x5_1).f6.f1) = ((Int.tmod t148 3) == 0)) = true := by simpa using c13))
                          (try (have c13b2 : (((rd_T136 l0 x5_1).f6.f1) == ((Int.tmod t148 3) == 0)) = true := by simpa using c13))
                          clear c13
                          by_cases c14 : ((rd_T136 l0 x5_1).f6.f2.f0) = (wrap64 (t148 + 1))
                          · rw [if_pos c14] at H
                            have c14b0 : (((rd_T136 l0 x5_1).f6.f2.f0) == (wrap64 (t148 + 1))) = true := beq_iff_eq.mpr c14
                            have c14b1 : (((rd_T136 l0 x5_1).f6.f2.f0) != (wrap64 (t148 + 1))) = false := bne_eq_false_iff_eq.mpr c14
                            clear c14
                            replace H := Option.bind_eq_some_iff.mp H
                            obtain ⟨t152, A150, H⟩ := H
                            replace H : (if t152 < 0 then (some (-1)) else (if ((rd_T136 l0 x5_1).f6.f2.f2) = t152 then (if ((rd_T136 l0 x5_1).f6.f2.f3) = (wrap64 (t152 + 1)) then (if ((rd_T136 l0 x5_1).f6.f2.f4) = (wrap64 ((wrap64 (t152 + 1)) + 1)) then ((laws_heldPrefixS.f k1 ((rd_T136 l0 x5_1).f6.f3) (wrap64 ((wrap64 ((wrap64 (t152 + 1)) + 1)) + 1))).bind fun t157 => (if t157 < 0 then (some (-1)) else (laws_heldMessageS.l0 k1 l0 t157 (wrap64 (x5_1 + 1))))) else (some (-1))) else (some (-1))) else (some (-1)))) = some r := H
                            have A15 := Aside0.mk A150
                            clear A150
                            by_cases c16 : t152 < 0
                            · rw [if_pos c16] at H
                              have c16b0 : decide (t152 < 0) = true := decide_eq_true c16
                              clear c16
                              obtain rfl := Option.some.inj H
                              have p141 : 0 ≤ (x5_1 : Int) := of_decide_eq_true as_
                              have q141 : x5_1 < (l0.length : Int) := of_decide_eq_true as_
                              obtain ⟨ad141, A141_6, c141_6, A141_9, c141_9, A141_13, c141_13, e141, hx141_0, hx141_1, hx141_2, hx141_3, hx141_4, hx141_5, hx141_6, hx141_7, hx141_8, hx141_9, hx141_10, hx141_11, hx141_12, hx141_13, hl141_6, hi141_6, hl141_9, hi141_9, hl141_13, hi141_13⟩ := at_T136 HR0.out x5_1 p141 q141
                              cases e141
                              have HR141_6 := Aside0.mk hi141_6
                              have HC141_6 := Aside0.mk hl141_6
                              clear hi141_6 hl141_6
                              have HR141_9 := Aside0.mk hi141_9
                              have HC141_9 := Aside0.mk hl141_9
                              clear hi141_9 hl141_9
                              have HR141_13 := Aside0.mk hi141_13
                              have HC141_13 := Aside0.mk hl141_13
                              clear hi141_13 hl141_13
                              replace p141 := eq_true p141
                              replace q141 := eq_true q141
                              have p142 : 0 ≤ (x5_1 : Int) := of_decide_eq_true as_
                              have q142 : x5_1 < (l0.length : Int) := of_decide_eq_true as_
                              obtain ⟨ad142, A142_6, c142_6, A142_9, c142_9, A142_13, c142_13, e142, hx142_0, hx142_1, hx142_2, hx142_3, hx142_4, hx142_5, hx142_6, hx142_7, hx142_8, hx142_9, hx142_10, hx142_11, hx142_12, hx142_13, hl142_6, hi142_6, hl142_9, hi142_9, hl142_13, hi142_13⟩ := at_T136 HR0.out x5_1 p142 q142
                              obtain rfl : ad141 = ad142 := (by injection e142)
                              have HR142_6 := Aside0.mk hi142_6
                              have HC142_6 := Aside0.mk hl142_6
                              clear hi142_6 hl142_6
                              have HR142_9 := Aside0.mk hi142_9
                              have HC142_9 := Aside0.mk hl142_9
                              clear hi142_9 hl142_9
                              have HR142_13 := Aside0.mk hi142_13
                              have HC142_13 := Aside0.mk hl142_13
                              clear hi142_13 hl142_13
                              replace p142 := eq_true p142
                              replace q142 := eq_true q142
                              have ea_ := Option.some.inj (hx141_6.symm.trans hx142_6)
                              injection ea_ with ea_ en_ ec_
                              subst ea_
                              subst ec_
                              clear en_
                              have ea_ := Option.some.inj (hx141_9.symm.trans hx142_9)
                              injection ea_ with ea_ en_ ec_
                              subst ea_
                              subst ec_
                              clear en_
                              have ea_ := Option.some.inj (hx141_13.symm.trans hx142_13)
                              injection ea_ with ea_ en_ ec_
                              subst ea_
                              subst ec_
                              clear en_
                              have p143 : 0 ≤ (x5_1 : Int) := of_decide_eq_true as_
                              have q143 : x5_1 < (l0.length : Int) := of_decide_eq_true as_
                              obtain ⟨ad143, A143_6, c143_6, A143_9, c143_9, A143_13, c143_13, e143, hx143_0, hx143_1, hx143_2, hx143_3, hx143_4, hx143_5, hx143_6, hx143_7, hx143_8, hx143_9, hx143_10, hx143_11, hx143_12, hx143_13, hl143_6, hi143_6, hl143_9, hi143_9, hl143_13, hi143_13⟩ := at_T136 HR0.out x5_1 p143 q143
                              obtain rfl : ad141 = ad143 := (by injection e143)
                              have HR143_6 := Aside0.mk hi143_6
                              have HC143_6 := Aside0.mk hl143_6
                              clear hi143_6 hl143_6
                              have HR143_9 := Aside0.mk hi143_9
                              have HC143_9 := Aside0.mk hl143_9
                              clear hi143_9 hl143_9
                              have HR143_13 := Aside0.mk hi143_13
                              have HC143_13 := Aside0.mk hl143_13
                              clear hi143_13 hl143_13
                              replace p143 := eq_true p143
                              replace q143 := eq_true q143
                              have ea_ := Option.some.inj (hx141_6.symm.trans hx143_6)
                              injection ea_ with ea_ en_ ec_
                              subst ea_
                              subst ec_
                              clear en_
                              have ea_ := Option.some.inj (hx141_9.symm.trans hx143_9)
                              injection ea_ with ea_ en_ ec_
                              subst ea_
                              subst ec_
                              clear en_
                              have ea_ := Option.some.inj (hx141_13.symm.trans hx143_13)
                              injection ea_ with ea_ en_ ec_
                              subst ea_
                              subst ec_
                              clear en_
                              have p144 : 0 ≤ (x5_1 : Int) := of_decide_eq_true as_
                              have q144 : x5_1 < (l0.length : Int) := of_decide_eq_true as_
                              obtain ⟨ad144, A144_6, c144_6, A144_9, c144_9, A144_13, c144_13, e144, hx144_0, hx144_1, hx144_2, hx144_3, hx144_4, hx144_5, hx144_6, hx144_7, hx144_8, hx144_9, hx144_10, hx144_11, hx144_12, hx144_13, hl144_6, hi144_6, hl144_9, hi144_9, hl144_13, hi144_13⟩ := at_T136 HR0.out x5_1 p144 q144
                              obtain rfl : ad141 = ad144 := (by injection e144)
                              have HR144_6 := Aside0.mk hi144_6
                              have HC144_6 := Aside0.mk hl144_6
                              clear hi144_6 hl144_6
                              have HR144_9 := Aside0.mk hi144_9
                              have HC144_9 := Aside0.mk hl144_9
                              clear hi144_9 hl144_9
                              have HR144_13 := Aside0.mk hi144_13
                              have HC144_13 := Aside0.mk hl144_13
                              clear hi144_13 hl144_13
                              replace p144 := eq_true p144
                              replace q144 := eq_true q144
                              have ea_ := Option.some.inj (hx141_6.symm.trans hx144_6)
                              injection ea_ with ea_ en_ ec_
                              subst ea_
                              subst ec_
                              clear en_
                              have ea_ := Option.some.inj (hx141_9.symm.trans hx144_9)
                              injection ea_ with ea_ en_ ec_
                              subst ea_
                              subst ec_
                              clear en_
                              have ea_ := Option.some.inj (hx141_13.symm.trans hx144_13)
                              injection ea_ with ea_ en_ ec_
                              subst ea_
                              subst ec_
                              clear en_
                              have p145 : 0 ≤ (x5_1 : Int) := of_decide_eq_true as_
                              have q145 : x5_1 < (l0.length : Int) := of_decide_eq_true as_
                              obtain ⟨ad145, A145_6, c145_6, A145_9, c145_9, A145_13, c145_13, e145, hx145_0, hx145_1, hx145_2, hx145_3, hx145_4, hx145_5, hx145_6, hx145_7, hx145_8, hx145_9, hx145_10, hx145_11, hx145_12, hx145_13, hl145_6, hi145_6, hl145_9, hi145_9, hl145_13, hi145_13⟩ := at_T136 HR0.out x5_1 p145 q145
                              obtain rfl : ad141 = ad145 := (by injection e145)
                              have HR145_6 := Aside0.mk hi145_6
                              have HC145_6 := Aside0.mk hl145_6
                              clear hi145_6 hl145_6
                              have HR145_9 := Aside0.mk hi145_9
                              have HC145_9 := Aside0.mk hl145_9
                              clear hi145_9 hl145_9
                              have HR145_13 := Aside0.mk hi145_13
                              have HC145_13 := Aside0.mk hl145_13
                              clear hi145_13 hl145_13
                              replace p145 := eq_true p145
                              replace q145 := eq_true q145
                              have ea_ := Option.some.inj (hx141_6.symm.trans hx145_6)
                              injection ea_ with ea_ en_ ec_
                              subst ea_
                              subst ec_
                              clear en_
                              have ea_ := Option.some.inj (hx141_9.symm.trans hx145_9)
                              injection ea_ with ea_ en_ ec_
                              subst ea_
                              subst ec_
                              clear en_
                              have ea_ := Option.some.inj (hx141_13.symm.trans hx145_13)
                              injection ea_ with ea_ en_ ec_
                              subst ea_
                              subst ec_
                              clear en_
                              have p146 : 0 ≤ (x5_1 : Int) := of_decide_eq_true as_
                              have q146 : x5_1 < (l0.length : Int) := of_decide_eq_true as_
                              obtain ⟨ad146, A146_6, c146_6, A146_9, c146_9, A146_13, c146_13, e146, hx146_0, hx146_1, hx146_2, hx146_3, hx146_4, hx146_5, hx146_6, hx146_7, hx146_8, hx146_9, hx146_10, hx146_11, hx146_12, hx146_13, hl146_6, hi146_6, hl146_9, hi146_9, hl146_13, hi146_13⟩ := at_T136 HR0.out x5_1 p146 q146
                              obtain rfl : ad141 = ad146 := (by injection e146)
                              have HR146_6 := Aside0.mk hi146_6
                              have HC146_6 := Aside0.mk hl146_6
                              clear hi146_6 hl146_6
                              have HR146_9 := Aside0.mk hi146_9
                              have HC146_9 := Aside0.mk hl146_9
                              clear hi146_9 hl146_9
                              have HR146_13 := Aside0.mk hi146_13
                              have HC146_13 := Aside0.mk hl146_13
                              clear hi146_13 hl146_13
                              replace p146 := eq_true p146
                              replace q146 := eq_true q146
                              have ea_ := Option.some.inj (hx141_6.symm.trans hx146_6)
                              injection ea_ with ea_ en_ ec_
                              subst ea_
                              subst ec_
                              clear en_
                              have ea_ := Option.some.inj (hx141_9.symm.trans hx146_9)
                              injection ea_ with ea_ en_ ec_
                              subst ea_
                              subst ec_
                              clear en_
                              have ea_ := Option.some.inj (hx141_13.symm.trans hx146_13)
                              injection ea_ with ea_ en_ ec_
                              subst ea_
                              subst ec_
                              clear en_
                              have p147 : 0 ≤ (x5_1 : Int) := of_decide_eq_true as_
                              have q147 : x5_1 < (l0.length : Int) := of_decide_eq_true as_
                              obtain ⟨ad147, A147_6, c147_6, A147_9, c147_9, A147_13, c147_13, e147, hx147_0, hx147_1, hx147_2, hx147_3, hx147_4, hx147_5, hx147_6, hx147_7, hx147_8, hx147_9, hx147_10, hx147_11, hx147_12, hx147_13, hl147_6, hi147_6, hl147_9, hi147_9, hl147_13, hi147_13⟩ := at_T136 HR0.out x5_1 p147 q147
                              obtain rfl : ad141 = ad147 := (by injection e147)
                              have HR147_6 := Aside0.mk hi147_6
                              have HC147_6 := Aside0.mk hl147_6
                              clear hi147_6 hl147_6
                              have HR147_9 := Aside0.mk hi147_9
                              have HC147_9 := Aside0.mk hl147_9
                              clear hi147_9 hl147_9
                              have HR147_13 := Aside0.mk hi147_13
                              have HC147_13 := Aside0.mk hl147_13
                              clear hi147_13 hl147_13
                              replace p147 := eq_true p147
                              replace q147 := eq_true q147
                              have ea_ := Option.some.inj (hx141_6.symm.trans hx147_6)
                              injection ea_ with ea_ en_ ec_
                              subst ea_
                              subst ec_
                              clear en_
                              have ea_ := Option.some.inj (hx141_9.symm.trans hx147_9)
                              injection ea_ with ea_ en_ ec_
                              subst ea_
                              subst ec_
                              clear en_
                              have ea_ := Option.some.inj (hx141_13.symm.trans hx147_13)
                              injection ea_ with ea_ en_ ec_
                              subst ea_
                              subst ec_
                              clear en_
                              go_wp2_with (first | ((with_reducible refine gate_callee (f := 130) rfl ?_); refine goe_ (some 73) Try.func130 #[.slice A141_6 ((rd_T136 l0 x5_1).f6.f0).length c141_6, .int .i64 (wrap64 ((wrap64 ((wrap64 ((wrap64 ((wrap64 ((wrap64 (x1_1 + 1)) + 1)) + 1)) + 1)) + 1)) + 1))] ?_; (with_reducible refine (laws_heldPrefixS.calls k1 _ _ ((rd_T136 l0 x5_1).f6.f0) (wrap64 ((wrap64 ((wrap64 ((wrap64 ((wrap64 ((wrap64 (x1_1 + 1)) + 1)) + 1)) + 1)) + 1)) + 1)) t148 _ ?side1 ?side2 A11.out).mono ?_); (case side1 => exact kc_ HR147_6.out); (case side2 => exact HC147_6.out); rintro e w' ⟨rfl, ⟨nd, rfl⟩⟩; refine ⟨_, rfl, ?_⟩; have p149 : 0 ≤ (x5_1 : Int) := of_decide_eq_true as_; have q149 : x5_1 < (l0.length : Int) := of_decide_eq_true as_; obtain ⟨ad149, A149_6, c149_6, A149_9, c149_9, A149_13, c149_13, e149, hx149_0, hx149_1, hx149_2, hx149_3, hx149_4, hx149_5, hx149_6, hx149_7, hx149_8, hx149_9, hx149_10, hx149_11, hx149_12, hx149_13, hl149_6, hi149_6, hl149_9, hi149_9, hl149_13, hi149_13⟩ := at_T136 HR0.out x5_1 p149 q149; obtain rfl : ad141 = ad149 := (by injection e149); have HR149_6 := Aside0.mk hi149_6; have HC149_6 := Aside0.mk hl149_6; clear hi149_6 hl149_6; have HR149_9 := Aside0.mk hi149_9; have HC149_9 := Aside0.mk hl149_9; clear hi149_9 hl149_9; have HR149_13 := Aside0.mk hi149_13; have HC149_13 := Aside0.mk hl149_13; clear hi149_13 hl149_13; replace p149 := eq_true p149; replace q149 := eq_true q149; have ea_ := Option.some.inj (hx141_6.symm.trans hx149_6); injection ea_ with ea_ en_ ec_; subst ea_; subst ec_; clear en_; have ea_ := Option.some.inj (hx141_9.symm.trans hx149_9); injection ea_ with ea_ en_ ec_; subst ea_; subst ec_; clear en_; have ea_ := Option.some.inj (hx141_13.symm.trans hx149_13); injection ea_ with ea_ en_ ec_; subst ea_; subst ec_; clear en_; have p150 : 0 ≤ (x5_1 : Int) := of_decide_eq_true as_; have q150 : x5_1 < (l0.length : Int) := of_decide_eq_true as_; obtain ⟨ad150, A150_6, c150_6, A150_9, c150_9, A150_13, c150_13, e150, hx150_0, hx150_1, hx150_2, hx150_3, hx150_4, hx150_5, hx150_6, hx150_7, hx150_8, hx150_9, hx150_10, hx150_11, hx150_12, hx150_13, hl150_6, hi150_6, hl150_9, hi150_9, hl150_13, hi150_13⟩ := at_T136 HR0.out x5_1 p150 q150; obtain rfl : ad141 = ad150 := (by injection e150); have HR150_6 := Aside0.mk hi150_6; have HC150_6 := Aside0.mk hl150_6; clear hi150_6 hl150_6; have HR150_9 := Aside0.mk hi150_9; have HC150_9 := Aside0.mk hl150_9; clear hi150_9 hl150_9; have HR150_13 := Aside0.mk hi150_13; have HC150_13 := Aside0.mk hl150_13; clear hi150_13 hl150_13; replace p150 := eq_true p150; replace q150 := eq_true q150; have ea_ := Option.some.inj (hx141_6.symm.trans hx150_6); injection ea_ with ea_ en_ ec_; subst ea_; subst ec_; clear en_; have ea_ := Option.some.inj (hx141_9.symm.trans hx150_9); injection ea_ with ea_ en_ ec_; subst ea_; subst ec_; clear en_; have ea_ := Option.some.inj (hx141_13.symm.trans hx150_13); injection ea_ with ea_ en_ ec_; subst ea_; subst ec_; clear en_; have p151 : 0 ≤ (x5_1 : Int) := of_decide_eq_true as_; have q151 : x5_1 < (l0.length : Int) := of_decide_eq_true as_; obtain ⟨ad151, A151_6, c151_6, A151_9, c151_9, A151_13, c151_13, e151, hx151_0, hx151_1, hx151_2, hx151_3, hx151_4, hx151_5, hx151_6, hx151_7, hx151_8, hx151_9, hx151_10, hx151_11, hx151_12, hx151_13, hl151_6, hi151_6, hl151_9, hi151_9, hl151_13, hi151_13⟩ := at_T136 HR0.out x5_1 p151 q151; obtain rfl : ad141 = ad151 := (by injection e151); have HR151_6 := Aside0.mk hi151_6; have HC151_6 := Aside0.mk hl151_6; clear hi151_6 hl151_6; have HR151_9 := Aside0.mk hi151_9; have HC151_9 := Aside0.mk hl151_9; clear hi151_9 hl151_9; have HR151_13 := Aside0.mk hi151_13; have HC151_13 := Aside0.mk hl151_13; clear hi151_13 hl151_13; replace p151 := eq_true p151; replace q151 := eq_true q151; have ea_ := Option.some.inj (hx141_6.symm.trans hx151_6); injection ea_ with ea_ en_ ec_; subst ea_; subst ec_; clear en_; have ea_ := Option.some.inj (hx141_9.symm.trans hx151_9); injection ea_ with ea_ en_ ec_; subst ea_; subst ec_; clear en_; have ea_ := Option.some.inj (hx141_13.symm.trans hx151_13); injection ea_ with ea_ en_ ec_; subst ea_; subst ec_; clear en_) | ((with_reducible refine gate_callee (f := 145) rfl ?_); refine goe_ (some 107) Try.func145 #[.slice A141_9 ((rd_T136 l0 x5_1).f6.f2.f1).length c141_9, .int .i64 (wrap64 ((wrap64 (t148 + 1)) + 1))] ?_; (with_reducible refine (laws_heldInt64S.calls k1 _ _ ((rd_T136 l0 x5_1).f6.f2.f1) (wrap64 ((wrap64 (t148 + 1)) + 1)) t152 _ ?side1 ?side2 A15.out).mono ?_); (case side1 => exact kc_ HR151_9.out); (case side2 => exact HC151_9.out); rintro e w' ⟨rfl, ⟨nd, rfl⟩⟩; refine ⟨_, rfl, ?_⟩))
                              go_ret
                              exact ⟨sd_, by repeat (first | exact Drawn0.refl _ | apply Drawn0.step)⟩
                            · rw [if_neg c16] at H
                              have c16b0 : decide (t152 < 0) = false := decide_eq_false c16
                              clear c16
                              by_cases c17 : ((rd_T136 l0 x5_1).f6.f2.f2) = t152
                              · rw [if_pos c17] at H
                                have c17b0 : (((rd_T136 l0 x5_1).f6.f2.f2) == t152) = true := beq_iff_eq.mpr c17
                                have c17b1 : (((rd_T136 l0 x5_1).f6.f2.f2) != t152) = false := bne_eq_false_iff_eq.mpr c17
                                clear c17
                                by_cases c18 : ((rd_T136 l0 x5_1).f6.f2.f3) = (wrap64 (t152 + 1))
                                · rw [if_pos c18] at H
                                  have c18b0 : (((rd_T136 l0 x5_1).f6.f2.f3) == (wrap64 (t152 + 1))) = true := beq_iff_eq.mpr c18
                                  have c18b1 : (((rd_T136 l0 x5_1).f6.f2.f3) != (wrap64 (t152 + 1))) = false := bne_eq_false_iff_eq.mpr c18
                                  clear c18
                                  by_cases c19 : ((rd_T136 l0 x5_1).f6.f2.f4) = (wrap64 ((wrap64 (t152 + 1)) + 1))
                                  · rw [if_pos c19] at H
                                    have c19b0 : (((rd_T136 l0 x5_1).f6.f2.f4) == (wrap64 ((wrap64 (t152 + 1)) + 1))) = true := beq_iff_eq.mpr c19
                                    have c19b1 : (((rd_T136 l0 x5_1).f6.f2.f4) != (wrap64 ((wrap64 (t152 + 1)) + 1))) = false := bne_eq_false_iff_eq.mpr c19
                                    clear c19
                                    replace H := Option.bind_eq_some_iff.mp H
                                    obtain ⟨t157, A200, H⟩ := H
                                    replace H : (if t157 < 0 then (some (-1)) else (laws_heldMessageS.l0 k1 l0 t157 (wrap64 (x5_1 + 1)))) = some r := H
                                    have A20 := Aside0.mk A200
                                    clear A200
                                    by_cases c21 : t157 < 0
                                    · rw [if_pos c21] at H
                                      have c21b0 : decide (t157 < 0) = true := decide_eq_true c21
                                      clear c21
                                      obtain rfl := Option.some.inj H
                                      have p141 : 0 ≤ (x5_1 : Int) := of_decide_eq_true as_
                                      have q141 : x5_1 < (l0.length : Int) := of_decide_eq_true as_
                                      obtain ⟨ad141, A141_6, c141_6, A141_9, c141_9, A141_13, c141_13, e141, hx141_0, hx141_1, hx141_2, hx141_3, hx141_4, hx141_5, hx141_6, hx141_7, hx141_8, hx141_9, hx141_10, hx141_11, hx141_12, hx141_13, hl141_6, hi141_6, hl141_9, hi141_9, hl141_13, hi141_13⟩ := at_T136 HR0.out x5_1 p141 q141
                                      cases e141
                                      have HR141_6 := Aside0.mk hi141_6
                                      have HC141_6 := Aside0.mk hl141_6
                                      clear hi141_6 hl141_6
                                      have HR141_9 := Aside0.mk hi141_9
                                      have HC141_9 := Aside0.mk hl141_9
                                      clear hi141_9 hl141_9
                                      have HR141_13 := Aside0.mk hi141_13
                                      have HC141_13 := Aside0.mk hl141_13
                                      clear hi141_13 hl141_13
                                      replace p141 := eq_true p141
                                      replace q141 := eq_true q141
                                      have p142 : 0 ≤ (x5_1 : Int) := of_decide_eq_true as_
                                      have q142 : x5_1 < (l0.length : Int) := of_decide_eq_true as_
                                      obtain ⟨ad142, A142_6, c142_6, A142_9, c142_9, A142_13, c142_13, e142, hx142_0, hx142_1, hx142_2, hx142_3, hx142_4, hx142_5, hx142_6, hx142_7, hx142_8, hx142_9, hx142_10, hx142_11, hx142_12, hx142_13, hl142_6, hi142_6, hl142_9, hi142_9, hl142_13, hi142_13⟩ := at_T136 HR0.out x5_1 p142 q142
                                      obtain rfl : ad141 = ad142 := (by injection e142)
                                      have HR142_6 := Aside0.mk hi142_6
                                      have HC142_6 := Aside0.mk hl142_6
                                      clear hi142_6 hl142_6
                                      have HR142_9 := Aside0.mk hi142_9
                                      have HC142_9 := Aside0.mk hl142_9
                                      clear hi142_9 hl142_9
                                      have HR142_13 := Aside0.mk hi142_13
                                      have HC142_13 := Aside0.mk hl142_13
                                      clear hi142_13 hl142_13
                                      replace p142 := eq_true p142
                                      replace q142 := eq_true q142
                                      have ea_ := Option.some.inj (hx141_6.symm.trans hx142_6)
                                      injection ea_ with ea_ en_ ec_
                                      subst ea_
                                      subst ec_
                                      clear en_
                                      have ea_ := Option.some.inj (hx141_9.symm.trans hx142_9)
                                      injection ea_ with ea_ en_ ec_
                                      subst ea_
                                      subst ec_
                                      clear en_
                                      have ea_ := Option.some.inj (hx141_13.symm.trans hx142_13)
                                      injection ea_ with ea_ en_ ec_
                                      subst ea_
                                      subst ec_
                                      clear en_
                                      have p143 : 0 ≤ (x5_1 : Int) := of_decide_eq_true as_
                                      have q143 : x5_1 < (l0.length : Int) := of_decide_eq_true as_
                                      obtain ⟨ad143, A143_6, c143_6, A143_9, c143_9, A143_13, c143_13, e143, hx143_0, hx143_1, hx143_2, hx143_3, hx143_4, hx143_5, hx143_6, hx143_7, hx143_8, hx143_9, hx143_10, hx143_11, hx143_12, hx143_13, hl143_6, hi143_6, hl143_9, hi143_9, hl143_13, hi143_13⟩ := at_T136 HR0.out x5_1 p143 q143
                                      obtain rfl : ad141 = ad143 := (by injection e143)
                                      have HR143_6 := Aside0.mk hi143_6
                                      have HC143_6 := Aside0.mk hl143_6
                                      clear hi143_6 hl143_6
                                      have HR143_9 := Aside0.mk hi143_9
                                      have HC143_9 := Aside0.mk hl143_9
                                      clear hi143_9 hl143_9
                                      have HR143_13 := Aside0.mk hi143_13
                                      have HC143_13 := Aside0.mk hl143_13
                                      clear hi143_13 hl143_13
                                      replace p143 := eq_true p143
                                      replace q143 := eq_true q143
                                      have ea_ := Option.some.inj (hx141_6.symm.trans hx143_6)
                                      injection ea_ with ea_ en_ ec_
                                      subst ea_
                                      subst ec_
                                      clear en_
                                      have ea_ := Option.some.inj (hx141_9.symm.trans hx143_9)
                                      injection ea_ with ea_ en_ ec_
                                      subst ea_
                                      subst ec_
                                      clear en_
                                      have ea_ := Option.some.inj (hx141_13.symm.trans hx143_13)
                                      injection ea_ with ea_ en_ ec_
                                      subst ea_
                                      subst ec_
                                      clear en_
                                      have p144 : 0 ≤ (x5_1 : Int) := of_decide_eq_true as_
                                      have q144 : x5_1 < (l0.length : Int) := of_decide_eq_true as_
                                      obtain ⟨ad144, A144_6, c144_6, A144_9, c144_9, A144_13, c144_13, e144, hx144_0, hx144_1, hx144_2, hx144_3, hx144_4, hx144_5, hx144_6, hx144_7, hx144_8, hx144_9, hx144_10, hx144_11, hx144_12, hx144_13, hl144_6, hi144_6, hl144_9, hi144_9, hl144_13, hi144_13⟩ := at_T136 HR0.out x5_1 p144 q144
                                      obtain rfl : ad141 = ad144 := (by injection e144)
                                      have HR144_6 := Aside0.mk hi144_6
                                      have HC144_6 := Aside0.mk hl144_6
                                      clear hi144_6 hl144_6
                                      have HR144_9 := Aside0.mk hi144_9
                                      have HC144_9 := Aside0.mk hl144_9
                                      clear hi144_9 hl144_9
                                      have HR144_13 := Aside0.mk hi144_13
                                      have HC144_13 := Aside0.mk hl144_13
                                      clear hi144_13 hl144_13
                                      replace p144 := eq_true p144
                                      replace q144 := eq_true q144
                                      have ea_ := Option.some.inj (hx141_6.symm.trans hx144_6)
                                      injection ea_ with ea_ en_ ec_
                                      subst ea_
                                      subst ec_
                                      clear en_
                                      have ea_ := Option.some.inj (hx141_9.symm.trans hx144_9)
                                      injection ea_ with ea_ en_ ec_
                                      subst ea_
                                      subst ec_
                                      clear en_
                                      have ea_ := Option.some.inj (hx141_13.symm.trans hx144_13)
                                      injection ea_ with ea_ en_ ec_
                                      subst ea_
                                      subst ec_
                                      clear en_
                                      have p145 : 0 ≤ (x5_1 : Int) := of_decide_eq_true as_
                                      have q145 : x5_1 < (l0.length : Int) := of_decide_eq_true as_
                                      obtain ⟨ad145, A145_6, c145_6, A145_9, c145_9, A145_13, c145_13, e145, hx145_0, hx145_1, hx145_2, hx145_3, hx145_4, hx145_5, hx145_6, hx145_7, hx145_8, hx145_9, hx145_10, hx145_11, hx145_12, hx145_13, hl145_6, hi145_6, hl145_9, hi145_9, hl145_13, hi145_13⟩ := at_T136 HR0.out x5_1 p145 q145
                                      obtain rfl : ad141 = ad145 := (by injection e145)
                                      have HR145_6 := Aside0.mk hi145_6
                                      have HC145_6 := Aside0.mk hl145_6
                                      clear hi145_6 hl145_6
                                      have HR145_9 := Aside0.mk hi145_9
                                      have HC145_9 := Aside0.mk hl145_9
                                      clear hi145_9 hl145_9
                                      have HR145_13 := Aside0.mk hi145_13
                                      have HC145_13 := Aside0.mk hl145_13
                                      clear hi145_13 hl145_13
                                      replace p145 := eq_true p145
                                      replace q145 := eq_true q145
                                      have ea_ := Option.some.inj (hx141_6.symm.trans hx145_6)
                                      injection ea_ with ea_ en_ ec_
                                      subst ea_
                                      subst ec_
                                      clear en_
                                      have ea_ := Option.some.inj (hx141_9.symm.trans hx145_9)
                                      injection ea_ with ea_ en_ ec_
                                      subst ea_
                                      subst ec_
                                      clear en_
                                      have ea_ := Option.some.inj (hx141_13.symm.trans hx145_13)
                                      injection ea_ with ea_ en_ ec_
                                      subst ea_
                                      subst ec_
                                      clear en_
                                      have p146 : 0 ≤ (x5_1 : Int) := of_decide_eq_true as_
                                      have q146 : x5_1 < (l0.length : Int) := of_decide_eq_true as_
                                      obtain ⟨ad146, A146_6, c146_6, A146_9, c146_9, A146_13, c146_13, e146, hx146_0, hx146_1, hx146_2, hx146_3, hx146_4, hx146_5, hx146_6, hx146_7, hx146_8, hx146_9, hx146_10, hx146_11, hx146_12, hx146_13, hl146_6, hi146_6, hl146_9, hi146_9, hl146_13, hi146_13⟩ := at_T136 HR0.out x5_1 p146 q146
                                      obtain rfl : ad141 = ad146 := (by injection e146)
                                      have HR146_6 := Aside0.mk hi146_6
                                      have HC146_6 := Aside0.mk hl146_6
                                      clear hi146_6 hl146_6
                                      have HR146_9 := Aside0.mk hi146_9
                                      have HC146_9 := Aside0.mk hl146_9
                                      clear hi146_9 hl146_9
                                      have HR146_13 := Aside0.mk hi146_13
                                      have HC146_13 := Aside0.mk hl146_13
                                      clear hi146_13 hl146_13
                                      replace p146 := eq_true p146
                                      replace q146 := eq_true q146
                                      have ea_ := Option.some.inj (hx141_6.symm.trans hx146_6)
                                      injection ea_ with ea_ en_ ec_
                                      subst ea_
                                      subst ec_
                                      clear en_
                                      have ea_ := Option.some.inj (hx141_9.symm.trans hx146_9)
                                      injection ea_ with ea_ en_ ec_
                                      subst ea_
                                      subst ec_
                                      clear en_
                                      have ea_ := Option.some.inj (hx141_13.symm.trans hx146_13)
                                      injection ea_ with ea_ en_ ec_
                                      subst ea_
                                      subst ec_
                                      clear en_
                                      have p147 : 0 ≤ (x5_1 : Int) := of_decide_eq_true as_
                                      have q147 : x5_1 < (l0.length : Int) := of_decide_eq_true as_
                                      obtain ⟨ad147, A147_6, c147_6, A147_9, c147_9, A147_13, c147_13, e147, hx147_0, hx147_1, hx147_2, hx147_3, hx147_4, hx147_5, hx147_6, hx147_7, hx147_8, hx147_9, hx147_10, hx147_11, hx147_12, hx147_13, hl147_6, hi147_6, hl147_9, hi147_9, hl147_13, hi147_13⟩ := at_T136 HR0.out x5_1 p147 q147
                                      obtain rfl : ad141 = ad147 := (by injection e147)
                                      have HR147_6 := Aside0.mk hi147_6
                                      have HC147_6 := Aside0.mk hl147_6
                                      clear hi147_6 hl147_6
                                      have HR147_9 := Aside0.mk hi147_9
                                      have HC147_9 := Aside0.mk hl147_9
                                      clear hi147_9 hl147_9
                                      have HR147_13 := Aside0.mk hi147_13
                                      have HC147_13 := Aside0.mk hl147_13
                                      clear hi147_13 hl147_13
                                      replace p147 := eq_true p147
                                      replace q147 := eq_true q147
                                      have ea_ := Option.some.inj (hx141_6.symm.trans hx147_6)
                                      injection ea_ with ea_ en_ ec_
                                      subst ea_
                                      subst ec_
                                      clear en_
                                      have ea_ := Option.some.inj (hx141_9.symm.trans hx147_9)
                                      injection ea_ with ea_ en_ ec_
                                      subst ea_
                                      subst ec_
                                      clear en_
                                      have ea_ := Option.some.inj (hx141_13.symm.trans hx147_13)
                                      injection ea_ with ea_ en_ ec_
                                      subst ea_
                                      subst ec_
                                      clear en_
                                      go_wp2_with (first | ((with_reducible refine gate_callee (f := 130) rfl ?_); refine goe_ (some 73) Try.func130 #[.slice A141_6 ((rd_T136 l0 x5_1).f6.f0).length c141_6, .int .i64 (wrap64 ((wrap64 ((wrap64 ((wrap64 ((wrap64 ((wrap64 (x1_1 + 1)) + 1)) + 1)) + 1)) + 1)) + 1))] ?_; (with_reducible refine (laws_heldPrefixS.calls k1 _ _ ((rd_T136 l0 x5_1).f6.f0) (wrap64 ((wrap64 ((wrap64 ((wrap64 ((wrap64 ((wrap64 (x1_1 + 1)) + 1)) + 1)) + 1)) + 1)) + 1)) t148 _ ?side1 ?side2 A11.out).mono ?_); (case side1 => exact kc_ HR147_6.out); (case side2 => exact HC147_6.out); rintro e w' ⟨rfl, ⟨nd, rfl⟩⟩; refine ⟨_, rfl, ?_⟩; have p149 : 0 ≤ (x5_1 : Int) := of_decide_eq_true as_; have q149 : x5_1 < (l0.length : Int) := of_decide_eq_true as_; obtain ⟨ad149, A149_6, c149_6, A149_9, c149_9, A149_13, c149_13, e149, hx149_0, hx149_1, hx149_2, hx149_3, hx149_4, hx149_5, hx149_6, hx149_7, hx149_8, hx149_9, hx149_10, hx149_11, hx149_12, hx149_13, hl149_6, hi149_6, hl149_9, hi149_9, hl149_13, hi149_13⟩ := at_T136 HR0.out x5_1 p149 q149; obtain rfl : ad141 = ad149 := (by injection e149); have HR149_6 := Aside0.mk hi149_6; have HC149_6 := Aside0.mk hl149_6; clear hi149_6 hl149_6; have HR149_9 := Aside0.mk hi149_9; have HC149_9 := Aside0.mk hl149_9; clear hi149_9 hl149_9; have HR149_13 := Aside0.mk hi149_13; have HC149_13 := Aside0.mk hl149_13; clear hi149_13 hl149_13; replace p149 := eq_true p149; replace q149 := eq_true q149; have ea_ := Option.some.inj (hx141_6.symm.trans hx149_6); injection ea_ with ea_ en_ ec_; subst ea_; subst ec_; clear en_; have ea_ := Option.some.inj (hx141_9.symm.trans hx149_9); injection ea_ with ea_ en_ ec_; subst ea_; subst ec_; clear en_; have ea_ := Option.some.inj (hx141_13.symm.trans hx149_13); injection ea_ with ea_ en_ ec_; subst ea_; subst ec_; clear en_; have p150 : 0 ≤ (x5_1 : Int) := of_decide_eq_true as_; have q150 : x5_1 < (l0.length : Int) := of_decide_eq_true as_; obtain ⟨ad150, A150_6, c150_6, A150_9, c150_9, A150_13, c150_13, e150, hx150_0, hx150_1, hx150_2, hx150_3, hx150_4, hx150_5, hx150_6, hx150_7, hx150_8, hx150_9, hx150_10, hx150_11, hx150_12, hx150_13, hl150_6, hi150_6, hl150_9, hi150_9, hl150_13, hi150_13⟩ := at_T136 HR0.out x5_1 p150 q150; obtain rfl : ad141 = ad150 := (by injection e150); have HR150_6 := Aside0.mk hi150_6; have HC150_6 := Aside0.mk hl150_6; clear hi150_6 hl150_6; have HR150_9 := Aside0.mk hi150_9; have HC150_9 := Aside0.mk hl150_9; clear hi150_9 hl150_9; have HR150_13 := Aside0.mk hi150_13; have HC150_13 := Aside0.mk hl150_13; clear hi150_13 hl150_13; replace p150 := eq_true p150; replace q150 := eq_true q150; have ea_ := Option.some.inj (hx141_6.symm.trans hx150_6); injection ea_ with ea_ en_ ec_; subst ea_; subst ec_; clear en_; have ea_ := Option.some.inj (hx141_9.symm.trans hx150_9); injection ea_ with ea_ en_ ec_; subst ea_; subst ec_; clear en_; have ea_ := Option.some.inj (hx141_13.symm.trans hx150_13); injection ea_ with ea_ en_ ec_; subst ea_; subst ec_; clear en_; have p151 : 0 ≤ (x5_1 : Int) := of_decide_eq_true as_; have q151 : x5_1 < (l0.length : Int) := of_decide_eq_true as_; obtain ⟨ad151, A151_6, c151_6, A151_9, c151_9, A151_13, c151_13, e151, hx151_0, hx151_1, hx151_2, hx151_3, hx151_4, hx151_5, hx151_6, hx151_7, hx151_8, hx151_9, hx151_10, hx151_11, hx151_12, hx151_13, hl151_6, hi151_6, hl151_9, hi151_9, hl151_13, hi151_13⟩ := at_T136 HR0.out x5_1 p151 q151; obtain rfl : ad141 = ad151 := (by injection e151); have HR151_6 := Aside0.mk hi151_6; have HC151_6 := Aside0.mk hl151_6; clear hi151_6 hl151_6; have HR151_9 := Aside0.mk hi151_9; have HC151_9 := Aside0.mk hl151_9; clear hi151_9 hl151_9; have HR151_13 := Aside0.mk hi151_13; have HC151_13 := Aside0.mk hl151_13; clear hi151_13 hl151_13; replace p151 := eq_true p151; replace q151 := eq_true q151; have ea_ := Option.some.inj (hx141_6.symm.trans hx151_6); injection ea_ with ea_ en_ ec_; subst ea_; subst ec_; clear en_; have ea_ := Option.some.inj (hx141_9.symm.trans hx151_9); injection ea_ with ea_ en_ ec_; subst ea_; subst ec_; clear en_; have ea_ := Option.some.inj (hx141_13.symm.trans hx151_13); injection ea_ with ea_ en_ ec_; subst ea_; subst ec_; clear en_) | ((with_reducible refine gate_callee (f := 145) rfl ?_); refine goe_ (some 107) Try.func145 #[.slice A141_9 ((rd_T136 l0 x5_1).f6.f2.f1).length c141_9, .int .i64 (wrap64 ((wrap64 (t148 + 1)) + 1))] ?_; (with_reducible refine (laws_heldInt64S.calls k1 _ _ ((rd_T136 l0 x5_1).f6.f2.f1) (wrap64 ((wrap64 (t148 + 1)) + 1)) t152 _ ?side1 ?side2 A15.out).mono ?_); (case side1 => exact kc_ HR151_9.out); (case side2 => exact HC151_9.out); rintro e w' ⟨rfl, ⟨nd, rfl⟩⟩; refine ⟨_, rfl, ?_⟩; have p153 : 0 ≤ (x5_1 : Int) := of_decide_eq_true as_; have q153 : x5_1 < (l0.length : Int) := of_decide_eq_true as_; obtain ⟨ad153, A153_6, c153_6, A153_9, c153_9, A153_13, c153_13, e153, hx153_0, hx153_1, hx153_2, hx153_3, hx153_4, hx153_5, hx153_6, hx153_7, hx153_8, hx153_9, hx153_10, hx153_11, hx153_12, hx153_13, hl153_6, hi153_6, hl153_9, hi153_9, hl153_13, hi153_13⟩ := at_T136 HR0.out x5_1 p153 q153; obtain rfl : ad141 = ad153 := (by injection e153); have HR153_6 := Aside0.mk hi153_6; have HC153_6 := Aside0.mk hl153_6; clear hi153_6 hl153_6; have HR153_9 := Aside0.mk hi153_9; have HC153_9 := Aside0.mk hl153_9; clear hi153_9 hl153_9; have HR153_13 := Aside0.mk hi153_13; have HC153_13 := Aside0.mk hl153_13; clear hi153_13 hl153_13; replace p153 := eq_true p153; replace q153 := eq_true q153; have ea_ := Option.some.inj (hx141_6.symm.trans hx153_6); injection ea_ with ea_ en_ ec_; subst ea_; subst ec_; clear en_; have ea_ := Option.some.inj (hx141_9.symm.trans hx153_9); injection ea_ with ea_ en_ ec_; subst ea_; subst ec_; clear en_; have ea_ := Option.some.inj (hx141_13.symm.trans hx153_13); injection ea_ with ea_ en_ ec_; subst ea_; subst ec_; clear en_; have p154 : 0 ≤ (x5_1 : Int) := of_decide_eq_true as_; have q154 : x5_1 < (l0.length : Int) := of_decide_eq_true as_; obtain ⟨ad154, A154_6, c154_6, A154_9, c154_9, A154_13, c154_13, e154, hx154_0, hx154_1, hx154_2, hx154_3, hx154_4, hx154_5, hx154_6, hx154_7, hx154_8, hx154_9, hx154_10, hx154_11, hx154_12, hx154_13, hl154_6, hi154_6, hl154_9, hi154_9, hl154_13, hi154_13⟩ := at_T136 HR0.out x5_1 p154 q154; obtain rfl : ad141 = ad154 := (by injection e154); have HR154_6 := Aside0.mk hi154_6; have HC154_6 := Aside0.mk hl154_6; clear hi154_6 hl154_6; have HR154_9 := Aside0.mk hi154_9; have HC154_9 := Aside0.mk hl154_9; clear hi154_9 hl154_9; have HR154_13 := Aside0.mk hi154_13; have HC154_13 := Aside0.mk hl154_13; clear hi154_13 hl154_13; replace p154 := eq_true p154; replace q154 := eq_true q154; have ea_ := Option.some.inj (hx141_6.symm.trans hx154_6); injection ea_ with ea_ en_ ec_; subst ea_; subst ec_; clear en_; have ea_ := Option.some.inj (hx141_9.symm.trans hx154_9); injection ea_ with ea_ en_ ec_; subst ea_; subst ec_; clear en_; have ea_ := Option.some.inj (hx141_13.symm.trans hx154_13); injection ea_ with ea_ en_ ec_; subst ea_; subst ec_; clear en_; have p155 : 0 ≤ (x5_1 : Int) := of_decide_eq_true as_; have q155 : x5_1 < (l0.length : Int) := of_decide_eq_true as_; obtain ⟨ad155, A155_6, c155_6, A155_9, c155_9, A155_13, c155_13, e155, hx155_0, hx155_1, hx155_2, hx155_3, hx155_4, hx155_5, hx155_6, hx155_7, hx155_8, hx155_9, hx155_10, hx155_11, hx155_12, hx155_13, hl155_6, hi155_6, hl155_9, hi155_9, hl155_13, hi155_13⟩ := at_T136 HR0.out x5_1 p155 q155; obtain rfl : ad141 = ad155 := (by injection e155); have HR155_6 := Aside0.mk hi155_6; have HC155_6 := Aside0.mk hl155_6; clear hi155_6 hl155_6; have HR155_9 := Aside0.mk hi155_9; have HC155_9 := Aside0.mk hl155_9; clear hi155_9 hl155_9; have HR155_13 := Aside0.mk hi155_13; have HC155_13 := Aside0.mk hl155_13; clear hi155_13 hl155_13; replace p155 := eq_true p155; replace q155 := eq_true q155; have ea_ := Option.some.inj (hx141_6.symm.trans hx155_6); injection ea_ with ea_ en_ ec_; subst ea_; subst ec_; clear en_; have ea_ := Option.some.inj (hx141_9.symm.trans hx155_9); injection ea_ with ea_ en_ ec_; subst ea_; subst ec_; clear en_; have ea_ := Option.some.inj (hx141_13.symm.trans hx155_13); injection ea_ with ea_ en_ ec_; subst ea_; subst ec_; clear en_; have p156 : 0 ≤ (x5_1 : Int) := of_decide_eq_true as_; have q156 : x5_1 < (l0.length : Int) := of_decide_eq_true as_; obtain ⟨ad156, A156_6, c156_6, A156_9, c156_9, A156_13, c156_13, e156, hx156_0, hx156_1, hx156_2, hx156_3, hx156_4, hx156_5, hx156_6, hx156_7, hx156_8, hx156_9, hx156_10, hx156_11, hx156_12, hx156_13, hl156_6, hi156_6, hl156_9, hi156_9, hl156_13, hi156_13⟩ := at_T136 HR0.out x5_1 p156 q156; obtain rfl : ad141 = ad156 := (by injection e156); have HR156_6 := Aside0.mk hi156_6; have HC156_6 := Aside0.mk hl156_6; clear hi156_6 hl156_6; have HR156_9 := Aside0.mk hi156_9; have HC156_9 := Aside0.mk hl156_9; clear hi156_9 hl156_9; have HR156_13 := Aside0.mk hi156_13; have HC156_13 := Aside0.mk hl156_13; clear hi156_13 hl156_13; replace p156 := eq_true p156; replace q156 := eq_true q156; have ea_ := Option.some.inj (hx141_6.symm.trans hx156_6); injection ea_ with ea_ en_ ec_; subst ea_; subst ec_; clear en_; have ea_ := Option.some.inj (hx141_9.symm.trans hx156_9); injection ea_ with ea_ en_ ec_; subst ea_; subst ec_; clear en_; have ea_ := Option.some.inj (hx141_13.symm.trans hx156_13); injection ea_ with ea_ en_ ec_; subst ea_; subst ec_; clear en_) | ((with_reducible refine gate_callee (f := 130) rfl ?_); refine goe_ (some 150) Try.func130 #[.slice A141_13 ((rd_T136 l0 x5_1).f6.f3).length c141_13, .int .i64 (wrap64 ((wrap64 ((wrap64 (t152 + 1)) + 1)) + 1))] ?_; (with_reducible refine (laws_heldPrefixS.calls k1 _ _ ((rd_T136 l0 x5_1).f6.f3) (wrap64 ((wrap64 ((wrap64 (t152 + 1)) + 1)) + 1)) t157 _ ?side1 ?side2 A20.out).mono ?_); (case side1 => exact kc_ HR156_13.out); (case side2 => exact HC156_13.out); rintro e w' ⟨rfl, ⟨nd, rfl⟩⟩; refine ⟨_, rfl, ?_⟩))
                                      go_ret
                                      exact ⟨sd_, by repeat (first | exact Drawn0.refl _ | apply Drawn0.step)⟩
                                    · rw [if_neg c21] at H
                                      have c21b0 : decide (t157 < 0) = false := decide_eq_false c21
                                      clear c21
                                      have H' := Aside0.mk H
                                      clear H
                                      have p141 : 0 ≤ (x5_1 : Int) := of_decide_eq_true as_
                                      have q141 : x5_1 < (l0.length : Int) := of_decide_eq_true as_
                                      obtain ⟨ad141, A141_6, c141_6, A141_9, c141_9, A141_13, c141_13, e141, hx141_0, hx141_1, hx141_2, hx141_3, hx141_4, hx141_5, hx141_6, hx141_7, hx141_8, hx141_9, hx141_10, hx141_11, hx141_12, hx141_13, hl141_6, hi141_6, hl141_9, hi141_9, hl141_13, hi141_13⟩ := at_T136 HR0.out x5_1 p141 q141
                                      cases e141
                                      have HR141_6 := Aside0.mk hi141_6
                                      have HC141_6 := Aside0.mk hl141_6
                                      clear hi141_6 hl141_6
                                      have HR141_9 := Aside0.mk hi141_9
                                      have HC141_9 := Aside0.mk hl141_9
                                      clear hi141_9 hl141_9
                                      have HR141_13 := Aside0.mk hi141_13
                                      have HC141_13 := Aside0.mk hl141_13
                                      clear hi141_13 hl141_13
                                      replace p141 := eq_true p141
                                      replace q141 := eq_true q141
                                      have p142 : 0 ≤ (x5_1 : Int) := of_decide_eq_true as_
                                      have q142 : x5_1 < (l0.length : Int) := of_decide_eq_true as_
                                      obtain ⟨ad142, A142_6, c142_6, A142_9, c142_9, A142_13, c142_13, e142, hx142_0, hx142_1, hx142_2, hx142_3, hx142_4, hx142_5, hx142_6, hx142_7, hx142_8, hx142_9, hx142_10, hx142_11, hx142_12, hx142_13, hl142_6, hi142_6, hl142_9, hi142_9, hl142_13, hi142_13⟩ := at_T136 HR0.out x5_1 p142 q142
                                      obtain rfl : ad141 = ad142 := (by injection e142)
                                      have HR142_6 := Aside0.mk hi142_6
                                      have HC142_6 := Aside0.mk hl142_6
                                      clear hi142_6 hl142_6
                                      have HR142_9 := Aside0.mk hi142_9
                                      have HC142_9 := Aside0.mk hl142_9
                                      clear hi142_9 hl142_9
                                      have HR142_13 := Aside0.mk hi142_13
                                      have HC142_13 := Aside0.mk hl142_13
                                      clear hi142_13 hl142_13
                                      replace p142 := eq_true p142
                                      replace q142 := eq_true q142
                                      have ea_ := Option.some.inj (hx141_6.symm.trans hx142_6)
                                      injection ea_ with ea_ en_ ec_
                                      subst ea_
                                      subst ec_
                                      clear en_
                                      have ea_ := Option.some.inj (hx141_9.symm.trans hx142_9)
                                      injection ea_ with ea_ en_ ec_
                                      subst ea_
                                      subst ec_
                                      clear en_
                                      have ea_ := Option.some.inj (hx141_13.symm.trans hx142_13)
                                      injection ea_ with ea_ en_ ec_
                                      subst ea_
                                      subst ec_
                                      clear en_
                                      have p143 : 0 ≤ (x5_1 : Int) := of_decide_eq_true as_
                                      have q143 : x5_1 < (l0.length : Int) := of_decide_eq_true as_
                                      obtain ⟨ad143, A143_6, c143_6, A143_9, c143_9, A143_13, c143_13, e143, hx143_0, hx143_1, hx143_2, hx143_3, hx143_4, hx143_5, hx143_6, hx143_7, hx143_8, hx143_9, hx143_10, hx143_11, hx143_12, hx143_13, hl143_6, hi143_6, hl143_9, hi143_9, hl143_13, hi143_13⟩ := at_T136 HR0.out x5_1 p143 q143
                                      obtain rfl : ad141 = ad143 := (by injection e143)
                                      have HR143_6 := Aside0.mk hi143_6
                                      have HC143_6 := Aside0.mk hl143_6
                                      clear hi143_6 hl143_6
                                      have HR143_9 := Aside0.mk hi143_9
                                      have HC143_9 := Aside0.mk hl143_9
                                      clear hi143_9 hl143_9
                                      have HR143_13 := Aside0.mk hi143_13
                                      have HC143_13 := Aside0.mk hl143_13
                                      clear hi143_13 hl143_13
                                      replace p143 := eq_true p143
                                      replace q143 := eq_true q143
                                      have ea_ := Option.some.inj (hx141_6.symm.trans hx143_6)
                                      injection ea_ with ea_ en_ ec_
                                      subst ea_
                                      subst ec_
                                      clear en_
                                      have ea_ := Option.some.inj (hx141_9.symm.trans hx143_9)
                                      injection ea_ with ea_ en_ ec_
                                      subst ea_
                                      subst ec_
                                      clear en_
                                      have ea_ := Option.some.inj (hx141_13.symm.trans hx143_13)
                                      injection ea_ with ea_ en_ ec_
                                      subst ea_
                                      subst ec_
                                      clear en_
                                      have p144 : 0 ≤ (x5_1 : Int) := of_decide_eq_true as_
                                      have q144 : x5_1 < (l0.length : Int) := of_decide_eq_true as_
                                      obtain ⟨ad144, A144_6, c144_6, A144_9, c144_9, A144_13, c144_13, e144, hx144_0, hx144_1, hx144_2, hx144_3, hx144_4, hx144_5, hx144_6, hx144_7, hx144_8, hx144_9, hx144_10, hx144_11, hx144_12, hx144_13, hl144_6, hi144_6, hl144_9, hi144_9, hl144_13, hi144_13⟩ := at_T136 HR0.out x5_1 p144 q144
                                      obtain rfl : ad141 = ad144 := (by injection e144)
                                      have HR144_6 := Aside0.mk hi144_6
                                      have HC144_6 := Aside0.mk hl144_6
                                      clear hi144_6 hl144_6
                                      have HR144_9 := Aside0.mk hi144_9
                                      have HC144_9 := Aside0.mk hl144_9
                                      clear hi144_9 hl144_9
                                      have HR144_13 := Aside0.mk hi144_13
                                      have HC144_13 := Aside0.mk hl144_13
                                      clear hi144_13 hl144_13
                                      replace p144 := eq_true p144
                                      replace q144 := eq_true q144
                                      have ea_ := Option.some.inj (hx141_6.symm.trans hx144_6)
                                      injection ea_ with ea_ en_ ec_
                                      subst ea_
                                      subst ec_
                                      clear en_
                                      have ea_ := Option.some.inj (hx141_9.symm.trans hx144_9)
                                      injection ea_ with ea_ en_ ec_
                                      subst ea_
                                      subst ec_
                                      clear en_
                                      have ea_ := Option.some.inj (hx141_13.symm.trans hx144_13)
                                      injection ea_ with ea_ en_ ec_
                                      subst ea_
                                      subst ec_
                                      clear en_
                                      have p145 : 0 ≤ (x5_1 : Int) := of_decide_eq_true as_
                                      have q145 : x5_1 < (l0.length : Int) := of_decide_eq_true as_
                                      obtain ⟨ad145, A145_6, c145_6, A145_9, c145_9, A145_13, c145_13, e145, hx145_0, hx145_1, hx145_2, hx145_3, hx145_4, hx145_5, hx145_6, hx145_7, hx145_8, hx145_9, hx145_10, hx145_11, hx145_12, hx145_13, hl145_6, hi145_6, hl145_9, hi145_9, hl145_13, hi145_13⟩ := at_T136 HR0.out x5_1 p145 q145
                                      obtain rfl : ad141 = ad145 := (by injection e145)
                                      have HR145_6 := Aside0.mk hi145_6
                                      have HC145_6 := Aside0.mk hl145_6
                                      clear hi145_6 hl145_6
                                      have HR145_9 := Aside0.mk hi145_9
                                      have HC145_9 := Aside0.mk hl145_9
                                      clear hi145_9 hl145_9
                                      have HR145_13 := Aside0.mk hi145_13
                                      have HC145_13 := Aside0.mk hl145_13
                                      clear hi145_13 hl145_13
                                      replace p145 := eq_true p145
                                      replace q145 := eq_true q145
                                      have ea_ := Option.some.inj (hx141_6.symm.trans hx145_6)
                                      injection ea_ with ea_ en_ ec_
                                      subst ea_
                                      subst ec_
                                      clear en_
                                      have ea_ := Option.some.inj (hx141_9.symm.trans hx145_9)
                                      injection ea_ with ea_ en_ ec_
                                      subst ea_
                                      subst ec_
                                      clear en_
                                      have ea_ := Option.some.inj (hx141_13.symm.trans hx145_13)
                                      injection ea_ with ea_ en_ ec_
                                      subst ea_
                                      subst ec_
                                      clear en_
                                      have p146 : 0 ≤ (x5_1 : Int) := of_decide_eq_true as_
                                      have q146 : x5_1 < (l0.length : Int) := of_decide_eq_true as_
                                      obtain ⟨ad146, A146_6, c146_6, A146_9, c146_9, A146_13, c146_13, e146, hx146_0, hx146_1, hx146_2, hx146_3, hx146_4, hx146_5, hx146_6, hx146_7, hx146_8, hx146_9, hx146_10, hx146_11, hx146_12, hx146_13, hl146_6, hi146_6, hl146_9, hi146_9, hl146_13, hi146_13⟩ := at_T136 HR0.out x5_1 p146 q146
                                      obtain rfl : ad141 = ad146 := (by injection e146)
                                      have HR146_6 := Aside0.mk hi146_6
                                      have HC146_6 := Aside0.mk hl146_6
                                      clear hi146_6 hl146_6
                                      have HR146_9 := Aside0.mk hi146_9
                                      have HC146_9 := Aside0.mk hl146_9
                                      clear hi146_9 hl146_9
                                      have HR146_13 := Aside0.mk hi146_13
                                      have HC146_13 := Aside0.mk hl146_13
                                      clear hi146_13 hl146_13
                                      replace p146 := eq_true p146
                                      replace q146 := eq_true q146
                                      have ea_ := Option.some.inj (hx141_6.symm.trans hx146_6)
                                      injection ea_ with ea_ en_ ec_
                                      subst ea_
                                      subst ec_
                                      clear en_
                                      have ea_ := Option.some.inj (hx141_9.symm.trans hx146_9)
                                      injection ea_ with ea_ en_ ec_
                                      subst ea_
                                      subst ec_
                                      clear en_
                                      have ea_ := Option.some.inj (hx141_13.symm.trans hx146_13)
                                      injection ea_ with ea_ en_ ec_
                                      subst ea_
                                      subst ec_
                                      clear en_
                                      have p147 : 0 ≤ (x5_1 : Int) := of_decide_eq_true as_
                                      have q147 : x5_1 < (l0.length : Int) := of_decide_eq_true as_
                                      obtain ⟨ad147, A147_6, c147_6, A147_9, c147_9, A147_13, c147_13, e147, hx147_0, hx147_1, hx147_2, hx147_3, hx147_4, hx147_5, hx147_6, hx147_7, hx147_8, hx147_9, hx147_10, hx147_11, hx147_12, hx147_13, hl147_6, hi147_6, hl147_9, hi147_9, hl147_13, hi147_13⟩ := at_T136 HR0.out x5_1 p147 q147
                                      obtain rfl : ad141 = ad147 := (by injection e147)
                                      have HR147_6 := Aside0.mk hi147_6
                                      have HC147_6 := Aside0.mk hl147_6
                                      clear hi147_6 hl147_6
                                      have HR147_9 := Aside0.mk hi147_9
                                      have HC147_9 := Aside0.mk hl147_9
                                      clear hi147_9 hl147_9
                                      have HR147_13 := Aside0.mk hi147_13
                                      have HC147_13 := Aside0.mk hl147_13
                                      clear hi147_13 hl147_13
                                      replace p147 := eq_true p147
                                      replace q147 := eq_true q147
                                      have ea_ := Option.some.inj (hx141_6.symm.trans hx147_6)
                                      injection ea_ with ea_ en_ ec_
                                      subst ea_
                                      subst ec_
                                      clear en_
                                      have ea_ := Option.some.inj (hx141_9.symm.trans hx147_9)
                                      injection ea_ with ea_ en_ ec_
                                      subst ea_
                                      subst ec_
                                      clear en_
                                      have ea_ := Option.some.inj (hx141_13.symm.trans hx147_13)
                                      injection ea_ with ea_ en_ ec_
                                      subst ea_
                                      subst ec_
                                      clear en_
                                      go_wp2_with (first | ((with_reducible refine gate_callee (f := 130) rfl ?_); refine goe_ (some 73) Try.func130 #[.slice A141_6 ((rd_T136 l0 x5_1).f6.f0).length c141_6, .int .i64 (wrap64 ((wrap64 ((wrap64 ((wrap64 ((wrap64 ((wrap64 (x1_1 + 1)) + 1)) + 1)) + 1)) + 1)) + 1))] ?_; (with_reducible refine (laws_heldPrefixS.calls k1 _ _ ((rd_T136 l0 x5_1).f6.f0) (wrap64 ((wrap64 ((wrap64 ((wrap64 ((wrap64 ((wrap64 (x1_1 + 1)) + 1)) + 1)) + 1)) + 1)) + 1)) t148 _ ?side1 ?side2 A11.out).mono ?_); (case side1 => exact kc_ HR147_6.out); (case side2 => exact HC147_6.out); rintro e w' ⟨rfl, ⟨nd, rfl⟩⟩; refine ⟨_, rfl, ?_⟩; have p149 : 0 ≤ (x5_1 : Int) := of_decide_eq_true as_; have q149 : x5_1 < (l0.length : Int) := of_decide_eq_true as_; obtain ⟨ad149, A149_6, c149_6, A149_9, c149_9, A149_13, c149_13, e149, hx149_0, hx149_1, hx149_2, hx149_3, hx149_4, hx149_5, hx149_6, hx149_7, hx149_8, hx149_9, hx149_10, hx149_11, hx149_12, hx149_13, hl149_6, hi149_6, hl149_9, hi149_9, hl149_13, hi149_13⟩ := at_T136 HR0.out x5_1 p149 q149; obtain rfl : ad141 = ad149 := (by injection e149); have HR149_6 := Aside0.mk hi149_6; have HC149_6 := Aside0.mk hl149_6; clear hi149_6 hl149_6; have HR149_9 := Aside0.mk hi149_9; have HC149_9 := Aside0.mk hl149_9; clear hi149_9 hl149_9; have HR149_13 := Aside0.mk hi149_13; have HC149_13 := Aside0.mk hl149_13; clear hi149_13 hl149_13; replace p149 := eq_true p149; replace q149 := eq_true q149; have ea_ := Option.some.inj (hx141_6.symm.trans hx149_6); injection ea_ with ea_ en_ ec_; subst ea_; subst ec_; clear en_; have ea_ := Option.some.inj (hx141_9.symm.trans hx149_9); injection ea_ with ea_ en_ ec_; subst ea_; subst ec_; clear en_; have ea_ := Option.some.inj (hx141_13.symm.trans hx149_13); injection ea_ with ea_ en_ ec_; subst ea_; subst ec_; clear en_; have p150 : 0 ≤ (x5_1 : Int) := of_decide_eq_true as_; have q150 : x5_1 < (l0.length : Int) := of_decide_eq_true as_; obtain ⟨ad150, A150_6, c150_6, A150_9, c150_9, A150_13, c150_13, e150, hx150_0, hx150_1, hx150_2, hx150_3, hx150_4, hx150_5, hx150_6, hx150_7, hx150_8, hx150_9, hx150_10, hx150_11, hx150_12, hx150_13, hl150_6, hi150_6, hl150_9, hi150_9, hl150_13, hi150_13⟩ := at_T136 HR0.out x5_1 p150 q150; obtain rfl : ad141 = ad150 := (by injection e150); have HR150_6 := Aside0.mk hi150_6; have HC150_6 := Aside0.mk hl150_6; clear hi150_6 hl150_6; have HR150_9 := Aside0.mk hi150_9; have HC150_9 := Aside0.mk hl150_9; clear hi150_9 hl150_9; have HR150_13 := Aside0.mk hi150_13; have HC150_13 := Aside0.mk hl150_13; clear hi150_13 hl150_13; replace p150 := eq_true p150; replace q150 := eq_true q150; have ea_ := Option.some.inj (hx141_6.symm.trans hx150_6); injection ea_ with ea_ en_ ec_; subst ea_; subst ec_; clear en_; have ea_ := Option.some.inj (hx141_9.symm.trans hx150_9); injection ea_ with ea_ en_ ec_; subst ea_; subst ec_; clear en_; have ea_ := Option.some.inj (hx141_13.symm.trans hx150_13); injection ea_ with ea_ en_ ec_; subst ea_; subst ec_; clear en_; have p151 : 0 ≤ (x5_1 : Int) := of_decide_eq_true as_; have q151 : x5_1 < (l0.length : Int) := of_decide_eq_true as_; obtain ⟨ad151, A151_6, c151_6, A151_9, c151_9, A151_13, c151_13, e151, hx151_0, hx151_1, hx151_2, hx151_3, hx151_4, hx151_5, hx151_6, hx151_7, hx151_8, hx151_9, hx151_10, hx151_11, hx151_12, hx151_13, hl151_6, hi151_6, hl151_9, hi151_9, hl151_13, hi151_13⟩ := at_T136 HR0.out x5_1 p151 q151; obtain rfl : ad141 = ad151 := (by injection e151); have HR151_6 := Aside0.mk hi151_6; have HC151_6 := Aside0.mk hl151_6; clear hi151_6 hl151_6; have HR151_9 := Aside0.mk hi151_9; have HC151_9 := Aside0.mk hl151_9; clear hi151_9 hl151_9; have HR151_13 := Aside0.mk hi151_13; have HC151_13 := Aside0.mk hl151_13; clear hi151_13 hl151_13; replace p151 := eq_true p151; replace q151 := eq_true q151; have ea_ := Option.some.inj (hx141_6.symm.trans hx151_6); injection ea_ with ea_ en_ ec_; subst ea_; subst ec_; clear en_; have ea_ := Option.some.inj (hx141_9.symm.trans hx151_9); injection ea_ with ea_ en_ ec_; subst ea_; subst ec_; clear en_; have ea_ := Option.some.inj (hx141_13.symm.trans hx151_13); injection ea_ with ea_ en_ ec_; subst ea_; subst ec_; clear en_) | ((with_reducible refine gate_callee (f := 145) rfl ?_); refine goe_ (some 107) Try.func145 #[.slice A141_9 ((rd_T136 l0 x5_1).f6.f2.f1).length c141_9, .int .i64 (wrap64 ((wrap64 (t148 + 1)) + 1))] ?_; (with_reducible refine (laws_heldInt64S.calls k1 _ _ ((rd_T136 l0 x5_1).f6.f2.f1) (wrap64 ((wrap64 (t148 + 1)) + 1)) t152 _ ?side1 ?side2 A15.out).mono ?_); (case side1 => exact kc_ HR151_9.out); (case side2 => exact HC151_9.out); rintro e w' ⟨rfl, ⟨nd, rfl⟩⟩; refine ⟨_, rfl, ?_⟩; have p153 : 0 ≤ (x5_1 : Int) := of_decide_eq_true as_; have q153 : x5_1 < (l0.length : Int) := of_decide_eq_true as_; obtain ⟨ad153, A153_6, c153_6, A153_9, c153_9, A153_13, c153_13, e153, hx153_0, hx153_1, hx153_2, hx153_3, hx153_4, hx153_5, hx153_6, hx153_7, hx153_8, hx153_9, hx153_10, hx153_11, hx153_12, hx153_13, hl153_6, hi153_6, hl153_9, hi153_9, hl153_13, hi153_13⟩ := at_T136 HR0.out x5_1 p153 q153; obtain rfl : ad141 = ad153 := (by injection e153); have HR153_6 := Aside0.mk hi153_6; have HC153_6 := Aside0.mk hl153_6; clear hi153_6 hl153_6; have HR153_9 := Aside0.mk hi153_9; have HC153_9 := Aside0.mk hl153_9; clear hi153_9 hl153_9; have HR153_13 := Aside0.mk hi153_13; have HC153_13 := Aside0.mk hl153_13; clear hi153_13 hl153_13; replace p153 := eq_true p153; replace q153 := eq_true q153; have ea_ := Option.some.inj (hx141_6.symm.trans hx153_6); injection ea_ with ea_ en_ ec_; subst ea_; subst ec_; clear en_; have ea_ := Option.some.inj (hx141_9.symm.trans hx153_9); injection ea_ with ea_ en_ ec_; subst ea_; subst ec_; clear en_; have ea_ := Option.some.inj (hx141_13.symm.trans hx153_13); injection ea_ with ea_ en_ ec_; subst ea_; subst ec_; clear en_; have p154 : 0 ≤ (x5_1 : Int) := of_decide_eq_true as_; have q154 : x5_1 < (l0.length : Int) := of_decide_eq_true as_; obtain ⟨ad154, A154_6, c154_6, A154_9, c154_9, A154_13, c154_13, e154, hx154_0, hx154_1, hx154_2, hx154_3, hx154_4, hx154_5, hx154_6, hx154_7, hx154_8, hx154_9, hx154_10, hx154_11, hx154_12, hx154_13, hl154_6, hi154_6, hl154_9, hi154_9, hl154_13, hi154_13⟩ := at_T136 HR0.out x5_1 p154 q154; obtain rfl : ad141 = ad154 := (by injection e154); have HR154_6 := Aside0.mk hi154_6; have HC154_6 := Aside0.mk hl154_6; clear hi154_6 hl154_6; have HR154_9 := Aside0.mk hi154_9; have HC154_9 := Aside0.mk hl154_9; clear hi154_9 hl154_9; have HR154_13 := Aside0.mk hi154_13; have HC154_13 := Aside0.mk hl154_13; clear hi154_13 hl154_13; replace p154 := eq_true p154; replace q154 := eq_true q154; have ea_ := Option.some.inj (hx141_6.symm.trans hx154_6); injection ea_ with ea_ en_ ec_; subst ea_; subst ec_; clear en_; have ea_ := Option.some.inj (hx141_9.symm.trans hx154_9); injection ea_ with ea_ en_ ec_; subst ea_; subst ec_; clear en_; have ea_ := Option.some.inj (hx141_13.symm.trans hx154_13); injection ea_ with ea_ en_ ec_; subst ea_; subst ec_; clear en_; have p155 : 0 ≤ (x5_1 : Int) := of_decide_eq_true as_; have q155 : x5_1 < (l0.length : Int) := of_decide_eq_true as_; obtain ⟨ad155, A155_6, c155_6, A155_9, c155_9, A155_13, c155_13, e155, hx155_0, hx155_1, hx155_2, hx155_3, hx155_4, hx155_5, hx155_6, hx155_7, hx155_8, hx155_9, hx155_10, hx155_11, hx155_12, hx155_13, hl155_6, hi155_6, hl155_9, hi155_9, hl155_13, hi155_13⟩ := at_T136 HR0.out x5_1 p155 q155; obtain rfl : ad141 = ad155 := (by injection e155); have HR155_6 := Aside0.mk hi155_6; have HC155_6 := Aside0.mk hl155_6; clear hi155_6 hl155_6; have HR155_9 := Aside0.mk hi155_9; have HC155_9 := Aside0.mk hl155_9; clear hi155_9 hl155_9; have HR155_13 := Aside0.mk hi155_13; have HC155_13 := Aside0.mk hl155_13; clear hi155_13 hl155_13; replace p155 := eq_true p155; replace q155 := eq_true q155; have ea_ := Option.some.inj (hx141_6.symm.trans hx155_6); injection ea_ with ea_ en_ ec_; subst ea_; subst ec_; clear en_; have ea_ := Option.some.inj (hx141_9.symm.trans hx155_9); injection ea_ with ea_ en_ ec_; subst ea_; subst ec_; clear en_; have ea_ := Option.some.inj (hx141_13.symm.trans hx155_13); injection ea_ with ea_ en_ ec_; subst ea_; subst ec_; clear en_; have p156 : 0 ≤ (x5_1 : Int) := of_decide_eq_true as_; have q156 : x5_1 < (l0.length : Int) := of_decide_eq_true as_; obtain ⟨ad156, A156_6, c156_6, A156_9, c156_9, A156_13, c156_13, e156, hx156_0, hx156_1, hx156_2, hx156_3, hx156_4, hx156_5, hx156_6, hx156_7, hx156_8, hx156_9, hx156_10, hx156_11, hx156_12, hx156_13, hl156_6, hi156_6, hl156_9, hi156_9, hl156_13, hi156_13⟩ := at_T136 HR0.out x5_1 p156 q156; obtain rfl : ad141 = ad156 := (by injection e156); have HR156_6 := Aside0.mk hi156_6; have HC156_6 := Aside0.mk hl156_6; clear hi156_6 hl156_6; have HR156_9 := Aside0.mk hi156_9; have HC156_9 := Aside0.mk hl156_9; clear hi156_9 hl156_9; have HR156_13 := Aside0.mk hi156_13; have HC156_13 := Aside0.mk hl156_13; clear hi156_13 hl156_13; replace p156 := eq_true p156; replace q156 := eq_true q156; have ea_ := Option.some.inj (hx141_6.symm.trans hx156_6); injection ea_ with ea_ en_ ec_; subst ea_; subst ec_; clear en_; have ea_ := Option.some.inj (hx141_9.symm.trans hx156_9); injection ea_ with ea_ en_ ec_; subst ea_; subst ec_; clear en_; have ea_ := Option.some.inj (hx141_13.symm.trans hx156_13); injection ea_ with ea_ en_ ec_; subst ea_; subst ec_; clear en_) | ((with_reducible refine gate_callee (f := 130) rfl ?_); refine goe_ (some 150) Try.func130 #[.slice A141_13 ((rd_T136 l0 x5_1).f6.f3).length c141_13, .int .i64 (wrap64 ((wrap64 ((wrap64 (t152 + 1)) + 1)) + 1))] ?_; (with_reducible refine (laws_heldPrefixS.calls k1 _ _ ((rd_T136 l0 x5_1).f6.f3) (wrap64 ((wrap64 ((wrap64 (t152 + 1)) + 1)) + 1)) t157 _ ?side1 ?side2 A20.out).mono ?_); (case side1 => exact kc_ HR156_13.out); (case side2 => exact HC156_13.out); rintro e w' ⟨rfl, ⟨nd, rfl⟩⟩; refine ⟨_, rfl, ?_⟩))
                                      go_roundg k1
                                      case measure => have := HK1.out; omega
                                      case rel => exact ⟨(t157), (wrap64 (x5_1 + 1)), sd_, sd_, H', ⟨by have := HK1.out; omega⟩, by repeat (first | exact Drawn0.refl _ | apply Drawn0.step)⟩
                                  · rw [if_neg c19] at H
                                    have c19b0 : (((rd_T136 l0 x5_1).f6.f2.f4) == (wrap64 ((wrap64 (t152 + 1)) + 1))) = false := beq_eq_false_iff_ne.mpr c19
                                    have c19b1 : (((rd_T136 l0 x5_1).f6.f2.f4) != (wrap64 ((wrap64 (t152 + 1)) + 1))) = true := bne_iff_ne.mpr c19
                                    obtain rfl := Option.some.inj H
                                    have p141 : 0 ≤ (x5_1 : Int) := of_decide_eq_true as_
                                    have q141 : x5_1 < (l0.length : Int) := of_decide_eq_true as_
                                    obtain ⟨ad141, A141_6, c141_6, A141_9, c141_9, A141_13, c141_13, e141, hx141_0, hx141_1, hx141_2, hx141_3, hx141_4, hx141_5, hx141_6, hx141_7, hx141_8, hx141_9, hx141_10, hx141_11, hx141_12, hx141_13, hl141_6, hi141_6, hl141_9, hi141_9, hl141_13, hi141_13⟩ := at_T136 HR0.out x5_1 p141 q141
                                    cases e141
                                    have HR141_6 := Aside0.mk hi141_6
                                    have HC141_6 := Aside0.mk hl141_6
                                    clear hi141_6 hl141_6
                                    have HR141_9 := Aside0.mk hi141_9
                                    have HC141_9 := Aside0.mk hl141_9
                                    clear hi141_9 hl141_9
                                    have HR141_13 := Aside0.mk hi141_13
                                    have HC141_13 := Aside0.mk hl141_13
                                    clear hi141_13 hl141_13
                                    replace p141 := eq_true p141
                                    replace q141 := eq_true q141
                                    have p142 : 0 ≤ (x5_1 : Int) := of_decide_eq_true as_
                                    have q142 : x5_1 < (l0.length : Int) := of_decide_eq_true as_
                                    obtain ⟨ad142, A142_6, c142_6, A142_9, c142_9, A142_13, c142_13, e142, hx142_0, hx142_1, hx142_2, hx142_3, hx142_4, hx142_5, hx142_6, hx142_7, hx142_8, hx142_9, hx142_10, hx142_11, hx142_12, hx142_13, hl142_6, hi142_6, hl142_9, hi142_9, hl142_13, hi142_13⟩ := at_T136 HR0.out x5_1 p142 q142
                                    obtain rfl : ad141 = ad142 := (by injection e142)
                                    have HR142_6 := Aside0.mk hi142_6
                                    have HC142_6 := Aside0.mk hl142_6
                                    clear hi142_6 hl142_6
                                    have HR142_9 := Aside0.mk hi142_9
                                    have HC142_9 := Aside0.mk hl142_9
                                    clear hi142_9 hl142_9
                                    have HR142_13 := Aside0.mk hi142_13
                                    have HC142_13 := Aside0.mk hl142_13
                                    clear hi142_13 hl142_13
                                    replace p142 := eq_true p142
                                    replace q142 := eq_true q142
                                    have ea_ := Option.some.inj (hx141_6.symm.trans hx142_6)
                                    injection ea_ with ea_ en_ ec_
                                    subst ea_
                                    subst ec_
                                    clear en_
                                    have ea_ := Option.some.inj (hx141_9.symm.trans hx142_9)
                                    injection ea_ with ea_ en_ ec_
                                    subst ea_
                                    subst ec_
                                    clear en_
                                    have ea_ := Option.some.inj (hx141_13.symm.trans hx142_13)
                                    injection ea_ with ea_ en_ ec_
                                    subst ea_
                                    subst ec_
                                    clear en_
                                    have p143 : 0 ≤ (x5_1 : Int) := of_decide_eq_true as_
                                    have q143 : x5_1 < (l0.length : Int) := of_decide_eq_true as_
                                    obtain ⟨ad143, A143_6, c143_6, A143_9, c143_9, A143_13, c143_13, e143, hx143_0, hx143_1, hx143_2, hx143_3, hx143_4, hx143_5, hx143_6, hx143_7, hx143_8, hx143_9, hx143_10, hx143_11, hx143_12, hx143_13, hl143_6, hi143_6, hl143_9, hi143_9, hl143_13, hi143_13⟩ := at_T136 HR0.out x5_1 p143 q143
                                    obtain rfl : ad141 = ad143 := (by injection e143)
                                    have HR143_6 := Aside0.mk hi143_6
                                    have HC143_6 := Aside0.mk hl143_6
                                    clear hi143_6 hl143_6
                                    have HR143_9 := Aside0.mk hi143_9
                                    have HC143_9 := Aside0.mk hl143_9
                                    clear hi143_9 hl143_9
                                    have HR143_13 := Aside0.mk hi143_13
                                    have HC143_13 := Aside0.mk hl143_13
                                    clear hi143_13 hl143_13
                                    replace p143 := eq_true p143
                                    replace q143 := eq_true q143
                                    have ea_ := Option.some.inj (hx141_6.symm.trans hx143_6)
                                    injection ea_ with ea_ en_ ec_
                                    subst ea_
                                    subst ec_
                                    clear en_
                                    have ea_ := Option.some.inj (hx141_9.symm.trans hx143_9)
                                    injection ea_ with ea_ en_ ec_
                                    subst ea_
                                    subst ec_
                                    clear en_
                                    have ea_ := Option.some.inj (hx141_13.symm.trans hx143_13)
                                    injection ea_ with ea_ en_ ec_
                                    subst ea_
                                    subst ec_
                                    clear en_
                                    have p144 : 0 ≤ (x5_1 : Int) := of_decide_eq_true as_
                                    have q144 : x5_1 < (l0.length : Int) := of_decide_eq_true as_
                                    obtain ⟨ad144, A144_6, c144_6, A144_9, c144_9, A144_13, c144_13, e144, hx144_0, hx144_1, hx144_2, hx144_3, hx144_4, hx144_5, hx144_6, hx144_7, hx144_8, hx144_9, hx144_10, hx144_11, hx144_12, hx144_13, hl144_6, hi144_6, hl144_9, hi144_9, hl144_13, hi144_13⟩ := at_T136 HR0.out x5_1 p144 q144
                                    obtain rfl : ad141 = ad144 := (by injection e144)
                                    have HR144_6 := Aside0.mk hi144_6
                                    have HC144_6 := Aside0.mk hl144_6
                                    clear hi144_6 hl144_6
                                    have HR144_9 := Aside0.mk hi144_9
                                    have HC144_9 := Aside0.mk hl144_9
                                    clear hi144_9 hl144_9
                                    have HR144_13 := Aside0.mk hi144_13
                                    have HC144_13 := Aside0.mk hl144_13
                                    clear hi144_13 hl144_13
                                    replace p144 := eq_true p144
                                    replace q144 := eq_true q144
                                    have ea_ := Option.some.inj (hx141_6.symm.trans hx144_6)
                                    injection ea_ with ea_ en_ ec_
                                    subst ea_
                                    subst ec_
                                    clear en_
                                    have ea_ := Option.some.inj (hx141_9.symm.trans hx144_9)
                                    injection ea_ with ea_ en_ ec_
                                    subst ea_
                                    subst ec_
                                    clear en_
                                    have ea_ := Option.some.inj (hx141_13.symm.trans hx144_13)
                                    injection ea_ with ea_ en_ ec_
                                    subst ea_
                                    subst ec_
                                    clear en_
                                    have p145 : 0 ≤ (x5_1 : Int) := of_decide_eq_true as_
                                    have q145 : x5_1 < (l0.length : Int) := of_decide_eq_true as_
                                    obtain ⟨ad145, A145_6, c145_6, A145_9, c145_9, A145_13, c145_13, e145, hx145_0, hx145_1, hx145_2, hx145_3, hx145_4, hx145_5, hx145_6, hx145_7, hx145_8, hx145_9, hx145_10, hx145_11, hx145_12, hx145_13, hl145_6, hi145_6, hl145_9, hi145_9, hl145_13, hi145_13⟩ := at_T136 HR0.out x5_1 p145 q145
                                    obtain rfl : ad141 = ad145 := (by injection e145)
                                    have HR145_6 := Aside0.mk hi145_6
                                    have HC145_6 := Aside0.mk hl145_6
                                    clear hi145_6 hl145_6
                                    have HR145_9 := Aside0.mk hi145_9
                                    have HC145_9 := Aside0.mk hl145_9
                                    clear hi145_9 hl145_9
                                    have HR145_13 := Aside0.mk hi145_13
                                    have HC145_13 := Aside0.mk hl145_13
                                    clear hi145_13 hl145_13
                                    replace p145 := eq_true p145
                                    replace q145 := eq_true q145
                                    have ea_ := Option.some.inj (hx141_6.symm.trans hx145_6)
                                    injection ea_ with ea_ en_ ec_
                                    subst ea_
                                    subst ec_
                                    clear en_
                                    have ea_ := Option.some.inj (hx141_9.symm.trans hx145_9)
                                    injection ea_ with ea_ en_ ec_
                                    subst ea_
                                    subst ec_
                                    clear en_
                                    have ea_ := Option.some.inj (hx141_13.symm.trans hx145_13)
                                    injection ea_ with ea_ en_ ec_
                                    subst ea_
                                    subst ec_
                                    clear en_
                                    have p146 : 0 ≤ (x5_1 : Int) := of_decide_eq_true as_
                                    have q146 : x5_1 < (l0.length : Int) := of_decide_eq_true as_
                                    obtain ⟨ad146, A146_6, c146_6, A146_9, c146_9, A146_13, c146_13, e146, hx146_0, hx146_1, hx146_2, hx146_3, hx146_4, hx146_5, hx146_6, hx146_7, hx146_8, hx146_9, hx146_10, hx146_11, hx146_12, hx146_13, hl146_6, hi146_6, hl146_9, hi146_9, hl146_13, hi146_13⟩ := at_T136 HR0.out x5_1 p146 q146
                                    obtain rfl : ad141 = ad146 := (by injection e146)
                                    have HR146_6 := Aside0.mk hi146_6
                                    have HC146_6 := Aside0.mk hl146_6
                                    clear hi146_6 hl146_6
                                    have HR146_9 := Aside0.mk hi146_9
                                    have HC146_9 := Aside0.mk hl146_9
                                    clear hi146_9 hl146_9
                                    have HR146_13 := Aside0.mk hi146_13
                                    have HC146_13 := Aside0.mk hl146_13
                                    clear hi146_13 hl146_13
                                    replace p146 := eq_true p146
                                    replace q146 := eq_true q146
                                    have ea_ := Option.some.inj (hx141_6.symm.trans hx146_6)
                                    injection ea_ with ea_ en_ ec_
                                    subst ea_
                                    subst ec_
                                    clear en_
                                    have ea_ := Option.some.inj (hx141_9.symm.trans hx146_9)
                                    injection ea_ with ea_ en_ ec_
                                    subst ea_
                                    subst ec_
                                    clear en_
                                    have ea_ := Option.some.inj (hx141_13.symm.trans hx146_13)
                                    injection ea_ with ea_ en_ ec_
                                    subst ea_
                                    subst ec_
                                    clear en_
                                    have p147 : 0 ≤ (x5_1 : Int) := of_decide_eq_true as_
                                    have q147 : x5_1 < (l0.length : Int) := of_decide_eq_true as_
                                    obtain ⟨ad147, A147_6, c147_6, A147_9, c147_9, A147_13, c147_13, e147, hx147_0, hx147_1, hx147_2, hx147_3, hx147_4, hx147_5, hx147_6, hx147_7, hx147_8, hx147_9, hx147_10, hx147_11, hx147_12, hx147_13, hl147_6, hi147_6, hl147_9, hi147_9, hl147_13, hi147_13⟩ := at_T136 HR0.out x5_1 p147 q147
                                    obtain rfl : ad141 = ad147 := (by injection e147)
                                    have HR147_6 := Aside0.mk hi147_6
                                    have HC147_6 := Aside0.mk hl147_6
                                    clear hi147_6 hl147_6
                                    have HR147_9 := Aside0.mk hi147_9
                                    have HC147_9 := Aside0.mk hl147_9
                                    clear hi147_9 hl147_9
                                    have HR147_13 := Aside0.mk hi147_13
                                    have HC147_13 := Aside0.mk hl147_13
                                    clear hi147_13 hl147_13
                                    replace p147 := eq_true p147
                                    replace q147 := eq_true q147
                                    have ea_ := Option.some.inj (hx141_6.symm.trans hx147_6)
                                    injection ea_ with ea_ en_ ec_
                                    subst ea_
                                    subst ec_
                                    clear en_
                                    have ea_ := Option.some.inj (hx141_9.symm.trans hx147_9)
                                    injection ea_ with ea_ en_ ec_
                                    subst ea_
                                    subst ec_
                                    clear en_
                                    have ea_ := Option.some.inj (hx141_13.symm.trans hx147_13)
                                    injection ea_ with ea_ en_ ec_
                                    subst ea_
                                    subst ec_
                                    clear en_
                                    go_wp2_with (first | ((with_reducible refine gate_callee (f := 130) rfl ?_); refine goe_ (some 73) Try.func130 #[.slice A141_6 ((rd_T136 l0 x5_1).f6.f0).length c141_6, .int .i64 (wrap64 ((wrap64 ((wrap64 ((wrap64 ((wrap64 ((wrap64 (x1_1 + 1)) + 1)) + 1)) + 1)) + 1)) + 1))] ?_; (with_reducible refine (laws_heldPrefixS.calls k1 _ _ ((rd_T136 l0 x5_1).f6.f0) (wrap64 ((wrap64 ((wrap64 ((wrap64 ((wrap64 ((wrap64 (x1_1 + 1)) + 1)) + 1)) + 1)) + 1)) + 1)) t148 _ ?side1 ?side2 A11.out).mono ?_); (case side1 => exact kc_ HR147_6.out); (case side2 => exact HC147_6.out); rintro e w' ⟨rfl, ⟨nd, rfl⟩⟩; refine ⟨_, rfl, ?_⟩; have p149 : 0 ≤ (x5_1 : Int) := of_decide_eq_true as_; have q149 : x5_1 < (l0.length : Int) := of_decide_eq_true as_; obtain ⟨ad149, A149_6, c149_6, A149_9, c149_9, A149_13, c149_13, e149, hx149_0, hx149_1, hx149_2, hx149_3, hx149_4, hx149_5, hx149_6, hx149_7, hx149_8, hx149_9, hx149_10, hx149_11, hx149_12, hx149_13, hl149_6, hi149_6, hl149_9, hi149_9, hl149_13, hi149_13⟩ := at_T136 HR0.out x5_1 p149 q149; obtain rfl : ad141 = ad149 := (by injection e149); have HR149_6 := Aside0.mk hi149_6; have HC149_6 := Aside0.mk hl149_6; clear hi149_6 hl149_6; have HR149_9 := Aside0.mk hi149_9; have HC149_9 := Aside0.mk hl149_9; clear hi149_9 hl149_9; have HR149_13 := Aside0.mk hi149_13; have HC149_13 := Aside0.mk hl149_13; clear hi149_13 hl149_13; replace p149 := eq_true p149; replace q149 := eq_true q149; have ea_ := Option.some.inj (hx141_6.symm.trans hx149_6); injection ea_ with ea_ en_ ec_; subst ea_; subst ec_; clear en_; have ea_ := Option.some.inj (hx141_9.symm.trans hx149_9); injection ea_ with ea_ en_ ec_; subst ea_; subst ec_; clear en_; have ea_ := Option.some.inj (hx141_13.symm.trans hx149_13); injection ea_ with ea_ en_ ec_; subst ea_; subst ec_; clear en_; have p150 : 0 ≤ (x5_1 : Int) := of_decide_eq_true as_; have q150 : x5_1 < (l0.length : Int) := of_decide_eq_true as_; obtain ⟨ad150, A150_6, c150_6, A150_9, c150_9, A150_13, c150_13, e150, hx150_0, hx150_1, hx150_2, hx150_3, hx150_4, hx150_5, hx150_6, hx150_7, hx150_8, hx150_9, hx150_10, hx150_11, hx150_12, hx150_13, hl150_6, hi150_6, hl150_9, hi150_9, hl150_13, hi150_13⟩ := at_T136 HR0.out x5_1 p150 q150; obtain rfl : ad141 = ad150 := (by injection e150); have HR150_6 := Aside0.mk hi150_6; have HC150_6 := Aside0.mk hl150_6; clear hi150_6 hl150_6; have HR150_9 := Aside0.mk hi150_9; have HC150_9 := Aside0.mk hl150_9; clear hi150_9 hl150_9; have HR150_13 := Aside0.mk hi150_13; have HC150_13 := Aside0.mk hl150_13; clear hi150_13 hl150_13; replace p150 := eq_true p150; replace q150 := eq_true q150; have ea_ := Option.some.inj (hx141_6.symm.trans hx150_6); injection ea_ with ea_ en_ ec_; subst ea_; subst ec_; clear en_; have ea_ := Option.some.inj (hx141_9.symm.trans hx150_9); injection ea_ with ea_ en_ ec_; subst ea_; subst ec_; clear en_; have ea_ := Option.some.inj (hx141_13.symm.trans hx150_13); injection ea_ with ea_ en_ ec_; subst ea_; subst ec_; clear en_; have p151 : 0 ≤ (x5_1 : Int) := of_decide_eq_true as_; have q151 : x5_1 < (l0.length : Int) := of_decide_eq_true as_; obtain ⟨ad151, A151_6, c151_6, A151_9, c151_9, A151_13, c151_13, e151, hx151_0, hx151_1, hx151_2, hx151_3, hx151_4, hx151_5, hx151_6, hx151_7, hx151_8, hx151_9, hx151_10, hx151_11, hx151_12, hx151_13, hl151_6, hi151_6, hl151_9, hi151_9, hl151_13, hi151_13⟩ := at_T136 HR0.out x5_1 p151 q151; obtain rfl : ad141 = ad151 := (by injection e151); have HR151_6 := Aside0.mk hi151_6; have HC151_6 := Aside0.mk hl151_6; clear hi151_6 hl151_6; have HR151_9 := Aside0.mk hi151_9; have HC151_9 := Aside0.mk hl151_9; clear hi151_9 hl151_9; have HR151_13 := Aside0.mk hi151_13; have HC151_13 := Aside0.mk hl151_13; clear hi151_13 hl151_13; replace p151 := eq_true p151; replace q151 := eq_true q151; have ea_ := Option.some.inj (hx141_6.symm.trans hx151_6); injection ea_ with ea_ en_ ec_; subst ea_; subst ec_; clear en_; have ea_ := Option.some.inj (hx141_9.symm.trans hx151_9); injection ea_ with ea_ en_ ec_; subst ea_; subst ec_; clear en_; have ea_ := Option.some.inj (hx141_13.symm.trans hx151_13); injection ea_ with ea_ en_ ec_; subst ea_; subst ec_; clear en_) | ((with_reducible refine gate_callee (f := 145) rfl ?_); refine goe_ (some 107) Try.func145 #[.slice A141_9 ((rd_T136 l0 x5_1).f6.f2.f1).length c141_9, .int .i64 (wrap64 ((wrap64 (t148 + 1)) + 1))] ?_; (with_reducible refine (laws_heldInt64S.calls k1 _ _ ((rd_T136 l0 x5_1).f6.f2.f1) (wrap64 ((wrap64 (t148 + 1)) + 1)) t152 _ ?side1 ?side2 A15.out).mono ?_); (case side1 => exact kc_ HR151_9.out); (case side2 => exact HC151_9.out); rintro e w' ⟨rfl, ⟨nd, rfl⟩⟩; refine ⟨_, rfl, ?_⟩; have p153 : 0 ≤ (x5_1 : Int) := of_decide_eq_true as_; have q153 : x5_1 < (l0.length : Int) := of_decide_eq_true as_; obtain ⟨ad153, A153_6, c153_6, A153_9, c153_9, A153_13, c153_13, e153, hx153_0, hx153_1, hx153_2, hx153_3, hx153_4, hx153_5, hx153_6, hx153_7, hx153_8, hx153_9, hx153_10, hx153_11, hx153_12, hx153_13, hl153_6, hi153_6, hl153_9, hi153_9, hl153_13, hi153_13⟩ := at_T136 HR0.out x5_1 p153 q153; obtain rfl : ad141 = ad153 := (by injection e153); have HR153_6 := Aside0.mk hi153_6; have HC153_6 := Aside0.mk hl153_6; clear hi153_6 hl153_6; have HR153_9 := Aside0.mk hi153_9; have HC153_9 := Aside0.mk hl153_9; clear hi153_9 hl153_9; have HR153_13 := Aside0.mk hi153_13; have HC153_13 := Aside0.mk hl153_13; clear hi153_13 hl153_13; replace p153 := eq_true p153; replace q153 := eq_true q153; have ea_ := Option.some.inj (hx141_6.symm.trans hx153_6); injection ea_ with ea_ en_ ec_; subst ea_; subst ec_; clear en_; have ea_ := Option.some.inj (hx141_9.symm.trans hx153_9); injection ea_ with ea_ en_ ec_; subst ea_; subst ec_; clear en_; have ea_ := Option.some.inj (hx141_13.symm.trans hx153_13); injection ea_ with ea_ en_ ec_; subst ea_; subst ec_; clear en_; have p154 : 0 ≤ (x5_1 : Int) := of_decide_eq_true as_; have q154 : x5_1 < (l0.length : Int) := of_decide_eq_true as_; obtain ⟨ad154, A154_6, c154_6, A154_9, c154_9, A154_13, c154_13, e154, hx154_0, hx154_1, hx154_2, hx154_3, hx154_4, hx154_5, hx154_6, hx154_7, hx154_8, hx154_9, hx154_10, hx154_11, hx154_12, hx154_13, hl154_6, hi154_6, hl154_9, hi154_9, hl154_13, hi154_13⟩ := at_T136 HR0.out x5_1 p154 q154; obtain rfl : ad141 = ad154 := (by injection e154); have HR154_6 := Aside0.mk hi154_6; have HC154_6 := Aside0.mk hl154_6; clear hi154_6 hl154_6; have HR154_9 := Aside0.mk hi154_9; have HC154_9 := Aside0.mk hl154_9; clear hi154_9 hl154_9; have HR154_13 := Aside0.mk hi154_13; have HC154_13 := Aside0.mk hl154_13; clear hi154_13 hl154_13; replace p154 := eq_true p154; replace q154 := eq_true q154; have ea_ := Option.some.inj (hx141_6.symm.trans hx154_6); injection ea_ with ea_ en_ ec_; subst ea_; subst ec_; clear en_; have ea_ := Option.some.inj (hx141_9.symm.trans hx154_9); injection ea_ with ea_ en_ ec_; subst ea_; subst ec_; clear en_; have ea_ := Option.some.inj (hx141_13.symm.trans hx154_13); injection ea_ with ea_ en_ ec_; subst ea_; subst ec_; clear en_; have p155 : 0 ≤ (x5_1 : Int) := of_decide_eq_true as_; have q155 : x5_1 < (l0.length : Int) := of_decide_eq_true as_; obtain ⟨ad155, A155_6, c155_6, A155_9, c155_9, A155_13, c155_13, e155, hx155_0, hx155_1, hx155_2, hx155_3, hx155_4, hx155_5, hx155_6, hx155_7, hx155_8, hx155_9, hx155_10, hx155_11, hx155_12, hx155_13, hl155_6, hi155_6, hl155_9, hi155_9, hl155_13, hi155_13⟩ := at_T136 HR0.out x5_1 p155 q155; obtain rfl : ad141 = ad155 := (by injection e155); have HR155_6 := Aside0.mk hi155_6; have HC155_6 := Aside0.mk hl155_6; clear hi155_6 hl155_6; have HR155_9 := Aside0.mk hi155_9; have HC155_9 := Aside0.mk hl155_9; clear hi155_9 hl155_9; have HR155_13 := Aside0.mk hi155_13; have HC155_13 := Aside0.mk hl155_13; clear hi155_13 hl155_13; replace p155 := eq_true p155; replace q155 := eq_true q155; have ea_ := Option.some.inj (hx141_6.symm.trans hx155_6); injection ea_ with ea_ en_ ec_; subst ea_; subst ec_; clear en_; have ea_ := Option.some.inj (hx141_9.symm.trans hx155_9); injection ea_ with ea_ en_ ec_; subst ea_; subst ec_; clear en_; have ea_ := Option.some.inj (hx141_13.symm.trans hx155_13); injection ea_ with ea_ en_ ec_; subst ea_; subst ec_; clear en_))
                                    go_ret
                                    exact ⟨sd_, by repeat (first | exact Drawn0.refl _ | apply Drawn0.step)⟩
                                · rw [if_neg c18] at H
                                  have c18b0 : (((rd_T136 l0 x5_1).f6.f2.f3) == (wrap64 (t152 + 1))) = false := beq_eq_false_iff_ne.mpr c18
                                  have c18b1 : (((rd_T136 l0 x5_1).f6.f2.f3) != (wrap64 (t152 + 1))) = true := bne_iff_ne.mpr c18
                                  obtain rfl := Option.some.inj H
                                  have p141 : 0 ≤ (x5_1 : Int) := of_decide_eq_true as_
                                  have q141 : x5_1 < (l0.length : Int) := of_decide_eq_true as_
                                  obtain ⟨ad141, A141_6, c141_6, A141_9, c141_9, A141_13, c141_13, e141, hx141_0, hx141_1, hx141_2, hx141_3, hx141_4, hx141_5, hx141_6, hx141_7, hx141_8, hx141_9, hx141_10, hx141_11, hx141_12, hx141_13, hl141_6, hi141_6, hl141_9, hi141_9, hl141_13, hi141_13⟩ := at_T136 HR0.out x5_1 p141 q141
                                  cases e141
                                  have HR141_6 := Aside0.mk hi141_6
                                  have HC141_6 := Aside0.mk hl141_6
                                  clear hi141_6 hl141_6
                                  have HR141_9 := Aside0.mk hi141_9
                                  have HC141_9 := Aside0.mk hl141_9
                                  clear hi141_9 hl141_9
                                  have HR141_13 := Aside0.mk hi141_13
                                  have HC141_13 := Aside0.mk hl141_13
                                  clear hi141_13 hl141_13
                                  replace p141 := eq_true p141
                                  replace q141 := eq_true q141
                                  have p142 : 0 ≤ (x5_1 : Int) := of_decide_eq_true as_
                                  have q142 : x5_1 < (l0.length : Int) := of_decide_eq_true as_
                                  obtain ⟨ad142, A142_6, c142_6, A142_9, c142_9, A142_13, c142_13, e142, hx142_0, hx142_1, hx142_2, hx142_3, hx142_4, hx142_5, hx142_6, hx142_7, hx142_8, hx142_9, hx142_10, hx142_11, hx142_12, hx142_13, hl142_6, hi142_6, hl142_9, hi142_9, hl142_13, hi142_13⟩ := at_T136 HR0.out x5_1 p142 q142
                                  obtain rfl : ad141 = ad142 := (by injection e142)
                                  have HR142_6 := Aside0.mk hi142_6
                                  have HC142_6 := Aside0.mk hl142_6
                                  clear hi142_6 hl142_6
                                  have HR142_9 := Aside0.mk hi142_9
                                  have HC142_9 := Aside0.mk hl142_9
                                  clear hi142_9 hl142_9
                                  have HR142_13 := Aside0.mk hi142_13
                                  have HC142_13 := Aside0.mk hl142_13
                                  clear hi142_13 hl142_13
                                  replace p142 := eq_true p142
                                  replace q142 := eq_true q142
                                  have ea_ := Option.some.inj (hx141_6.symm.trans hx142_6)
                                  injection ea_ with ea_ en_ ec_
                                  subst ea_
                                  subst ec_
                                  clear en_
                                  have ea_ := Option.some.inj (hx141_9.symm.trans hx142_9)
                                  injection ea_ with ea_ en_ ec_
                                  subst ea_
                                  subst ec_
                                  clear en_
                                  have ea_ := Option.some.inj (hx141_13.symm.trans hx142_13)
                                  injection ea_ with ea_ en_ ec_
                                  subst ea_
                                  subst ec_
                                  clear en_
                                  have p143 : 0 ≤ (x5_1 : Int) := of_decide_eq_true as_
                                  have q143 : x5_1 < (l0.length : Int) := of_decide_eq_true as_
                                  obtain ⟨ad143, A143_6, c143_6, A143_9, c143_9, A143_13, c143_13, e143, hx143_0, hx143_1, hx143_2, hx143_3, hx143_4, hx143_5, hx143_6, hx143_7, hx143_8, hx143_9, hx143_10, hx143_11, hx143_12, hx143_13, hl143_6, hi143_6, hl143_9, hi143_9, hl143_13, hi143_13⟩ := at_T136 HR0.out x5_1 p143 q143
                                  obtain rfl : ad141 = ad143 := (by injection e143)
                                  have HR143_6 := Aside0.mk hi143_6
                                  have HC143_6 := Aside0.mk hl143_6
                                  clear hi143_6 hl143_6
                                  have HR143_9 := Aside0.mk hi143_9
                                  have HC143_9 := Aside0.mk hl143_9
                                  clear hi143_9 hl143_9
                                  have HR143_13 := Aside0.mk hi143_13
                                  have HC143_13 := Aside0.mk hl143_13
                                  clear hi143_13 hl143_13
                                  replace p143 := eq_true p143
                                  replace q143 := eq_true q143
                                  have ea_ := Option.some.inj (hx141_6.symm.trans hx143_6)
                                  injection ea_ with ea_ en_ ec_
                                  subst ea_
                                  subst ec_
                                  clear en_
                                  have ea_ := Option.some.inj (hx141_9.symm.trans hx143_9)
                                  injection ea_ with ea_ en_ ec_
                                  subst ea_
                                  subst ec_
                                  clear en_
                                  have ea_ := Option.some.inj (hx141_13.symm.trans hx143_13)
                                  injection ea_ with ea_ en_ ec_
                                  subst ea_
                                  subst ec_
                                  clear en_
                                  have p144 : 0 ≤ (x5_1 : Int) := of_decide_eq_true as_
                                  have q144 : x5_1 < (l0.length : Int) := of_decide_eq_true as_
                                  obtain ⟨ad144, A144_6, c144_6, A144_9, c144_9, A144_13, c144_13, e144, hx144_0, hx144_1, hx144_2, hx144_3, hx144_4, hx144_5, hx144_6, hx144_7, hx144_8, hx144_9, hx144_10, hx144_11, hx144_12, hx144_13, hl144_6, hi144_6, hl144_9, hi144_9, hl144_13, hi144_13⟩ := at_T136 HR0.out x5_1 p144 q144
                                  obtain rfl : ad141 = ad144 := (by injection e144)
                                  have HR144_6 := Aside0.mk hi144_6
                                  have HC144_6 := Aside0.mk hl144_6
                                  clear hi144_6 hl144_6
                                  have HR144_9 := Aside0.mk hi144_9
                                  have HC144_9 := Aside0.mk hl144_9
                                  clear hi144_9 hl144_9
                                  have HR144_13 := Aside0.mk hi144_13
                                  have HC144_13 := Aside0.mk hl144_13
                                  clear hi144_13 hl144_13
                                  replace p144 := eq_true p144
                                  replace q144 := eq_true q144
                                  have ea_ := Option.some.inj (hx141_6.symm.trans hx144_6)
                                  injection ea_ with ea_ en_ ec_
                                  subst ea_
                                  subst ec_
                                  clear en_
                                  have ea_ := Option.some.inj (hx141_9.symm.trans hx144_9)
                                  injection ea_ with ea_ en_ ec_
                                  subst ea_
                                  subst ec_
                                  clear en_
                                  have ea_ := Option.some.inj (hx141_13.symm.trans hx144_13)
                                  injection ea_ with ea_ en_ ec_
                                  subst ea_
                                  subst ec_
                                  clear en_
                                  have p145 : 0 ≤ (x5_1 : Int) := of_decide_eq_true as_
                                  have q145 : x5_1 < (l0.length : Int) := of_decide_eq_true as_
                                  obtain ⟨ad145, A145_6, c145_6, A145_9, c145_9, A145_13, c145_13, e145, hx145_0, hx145_1, hx145_2, hx145_3, hx145_4, hx145_5, hx145_6, hx145_7, hx145_8, hx145_9, hx145_10, hx145_11, hx145_12, hx145_13, hl145_6, hi145_6, hl145_9, hi145_9, hl145_13, hi145_13⟩ := at_T136 HR0.out x5_1 p145 q145
                                  obtain rfl : ad141 = ad145 := (by injection e145)
                                  have HR145_6 := Aside0.mk hi145_6
                                  have HC145_6 := Aside0.mk hl145_6
                                  clear hi145_6 hl145_6
                                  have HR145_9 := Aside0.mk hi145_9
                                  have HC145_9 := Aside0.mk hl145_9
                                  clear hi145_9 hl145_9
                                  have HR145_13 := Aside0.mk hi145_13
                                  have HC145_13 := Aside0.mk hl145_13
                                  clear hi145_13 hl145_13
                                  replace p145 := eq_true p145
                                  replace q145 := eq_true q145
                                  have ea_ := Option.some.inj (hx141_6.symm.trans hx145_6)
                                  injection ea_ with ea_ en_ ec_
                                  subst ea_
                                  subst ec_
                                  clear en_
                                  have ea_ := Option.some.inj (hx141_9.symm.trans hx145_9)
                                  injection ea_ with ea_ en_ ec_
                                  subst ea_
                                  subst ec_
                                  clear en_
                                  have ea_ := Option.some.inj (hx141_13.symm.trans hx145_13)
                                  injection ea_ with ea_ en_ ec_
                                  subst ea_
                                  subst ec_
                                  clear en_
                                  have p146 : 0 ≤ (x5_1 : Int) := of_decide_eq_true as_
                                  have q146 : x5_1 < (l0.length : Int) := of_decide_eq_true as_
                                  obtain ⟨ad146, A146_6, c146_6, A146_9, c146_9, A146_13, c146_13, e146, hx146_0, hx146_1, hx146_2, hx146_3, hx146_4, hx146_5, hx146_6, hx146_7, hx146_8, hx146_9, hx146_10, hx146_11, hx146_12, hx146_13, hl146_6, hi146_6, hl146_9, hi146_9, hl146_13, hi146_13⟩ := at_T136 HR0.out x5_1 p146 q146
                                  obtain rfl : ad141 = ad146 := (by injection e146)
                                  have HR146_6 := Aside0.mk hi146_6
                                  have HC146_6 := Aside0.mk hl146_6
                                  clear hi146_6 hl146_6
                                  have HR146_9 := Aside0.mk hi146_9
                                  have HC146_9 := Aside0.mk hl146_9
                                  clear hi146_9 hl146_9
                                  have HR146_13 := Aside0.mk hi146_13
                                  have HC146_13 := Aside0.mk hl146_13
                                  clear hi146_13 hl146_13
                                  replace p146 := eq_true p146
                                  replace q146 := eq_true q146
                                  have ea_ := Option.some.inj (hx141_6.symm.trans hx146_6)
                                  injection ea_ with ea_ en_ ec_
                                  subst ea_
                                  subst ec_
                                  clear en_
                                  have ea_ := Option.some.inj (hx141_9.symm.trans hx146_9)
                                  injection ea_ with ea_ en_ ec_
                                  subst ea_
                                  subst ec_
                                  clear en_
                                  have ea_ := Option.some.inj (hx141_13.symm.trans hx146_13)
                                  injection ea_ with ea_ en_ ec_
                                  subst ea_
                                  subst ec_
                                  clear en_
                                  have p147 : 0 ≤ (x5_1 : Int) := of_decide_eq_true as_
                                  have q147 : x5_1 < (l0.length : Int) := of_decide_eq_true as_
                                  obtain ⟨ad147, A147_6, c147_6, A147_9, c147_9, A147_13, c147_13, e147, hx147_0, hx147_1, hx147_2, hx147_3, hx147_4, hx147_5, hx147_6, hx147_7, hx147_8, hx147_9, hx147_10, hx147_11, hx147_12, hx147_13, hl147_6, hi147_6, hl147_9, hi147_9, hl147_13, hi147_13⟩ := at_T136 HR0.out x5_1 p147 q147
                                  obtain rfl : ad141 = ad147 := (by injection e147)
                                  have HR147_6 := Aside0.mk hi147_6
                                  have HC147_6 := Aside0.mk hl147_6
                                  clear hi147_6 hl147_6
                                  have HR147_9 := Aside0.mk hi147_9
                                  have HC147_9 := Aside0.mk hl147_9
                                  clear hi147_9 hl147_9
                                  have HR147_13 := Aside0.mk hi147_13
                                  have HC147_13 := Aside0.mk hl147_13
                                  clear hi147_13 hl147_13
                                  replace p147 := eq_true p147
                                  replace q147 := eq_true q147
                                  have ea_ := Option.some.inj (hx141_6.symm.trans hx147_6)
                                  injection ea_ with ea_ en_ ec_
                                  subst ea_
                                  subst ec_
                                  clear en_
                                  have ea_ := Option.some.inj (hx141_9.symm.trans hx147_9)
                                  injection ea_ with ea_ en_ ec_
                                  subst ea_
                                  subst ec_
                                  clear en_
                                  have ea_ := Option.some.inj (hx141_13.symm.trans hx147_13)
                                  injection ea_ with ea_ en_ ec_
                                  subst ea_
                                  subst ec_
                                  clear en_
                                  go_wp2_with (first | ((with_reducible refine gate_callee (f := 130) rfl ?_); refine goe_ (some 73) Try.func130 #[.slice A141_6 ((rd_T136 l0 x5_1).f6.f0).length c141_6, .int .i64 (wrap64 ((wrap64 ((wrap64 ((wrap64 ((wrap64 ((wrap64 (x1_1 + 1)) + 1)) + 1)) + 1)) + 1)) + 1))] ?_; (with_reducible refine (laws_heldPrefixS.calls k1 _ _ ((rd_T136 l0 x5_1).f6.f0) (wrap64 ((wrap64 ((wrap64 ((wrap64 ((wrap64 ((wrap64 (x1_1 + 1)) + 1)) + 1)) + 1)) + 1)) + 1)) t148 _ ?side1 ?side2 A11.out).mono ?_); (case side1 => exact kc_ HR147_6.out); (case side2 => exact HC147_6.out); rintro e w' ⟨rfl, ⟨nd, rfl⟩⟩; refine ⟨_, rfl, ?_⟩; have p149 : 0 ≤ (x5_1 : Int) := of_decide_eq_true as_; have q149 : x5_1 < (l0.length : Int) := of_decide_eq_true as_; obtain ⟨ad149, A149_6, c149_6, A149_9, c149_9, A149_13, c149_13, e149, hx149_0, hx149_1, hx149_2, hx149_3, hx149_4, hx149_5, hx149_6, hx149_7, hx149_8, hx149_9, hx149_10, hx149_11, hx149_12, hx149_13, hl149_6, hi149_6, hl149_9, hi149_9, hl149_13, hi149_13⟩ := at_T136 HR0.out x5_1 p149 q149; obtain rfl : ad141 = ad149 := (by injection e149); have HR149_6 := Aside0.mk hi149_6; have HC149_6 := Aside0.mk hl149_6; clear hi149_6 hl149_6; have HR149_9 := Aside0.mk hi149_9; have HC149_9 := Aside0.mk hl149_9; clear hi149_9 hl149_9; have HR149_13 := Aside0.mk hi149_13; have HC149_13 := Aside0.mk hl149_13; clear hi149_13 hl149_13; replace p149 := eq_true p149; replace q149 := eq_true q149; have ea_ := Option.some.inj (hx141_6.symm.trans hx149_6); injection ea_ with ea_ en_ ec_; subst ea_; subst ec_; clear en_; have ea_ := Option.some.inj (hx141_9.symm.trans hx149_9); injection ea_ with ea_ en_ ec_; subst ea_; subst ec_; clear en_; have ea_ := Option.some.inj (hx141_13.symm.trans hx149_13); injection ea_ with ea_ en_ ec_; subst ea_; subst ec_; clear en_; have p150 : 0 ≤ (x5_1 : Int) := of_decide_eq_true as_; have q150 : x5_1 < (l0.length : Int) := of_decide_eq_true as_; obtain ⟨ad150, A150_6, c150_6, A150_9, c150_9, A150_13, c150_13, e150, hx150_0, hx150_1, hx150_2, hx150_3, hx150_4, hx150_5, hx150_6, hx150_7, hx150_8, hx150_9, hx150_10, hx150_11, hx150_12, hx150_13, hl150_6, hi150_6, hl150_9, hi150_9, hl150_13, hi150_13⟩ := at_T136 HR0.out x5_1 p150 q150; obtain rfl : ad141 = ad150 := (by injection e150); have HR150_6 := Aside0.mk hi150_6; have HC150_6 := Aside0.mk hl150_6; clear hi150_6 hl150_6; have HR150_9 := Aside0.mk hi150_9; have HC150_9 := Aside0.mk hl150_9; clear hi150_9 hl150_9; have HR150_13 := Aside0.mk hi150_13; have HC150_13 := Aside0.mk hl150_13; clear hi150_13 hl150_13; replace p150 := eq_true p150; replace q150 := eq_true q150; have ea_ := Option.some.inj (hx141_6.symm.trans hx150_6); injection ea_ with ea_ en_ ec_; subst ea_; subst ec_; clear en_; have ea_ := Option.some.inj (hx141_9.symm.trans hx150_9); injection ea_ with ea_ en_ ec_; subst ea_; subst ec_; clear en_; have ea_ := Option.some.inj (hx141_13.symm.trans hx150_13); injection ea_ with ea_ en_ ec_; subst ea_; subst ec_; clear en_; have p151 : 0 ≤ (x5_1 : Int) := of_decide_eq_true as_; have q151 : x5_1 < (l0.length : Int) := of_decide_eq_true as_; obtain ⟨ad151, A151_6, c151_6, A151_9, c151_9, A151_13, c151_13, e151, hx151_0, hx151_1, hx151_2, hx151_3, hx151_4, hx151_5, hx151_6, hx151_7, hx151_8, hx151_9, hx151_10, hx151_11, hx151_12, hx151_13, hl151_6, hi151_6, hl151_9, hi151_9, hl151_13, hi151_13⟩ := at_T136 HR0.out x5_1 p151 q151; obtain rfl : ad141 = ad151 := (by injection e151); have HR151_6 := Aside0.mk hi151_6; have HC151_6 := Aside0.mk hl151_6; clear hi151_6 hl151_6; have HR151_9 := Aside0.mk hi151_9; have HC151_9 := Aside0.mk hl151_9; clear hi151_9 hl151_9; have HR151_13 := Aside0.mk hi151_13; have HC151_13 := Aside0.mk hl151_13; clear hi151_13 hl151_13; replace p151 := eq_true p151; replace q151 := eq_true q151; have ea_ := Option.some.inj (hx141_6.symm.trans hx151_6); injection ea_ with ea_ en_ ec_; subst ea_; subst ec_; clear en_; have ea_ := Option.some.inj (hx141_9.symm.trans hx151_9); injection ea_ with ea_ en_ ec_; subst ea_; subst ec_; clear en_; have ea_ := Option.some.inj (hx141_13.symm.trans hx151_13); injection ea_ with ea_ en_ ec_; subst ea_; subst ec_; clear en_) | ((with_reducible refine gate_callee (f := 145) rfl ?_); refine goe_ (some 107) Try.func145 #[.slice A141_9 ((rd_T136 l0 x5_1).f6.f2.f1).length c141_9, .int .i64 (wrap64 ((wrap64 (t148 + 1)) + 1))] ?_; (with_reducible refine (laws_heldInt64S.calls k1 _ _ ((rd_T136 l0 x5_1).f6.f2.f1) (wrap64 ((wrap64 (t148 + 1)) + 1)) t152 _ ?side1 ?side2 A15.out).mono ?_); (case side1 => exact kc_ HR151_9.out); (case side2 => exact HC151_9.out); rintro e w' ⟨rfl, ⟨nd, rfl⟩⟩; refine ⟨_, rfl, ?_⟩; have p153 : 0 ≤ (x5_1 : Int) := of_decide_eq_true as_; have q153 : x5_1 < (l0.length : Int) := of_decide_eq_true as_; obtain ⟨ad153, A153_6, c153_6, A153_9, c153_9, A153_13, c153_13, e153, hx153_0, hx153_1, hx153_2, hx153_3, hx153_4, hx153_5, hx153_6, hx153_7, hx153_8, hx153_9, hx153_10, hx153_11, hx153_12, hx153_13, hl153_6, hi153_6, hl153_9, hi153_9, hl153_13, hi153_13⟩ := at_T136 HR0.out x5_1 p153 q153; obtain rfl : ad141 = ad153 := (by injection e153); have HR153_6 := Aside0.mk hi153_6; have HC153_6 := Aside0.mk hl153_6; clear hi153_6 hl153_6; have HR153_9 := Aside0.mk hi153_9; have HC153_9 := Aside0.mk hl153_9; clear hi153_9 hl153_9; have HR153_13 := Aside0.mk hi153_13; have HC153_13 := Aside0.mk hl153_13; clear hi153_13 hl153_13; replace p153 := eq_true p153; replace q153 := eq_true q153; have ea_ := Option.some.inj (hx141_6.symm.trans hx153_6); injection ea_ with ea_ en_ ec_; subst ea_; subst ec_; clear en_; have ea_ := Option.some.inj (hx141_9.symm.trans hx153_9); injection ea_ with ea_ en_ ec_; subst ea_; subst ec_; clear en_; have ea_ := Option.some.inj (hx141_13.symm.trans hx153_13); injection ea_ with ea_ en_ ec_; subst ea_; subst ec_; clear en_; have p154 : 0 ≤ (x5_1 : Int) := of_decide_eq_true as_; have q154 : x5_1 < (l0.length : Int) := of_decide_eq_true as_; obtain ⟨ad154, A154_6, c154_6, A154_9, c154_9, A154_13, c154_13, e154, hx154_0, hx154_1, hx154_2, hx154_3, hx154_4, hx154_5, hx154_6, hx154_7, hx154_8, hx154_9, hx154_10, hx154_11, hx154_12, hx154_13, hl154_6, hi154_6, hl154_9, hi154_9, hl154_13, hi154_13⟩ := at_T136 HR0.out x5_1 p154 q154; obtain rfl : ad141 = ad154 := (by injection e154); have HR154_6 := Aside0.mk hi154_6; have HC154_6 := Aside0.mk hl154_6; clear hi154_6 hl154_6; have HR154_9 := Aside0.mk hi154_9; have HC154_9 := Aside0.mk hl154_9; clear hi154_9 hl154_9; have HR154_13 := Aside0.mk hi154_13; have HC154_13 := Aside0.mk hl154_13; clear hi154_13 hl154_13; replace p154 := eq_true p154; replace q154 := eq_true q154; have ea_ := Option.some.inj (hx141_6.symm.trans hx154_6); injection ea_ with ea_ en_ ec_; subst ea_; subst ec_; clear en_; have ea_ := Option.some.inj (hx141_9.symm.trans hx154_9); injection ea_ with ea_ en_ ec_; subst ea_; subst ec_; clear en_; have ea_ := Option.some.inj (hx141_13.symm.trans hx154_13); injection ea_ with ea_ en_ ec_; subst ea_; subst ec_; clear en_))
                                  go_ret
                                  exact ⟨sd_, by repeat (first | exact Drawn0.refl _ | apply Drawn0.step)⟩
                              · rw [if_neg c17] at H
                                have c17b0 : (((rd_T136 l0 x5_1).f6.f2.f2) == t152) = false := beq_eq_false_iff_ne.mpr c17
                                have c17b1 : (((rd_T136 l0 x5_1).f6.f2.f2) != t152) = true := bne_iff_ne.mpr c17
                                obtain rfl := Option.some.inj H
                                have p141 : 0 ≤ (x5_1 : Int) := of_decide_eq_true as_
                                have q141 : x5_1 < (l0.length : Int) := of_decide_eq_true as_
                                obtain ⟨ad141, A141_6, c141_6, A141_9, c141_9, A141_13, c141_13, e141, hx141_0, hx141_1, hx141_2, hx141_3, hx141_4, hx141_5, hx141_6, hx141_7, hx141_8, hx141_9, hx141_10, hx141_11, hx141_12, hx141_13, hl141_6, hi141_6, hl141_9, hi141_9, hl141_13, hi141_13⟩ := at_T136 HR0.out x5_1 p141 q141
                                cases e141
                                have HR141_6 := Aside0.mk hi141_6
                                have HC141_6 := Aside0.mk hl141_6
                                clear hi141_6 hl141_6
                                have HR141_9 := Aside0.mk hi141_9
                                have HC141_9 := Aside0.mk hl141_9
                                clear hi141_9 hl141_9
                                have HR141_13 := Aside0.mk hi141_13
                                have HC141_13 := Aside0.mk hl141_13
                                clear hi141_13 hl141_13
                                replace p141 := eq_true p141
                                replace q141 := eq_true q141
                                have p142 : 0 ≤ (x5_1 : Int) := of_decide_eq_true as_
                                have q142 : x5_1 < (l0.length : Int) := of_decide_eq_true as_
                                obtain ⟨ad142, A142_6, c142_6, A142_9, c142_9, A142_13, c142_13, e142, hx142_0, hx142_1, hx142_2, hx142_3, hx142_4, hx142_5, hx142_6, hx142_7, hx142_8, hx142_9, hx142_10, hx142_11, hx142_12, hx142_13, hl142_6, hi142_6, hl142_9, hi142_9, hl142_13, hi142_13⟩ := at_T136 HR0.out x5_1 p142 q142
                                obtain rfl : ad141 = ad142 := (by injection e142)
                                have HR142_6 := Aside0.mk hi142_6
                                have HC142_6 := Aside0.mk hl142_6
                                clear hi142_6 hl142_6
                                have HR142_9 := Aside0.mk hi142_9
                                have HC142_9 := Aside0.mk hl142_9
                                clear hi142_9 hl142_9
                                have HR142_13 := Aside0.mk hi142_13
                                have HC142_13 := Aside0.mk hl142_13
                                clear hi142_13 hl142_13
                                replace p142 := eq_true p142
                                replace q142 := eq_true q142
                                have ea_ := Option.some.inj (hx141_6.symm.trans hx142_6)
                                injection ea_ with ea_ en_ ec_
                                subst ea_
                                subst ec_
                                clear en_
                                have ea_ := Option.some.inj (hx141_9.symm.trans hx142_9)
                                injection ea_ with ea_ en_ ec_
                                subst ea_
                                subst ec_
                                clear en_
                                have ea_ := Option.some.inj (hx141_13.symm.trans hx142_13)
                                injection ea_ with ea_ en_ ec_
                                subst ea_
                                subst ec_
                                clear en_
                                have p143 : 0 ≤ (x5_1 : Int) := of_decide_eq_true as_
                                have q143 : x5_1 < (l0.length : Int) := of_decide_eq_true as_
                                obtain ⟨ad143, A143_6, c143_6, A143_9, c143_9, A143_13, c143_13, e143, hx143_0, hx143_1, hx143_2, hx143_3, hx143_4, hx143_5, hx143_6, hx143_7, hx143_8, hx143_9, hx143_10, hx143_11, hx143_12, hx143_13, hl143_6, hi143_6, hl143_9, hi143_9, hl143_13, hi143_13⟩ := at_T136 HR0.out x5_1 p143 q143
                                obtain rfl : ad141 = ad143 := (by injection e143)
                                have HR143_6 := Aside0.mk hi143_6
                                have HC143_6 := Aside0.mk hl143_6
                                clear hi143_6 hl143_6
                                have HR143_9 := Aside0.mk hi143_9
                                have HC143_9 := Aside0.mk hl143_9
                                clear hi143_9 hl143_9
                                have HR143_13 := Aside0.mk hi143_13
                                have HC143_13 := Aside0.mk hl143_13
                                clear hi143_13 hl143_13
                                replace p143 := eq_true p143
                                replace q143 := eq_true q143
                                have ea_ := Option.some.inj (hx141_6.symm.trans hx143_6)
                                injection ea_ with ea_ en_ ec_
                                subst ea_
                                subst ec_
                                clear en_
                                have ea_ := Option.some.inj (hx141_9.symm.trans hx143_9)
                                injection ea_ with ea_ en_ ec_
                                subst ea_
                                subst ec_
                                clear en_
                                have ea_ := Option.some.inj (hx141_13.symm.trans hx143_13)
                                injection ea_ with ea_ en_ ec_
                                subst ea_
                                subst ec_
                                clear en_
                                have p144 : 0 ≤ (x5_1 : Int) := of_decide_eq_true as_
                                have q144 : x5_1 < (l0.length : Int) := of_decide_eq_true as_
                                obtain ⟨ad144, A144_6, c144_6, A144_9, c144_9, A144_13, c144_13, e144, hx144_0, hx144_1, hx144_2, hx144_3, hx144_4, hx144_5, hx144_6, hx144_7, hx144_8, hx144_9, hx144_10, hx144_11, hx144_12, hx144_13, hl144_6, hi144_6, hl144_9, hi144_9, hl144_13, hi144_13⟩ := at_T136 HR0.out x5_1 p144 q144
                                obtain rfl : ad141 = ad144 := (by injection e144)
                                have HR144_6 := Aside0.mk hi144_6
                                have HC144_6 := Aside0.mk hl144_6
                                clear hi144_6 hl144_6
                                have HR144_9 := Aside0.mk hi144_9
                                have HC144_9 := Aside0.mk hl144_9
                                clear hi144_9 hl144_9
                                have HR144_13 := Aside0.mk hi144_13
                                have HC144_13 := Aside0.mk hl144_13
                                clear hi144_13 hl144_13
                                replace p144 := eq_true p144
                                replace q144 := eq_true q144
                                have ea_ := Option.some.inj (hx141_6.symm.trans hx144_6)
                                injection ea_ with ea_ en_ ec_
                                subst ea_
                                subst ec_
                                clear en_
                                have ea_ := Option.some.inj (hx141_9.symm.trans hx144_9)
                                injection ea_ with ea_ en_ ec_
                                subst ea_
                                subst ec_
                                clear en_
                                have ea_ := Option.some.inj (hx141_13.symm.trans hx144_13)
                                injection ea_ with ea_ en_ ec_
                                subst ea_
                                subst ec_
                                clear en_
                                have p145 : 0 ≤ (x5_1 : Int) := of_decide_eq_true as_
                                have q145 : x5_1 < (l0.length : Int) := of_decide_eq_true as_
                                obtain ⟨ad145, A145_6, c145_6, A145_9, c145_9, A145_13, c145_13, e145, hx145_0, hx145_1, hx145_2, hx145_3, hx145_4, hx145_5, hx145_6, hx145_7, hx145_8, hx145_9, hx145_10, hx145_11, hx145_12, hx145_13, hl145_6, hi145_6, hl145_9, hi145_9, hl145_13, hi145_13⟩ := at_T136 HR0.out x5_1 p145 q145
                                obtain rfl : ad141 = ad145 := (by injection e145)
                                have HR145_6 := Aside0.mk hi145_6
                                have HC145_6 := Aside0.mk hl145_6
                                clear hi145_6 hl145_6
                                have HR145_9 := Aside0.mk hi145_9
                                have HC145_9 := Aside0.mk hl145_9
                                clear hi145_9 hl145_9
                                have HR145_13 := Aside0.mk hi145_13
                                have HC145_13 := Aside0.mk hl145_13
                                clear hi145_13 hl145_13
                                replace p145 := eq_true p145
                                replace q145 := eq_true q145
                                have ea_ := Option.some.inj (hx141_6.symm.trans hx145_6)
                                injection ea_ with ea_ en_ ec_
                                subst ea_
                                subst ec_
                                clear en_
                                have ea_ := Option.some.inj (hx141_9.symm.trans hx145_9)
                                injection ea_ with ea_ en_ ec_
                                subst ea_
                                subst ec_
                                clear en_
                                have ea_ := Option.some.inj (hx141_13.symm.trans hx145_13)
                                injection ea_ with ea_ en_ ec_
                                subst ea_
                                subst ec_
                                clear en_
                                have p146 : 0 ≤ (x5_1 : Int) := of_decide_eq_true as_
                                have q146 : x5_1 < (l0.length : Int) := of_decide_eq_true as_
                                obtain ⟨ad146, A146_6, c146_6, A146_9, c146_9, A146_13, c146_13, e146, hx146_0, hx146_1, hx146_2, hx146_3, hx146_4, hx146_5, hx146_6, hx146_7, hx146_8, hx146_9, hx146_10, hx146_11, hx146_12, hx146_13, hl146_6, hi146_6, hl146_9, hi146_9, hl146_13, hi146_13⟩ := at_T136 HR0.out x5_1 p146 q146
                                obtain rfl : ad141 = ad146 := (by injection e146)
                                have HR146_6 := Aside0.mk hi146_6
                                have HC146_6 := Aside0.mk hl146_6
                                clear hi146_6 hl146_6
                                have HR146_9 := Aside0.mk hi146_9
                                have HC146_9 := Aside0.mk hl146_9
                                clear hi146_9 hl146_9
                                have HR146_13 := Aside0.mk hi146_13
                                have HC146_13 := Aside0.mk hl146_13
                                clear hi146_13 hl146_13
                                replace p146 := eq_true p146
                                replace q146 := eq_true q146
                                have ea_ := Option.some.inj (hx141_6.symm.trans hx146_6)
                                injection ea_ with ea_ en_ ec_
                                subst ea_
                                subst ec_
                                clear en_
                                have ea_ := Option.some.inj (hx141_9.symm.trans hx146_9)
                                injection ea_ with ea_ en_ ec_
                                subst ea_
                                subst ec_
                                clear en_
                                have ea_ := Option.some.inj (hx141_13.symm.trans hx146_13)
                                injection ea_ with ea_ en_ ec_
                                subst ea_
                                subst ec_
                                clear en_
                                have p147 : 0 ≤ (x5_1 : Int) := of_decide_eq_true as_
                                have q147 : x5_1 < (l0.length : Int) := of_decide_eq_true as_
                                obtain ⟨ad147, A147_6, c147_6, A147_9, c147_9, A147_13, c147_13, e147, hx147_0, hx147_1, hx147_2, hx147_3, hx147_4, hx147_5, hx147_6, hx147_7, hx147_8, hx147_9, hx147_10, hx147_11, hx147_12, hx147_13, hl147_6, hi147_6, hl147_9, hi147_9, hl147_13, hi147_13⟩ := at_T136 HR0.out x5_1 p147 q147
                                obtain rfl : ad141 = ad147 := (by injection e147)
                                have HR147_6 := Aside0.mk hi147_6
                                have HC147_6 := Aside0.mk hl147_6
                                clear hi147_6 hl147_6
                                have HR147_9 := Aside0.mk hi147_9
                                have HC147_9 := Aside0.mk hl147_9
                                clear hi147_9 hl147_9
                                have HR147_13 := Aside0.mk hi147_13
                                have HC147_13 := Aside0.mk hl147_13
                                clear hi147_13 hl147_13
                                replace p147 := eq_true p147
                                replace q147 := eq_true q147
                                have ea_ := Option.some.inj (hx141_6.symm.trans hx147_6)
                                injection ea_ with ea_ en_ ec_
                                subst ea_
                                subst ec_
                                clear en_
                                have ea_ := Option.some.inj (hx141_9.symm.trans hx147_9)
                                injection ea_ with ea_ en_ ec_
                                subst ea_
                                subst ec_
                                clear en_
                                have ea_ := Option.some.inj (hx141_13.symm.trans hx147_13)
                                injection ea_ with ea_ en_ ec_
                                subst ea_
                                subst ec_
                                clear en_
                                go_wp2_with (first | ((with_reducible refine gate_callee (f := 130) rfl ?_); refine goe_ (some 73) Try.func130 #[.slice A141_6 ((rd_T136 l0 x5_1).f6.f0).length c141_6, .int .i64 (wrap64 ((wrap64 ((wrap64 ((wrap64 ((wrap64 ((wrap64 (x1_1 + 1)) + 1)) + 1)) + 1)) + 1)) + 1))] ?_; (with_reducible refine (laws_heldPrefixS.calls k1 _ _ ((rd_T136 l0 x5_1).f6.f0) (wrap64 ((wrap64 ((wrap64 ((wrap64 ((wrap64 ((wrap64 (x1_1 + 1)) + 1)) + 1)) + 1)) + 1)) + 1)) t148 _ ?side1 ?side2 A11.out).mono ?_); (case side1 => exact kc_ HR147_6.out); (case side2 => exact HC147_6.out); rintro e w' ⟨rfl, ⟨nd, rfl⟩⟩; refine ⟨_, rfl, ?_⟩; have p149 : 0 ≤ (x5_1 : Int) := of_decide_eq_true as_; have q149 : x5_1 < (l0.length : Int) := of_decide_eq_true as_; obtain ⟨ad149, A149_6, c149_6, A149_9, c149_9, A149_13, c149_13, e149, hx149_0, hx149_1, hx149_2, hx149_3, hx149_4, hx149_5, hx149_6, hx149_7, hx149_8, hx149_9, hx149_10, hx149_11, hx149_12, hx149_13, hl149_6, hi149_6, hl149_9, hi149_9, hl149_13, hi149_13⟩ := at_T136 HR0.out x5_1 p149 q149; obtain rfl : ad141 = ad149 := (by injection e149); have HR149_6 := Aside0.mk hi149_6; have HC149_6 := Aside0.mk hl149_6; clear hi149_6 hl149_6; have HR149_9 := Aside0.mk hi149_9; have HC149_9 := Aside0.mk hl149_9; clear hi149_9 hl149_9; have HR149_13 := Aside0.mk hi149_13; have HC149_13 := Aside0.mk hl149_13; clear hi149_13 hl149_13; replace p149 := eq_true p149; replace q149 := eq_true q149; have ea_ := Option.some.inj (hx141_6.symm.trans hx149_6); injection ea_ with ea_ en_ ec_; subst ea_; subst ec_; clear en_; have ea_ := Option.some.inj (hx141_9.symm.trans hx149_9); injection ea_ with ea_ en_ ec_; subst ea_; subst ec_; clear en_; have ea_ := Option.some.inj (hx141_13.symm.trans hx149_13); injection ea_ with ea_ en_ ec_; subst ea_; subst ec_; clear en_; have p150 : 0 ≤ (x5_1 : Int) := of_decide_eq_true as_; have q150 : x5_1 < (l0.length : Int) := of_decide_eq_true as_; obtain ⟨ad150, A150_6, c150_6, A150_9, c150_9, A150_13, c150_13, e150, hx150_0, hx150_1, hx150_2, hx150_3, hx150_4, hx150_5, hx150_6, hx150_7, hx150_8, hx150_9, hx150_10, hx150_11, hx150_12, hx150_13, hl150_6, hi150_6, hl150_9, hi150_9, hl150_13, hi150_13⟩ := at_T136 HR0.out x5_1 p150 q150; obtain rfl : ad141 = ad150 := (by injection e150); have HR150_6 := Aside0.mk hi150_6; have HC150_6 := Aside0.mk hl150_6; clear hi150_6 hl150_6; have HR150_9 := Aside0.mk hi150_9; have HC150_9 := Aside0.mk hl150_9; clear hi150_9 hl150_9; have HR150_13 := Aside0.mk hi150_13; have HC150_13 := Aside0.mk hl150_13; clear hi150_13 hl150_13; replace p150 := eq_true p150; replace q150 := eq_true q150; have ea_ := Option.some.inj (hx141_6.symm.trans hx150_6); injection ea_ with ea_ en_ ec_; subst ea_; subst ec_; clear en_; have ea_ := Option.some.inj (hx141_9.symm.trans hx150_9); injection ea_ with ea_ en_ ec_; subst ea_; subst ec_; clear en_; have ea_ := Option.some.inj (hx141_13.symm.trans hx150_13); injection ea_ with ea_ en_ ec_; subst ea_; subst ec_; clear en_; have p151 : 0 ≤ (x5_1 : Int) := of_decide_eq_true as_; have q151 : x5_1 < (l0.length : Int) := of_decide_eq_true as_; obtain ⟨ad151, A151_6, c151_6, A151_9, c151_9, A151_13, c151_13, e151, hx151_0, hx151_1, hx151_2, hx151_3, hx151_4, hx151_5, hx151_6, hx151_7, hx151_8, hx151_9, hx151_10, hx151_11, hx151_12, hx151_13, hl151_6, hi151_6, hl151_9, hi151_9, hl151_13, hi151_13⟩ := at_T136 HR0.out x5_1 p151 q151; obtain rfl : ad141 = ad151 := (by injection e151); have HR151_6 := Aside0.mk hi151_6; have HC151_6 := Aside0.mk hl151_6; clear hi151_6 hl151_6; have HR151_9 := Aside0.mk hi151_9; have HC151_9 := Aside0.mk hl151_9; clear hi151_9 hl151_9; have HR151_13 := Aside0.mk hi151_13; have HC151_13 := Aside0.mk hl151_13; clear hi151_13 hl151_13; replace p151 := eq_true p151; replace q151 := eq_true q151; have ea_ := Option.some.inj (hx141_6.symm.trans hx151_6); injection ea_ with ea_ en_ ec_; subst ea_; subst ec_; clear en_; have ea_ := Option.some.inj (hx141_9.symm.trans hx151_9); injection ea_ with ea_ en_ ec_; subst ea_; subst ec_; clear en_; have ea_ := Option.some.inj (hx141_13.symm.trans hx151_13); injection ea_ with ea_ en_ ec_; subst ea_; subst ec_; clear en_) | ((with_reducible refine gate_callee (f := 145) rfl ?_); refine goe_ (some 107) Try.func145 #[.slice A141_9 ((rd_T136 l0 x5_1).f6.f2.f1).length c141_9, .int .i64 (wrap64 ((wrap64 (t148 + 1)) + 1))] ?_; (with_reducible refine (laws_heldInt64S.calls k1 _ _ ((rd_T136 l0 x5_1).f6.f2.f1) (wrap64 ((wrap64 (t148 + 1)) + 1)) t152 _ ?side1 ?side2 A15.out).mono ?_); (case side1 => exact kc_ HR151_9.out); (case side2 => exact HC151_9.out); rintro e w' ⟨rfl, ⟨nd, rfl⟩⟩; refine ⟨_, rfl, ?_⟩; have p153 : 0 ≤ (x5_1 : Int) := of_decide_eq_true as_; have q153 : x5_1 < (l0.length : Int) := of_decide_eq_true as_; obtain ⟨ad153, A153_6, c153_6, A153_9, c153_9, A153_13, c153_13, e153, hx153_0, hx153_1, hx153_2, hx153_3, hx153_4, hx153_5, hx153_6, hx153_7, hx153_8, hx153_9, hx153_10, hx153_11, hx153_12, hx153_13, hl153_6, hi153_6, hl153_9, hi153_9, hl153_13, hi153_13⟩ := at_T136 HR0.out x5_1 p153 q153; obtain rfl : ad141 = ad153 := (by injection e153); have HR153_6 := Aside0.mk hi153_6; have HC153_6 := Aside0.mk hl153_6; clear hi153_6 hl153_6; have HR153_9 := Aside0.mk hi153_9; have HC153_9 := Aside0.mk hl153_9; clear hi153_9 hl153_9; have HR153_13 := Aside0.mk hi153_13; have HC153_13 := Aside0.mk hl153_13; clear hi153_13 hl153_13; replace p153 := eq_true p153; replace q153 := eq_true q153; have ea_ := Option.some.inj (hx141_6.symm.trans hx153_6); injection ea_ with ea_ en_ ec_; subst ea_; subst ec_; clear en_; have ea_ := Option.some.inj (hx141_9.symm.trans hx153_9); injection ea_ with ea_ en_ ec_; subst ea_; subst ec_; clear en_; have ea_ := Option.some.inj (hx141_13.symm.trans hx153_13); injection ea_ with ea_ en_ ec_; subst ea_; subst ec_; clear en_))
                                go_ret
                                exact ⟨sd_, by repeat (first | exact Drawn0.refl _ | apply Drawn0.step)⟩
                          · rw [if_neg c14] at H
                            have c14b0 : (((rd_T136 l0 x5_1).f6.f2.f0) == (wrap64 (t148 + 1))) = false := beq_eq_false_iff_ne.mpr c14
                            have c14b1 : (((rd_T136 l0 x5_1).f6.f2.f0) != (wrap64 (t148 + 1))) = true := bne_iff_ne.mpr c14
                            obtain rfl := Option.some.inj H
                            have p141 : 0 ≤ (x5_1 : Int) := of_decide_eq_true as_
                            have q141 : x5_1 < (l0.length : Int) := of_decide_eq_true as_
                            obtain ⟨ad141, A141_6, c141_6, A141_9, c141_9, A141_13, c141_13, e141, hx141_0, hx141_1, hx141_2, hx141_3, hx141_4, hx141_5, hx141_6, hx141_7, hx141_8, hx141_9, hx141_10, hx141_11, hx141_12, hx141_13, hl141_6, hi141_6, hl141_9, hi141_9, hl141_13, hi141_13⟩ := at_T136 HR0.out x5_1 p141 q141
                            cases e141
                            have HR141_6 := Aside0.mk hi141_6
                            have HC141_6 := Aside0.mk hl141_6
                            clear hi141_6 hl141_6
                            have HR141_9 := Aside0.mk hi141_9
                            have HC141_9 := Aside0.mk hl141_9
                            clear hi141_9 hl141_9
                            have HR141_13 := Aside0.mk hi141_13
                            have HC141_13 := Aside0.mk hl141_13
                            clear hi141_13 hl141_13
                            replace p141 := eq_true p141
                            replace q141 := eq_true q141
                            have p142 : 0 ≤ (x5_1 : Int) := of_decide_eq_true as_
                            have q142 : x5_1 < (l0.length : Int) := of_decide_eq_true as_
                            obtain ⟨ad142, A142_6, c142_6, A142_9, c142_9, A142_13, c142_13, e142, hx142_0, hx142_1, hx142_2, hx142_3, hx142_4, hx142_5, hx142_6, hx142_7, hx142_8, hx142_9, hx142_10, hx142_11, hx142_12, hx142_13, hl142_6, hi142_6, hl142_9, hi142_9, hl142_13, hi142_13⟩ := at_T136 HR0.out x5_1 p142 q142
                            obtain rfl : ad141 = ad142 := (by injection e142)
                            have HR142_6 := Aside0.mk hi142_6
                            have HC142_6 := Aside0.mk hl142_6
                            clear hi142_6 hl142_6
                            have HR142_9 := Aside0.mk hi142_9
                            have HC142_9 := Aside0.mk hl142_9
                            clear hi142_9 hl142_9
                            have HR142_13 := Aside0.mk hi142_13
                            have HC142_13 := Aside0.mk hl142_13
                            clear hi142_13 hl142_13
                            replace p142 := eq_true p142
                            replace q142 := eq_true q142
                            have ea_ := Option.some.inj (hx141_6.symm.trans hx142_6)
                            injection ea_ with ea_ en_ ec_
                            subst ea_
                            subst ec_
                            clear en_
                            have ea_ := Option.some.inj (hx141_9.symm.trans hx142_9)
                            injection ea_ with ea_ en_ ec_
                            subst ea_
                            subst ec_
                            clear en_
                            have ea_ := Option.some.inj (hx141_13.symm.trans hx142_13)
                            injection ea_ with ea_ en_ ec_
                            subst ea_
                            subst ec_
                            clear en_
                            have p143 : 0 ≤ (x5_1 : Int) := of_decide_eq_true as_
                            have q143 : x5_1 < (l0.length : Int) := of_decide_eq_true as_
                            obtain ⟨ad143, A143_6, c143_6, A143_9, c143_9, A143_13, c143_13, e143, hx143_0, hx143_1, hx143_2, hx143_3, hx143_4, hx143_5, hx143_6, hx143_7, hx143_8, hx143_9, hx143_10, hx143_11, hx143_12, hx143_13, hl143_6, hi143_6, hl143_9, hi143_9, hl143_13, hi143_13⟩ := at_T136 HR0.out x5_1 p143 q143
                            obtain rfl : ad141 = ad143 := (by injection e143)
                            have HR143_6 := Aside0.mk hi143_6
                            have HC143_6 := Aside0.mk hl143_6
                            clear hi143_6 hl143_6
                            have HR143_9 := Aside0.mk hi143_9
                            have HC143_9 := Aside0.mk hl143_9
                            clear hi143_9 hl143_9
                            have HR143_13 := Aside0.mk hi143_13
                            have HC143_13 := Aside0.mk hl143_13
                            clear hi143_13 hl143_13
                            replace p143 := eq_true p143
                            replace q143 := eq_true q143
                            have ea_ := Option.some.inj (hx141_6.symm.trans hx143_6)
                            injection ea_ with ea_ en_ ec_
                            subst ea_
                            subst ec_
                            clear en_
                            have ea_ := Option.some.inj (hx141_9.symm.trans hx143_9)
                            injection ea_ with ea_ en_ ec_
                            subst ea_
                            subst ec_
                            clear en_
                            have ea_ := Option.some.inj (hx141_13.symm.trans hx143_13)
                            injection ea_ with ea_ en_ ec_
                            subst ea_
                            subst ec_
                            clear en_
                            have p144 : 0 ≤ (x5_1 : Int) := of_decide_eq_true as_
                            have q144 : x5_1 < (l0.length : Int) := of_decide_eq_true as_
                            obtain ⟨ad144, A144_6, c144_6, A144_9, c144_9, A144_13, c144_13, e144, hx144_0, hx144_1, hx144_2, hx144_3, hx144_4, hx144_5, hx144_6, hx144_7, hx144_8, hx144_9, hx144_10, hx144_11, hx144_12, hx144_13, hl144_6, hi144_6, hl144_9, hi144_9, hl144_13, hi144_13⟩ := at_T136 HR0.out x5_1 p144 q144
                            obtain rfl : ad141 = ad144 := (by injection e144)
                            have HR144_6 := Aside0.mk hi144_6
                            have HC144_6 := Aside0.mk hl144_6
                            clear hi144_6 hl144_6
                            have HR144_9 := Aside0.mk hi144_9
                            have HC144_9 := Aside0.mk hl144_9
                            clear hi144_9 hl144_9
                            have HR144_13 := Aside0.mk hi144_13
                            have HC144_13 := Aside0.mk hl144_13
                            clear hi144_13 hl144_13
                            replace p144 := eq_true p144
                            replace q144 := eq_true q144
                            have ea_ := Option.some.inj (hx141_6.symm.trans hx144_6)
                            injection ea_ with ea_ en_ ec_
                            subst ea_
                            subst ec_
                            clear en_
                            have ea_ := Option.some.inj (hx141_9.symm.trans hx144_9)
                            injection ea_ with ea_ en_ ec_
                            subst ea_
                            subst ec_
                            clear en_
                            have ea_ := Option.some.inj (hx141_13.symm.trans hx144_13)
                            injection ea_ with ea_ en_ ec_
                            subst ea_
                            subst ec_
                            clear en_
                            have p145 : 0 ≤ (x5_1 : Int) := of_decide_eq_true as_
                            have q145 : x5_1 < (l0.length : Int) := of_decide_eq_true as_
                            obtain ⟨ad145, A145_6, c145_6, A145_9, c145_9, A145_13, c145_13, e145, hx145_0, hx145_1, hx145_2, hx145_3, hx145_4, hx145_5, hx145_6, hx145_7, hx145_8, hx145_9, hx145_10, hx145_11, hx145_12, hx145_13, hl145_6, hi145_6, hl145_9, hi145_9, hl145_13, hi145_13⟩ := at_T136 HR0.out x5_1 p145 q145
                            obtain rfl : ad141 = ad145 := (by injection e145)
                            have HR145_6 := Aside0.mk hi145_6
                            have HC145_6 := Aside0.mk hl145_6
                            clear hi145_6 hl145_6
                            have HR145_9 := Aside0.mk hi145_9
                            have HC145_9 := Aside0.mk hl145_9
                            clear hi145_9 hl145_9
                            have HR145_13 := Aside0.mk hi145_13
                            have HC145_13 := Aside0.mk hl145_13
                            clear hi145_13 hl145_13
                            replace p145 := eq_true p145
                            replace q145 := eq_true q145
                            have ea_ := Option.some.inj (hx141_6.symm.trans hx145_6)
                            injection ea_ with ea_ en_ ec_
                            subst ea_
                            subst ec_
                            clear en_
                            have ea_ := Option.some.inj (hx141_9.symm.trans hx145_9)
                            injection ea_ with ea_ en_ ec_
                            subst ea_
                            subst ec_
                            clear en_
                            have ea_ := Option.some.inj (hx141_13.symm.trans hx145_13)
                            injection ea_ with ea_ en_ ec_
                            subst ea_
                            subst ec_
                            clear en_
                            have p146 : 0 ≤ (x5_1 : Int) := of_decide_eq_true as_
                            have q146 : x5_1 < (l0.length : Int) := of_decide_eq_true as_
                            obtain ⟨ad146, A146_6, c146_6, A146_9, c146_9, A146_13, c146_13, e146, hx146_0, hx146_1, hx146_2, hx146_3, hx146_4, hx146_5, hx146_6, hx146_7, hx146_8, hx146_9, hx146_10, hx146_11, hx146_12, hx146_13, hl146_6, hi146_6, hl146_9, hi146_9, hl146_13, hi146_13⟩ := at_T136 HR0.out x5_1 p146 q146
                            obtain rfl : ad141 = ad146 := (by injection e146)
                            have HR146_6 := Aside0.mk hi146_6
                            have HC146_6 := Aside0.mk hl146_6
                            clear hi146_6 hl146_6
                            have HR146_9 := Aside0.mk hi146_9
                            have HC146_9 := Aside0.mk hl146_9
                            clear hi146_9 hl146_9
                            have HR146_13 := Aside0.mk hi146_13
                            have HC146_13 := Aside0.mk hl146_13
                            clear hi146_13 hl146_13
                            replace p146 := eq_true p146
                            replace q146 := eq_true q146
                            have ea_ := Option.some.inj (hx141_6.symm.trans hx146_6)
                            injection ea_ with ea_ en_ ec_
                            subst ea_
                            subst ec_
                            clear en_
                            have ea_ := Option.some.inj (hx141_9.symm.trans hx146_9)
                            injection ea_ with ea_ en_ ec_
                            subst ea_
                            subst ec_
                            clear en_
                            have ea_ := Option.some.inj (hx141_13.symm.trans hx146_13)
                            injection ea_ with ea_ en_ ec_
                            subst ea_
                            subst ec_
                            clear en_
                            have p147 : 0 ≤ (x5_1 : Int) := of_decide_eq_true as_
                            have q147 : x5_1 < (l0.length : Int) := of_decide_eq_true as_
                            obtain ⟨ad147, A147_6, c147_6, A147_9, c147_9, A147_13, c147_13, e147, hx147_0, hx147_1, hx147_2, hx147_3, hx147_4, hx147_5, hx147_6, hx147_7, hx147_8, hx147_9, hx147_10, hx147_11, hx147_12, hx147_13, hl147_6, hi147_6, hl147_9, hi147_9, hl147_13, hi147_13⟩ := at_T136 HR0.out x5_1 p147 q147
                            obtain rfl : ad141 = ad147 := (by injection e147)
                            have HR147_6 := Aside0.mk hi147_6
                            have HC147_6 := Aside0.mk hl147_6
                            clear hi147_6 hl147_6
                            have HR147_9 := Aside0.mk hi147_9
                            have HC147_9 := Aside0.mk hl147_9
                            clear hi147_9 hl147_9
                            have HR147_13 := Aside0.mk hi147_13
                            have HC147_13 := Aside0.mk hl147_13
                            clear hi147_13 hl147_13
                            replace p147 := eq_true p147
                            replace q147 := eq_true q147
                            have ea_ := Option.some.inj (hx141_6.symm.trans hx147_6)
                            injection ea_ with ea_ en_ ec_
                            subst ea_
                            subst ec_
                            clear en_
                            have ea_ := Option.some.inj (hx141_9.symm.trans hx147_9)
                            injection ea_ with ea_ en_ ec_
                            subst ea_
                            subst ec_
                            clear en_
                            have ea_ := Option.some.inj (hx141_13.symm.trans hx147_13)
                            injection ea_ with ea_ en_ ec_
                            subst ea_
                            subst ec_
                            clear en_
                            go_wp2_with (first | ((with_reducible refine gate_callee (f := 130) rfl ?_); refine goe_ (some 73) Try.func130 #[.slice A141_6 ((rd_T136 l0 x5_1).f6.f0).length c141_6, .int .i64 (wrap64 ((wrap64 ((wrap64 ((wrap64 ((wrap64 ((wrap64 (x1_1 + 1)) + 1)) + 1)) + 1)) + 1)) + 1))] ?_; (with_reducible refine (laws_heldPrefixS.calls k1 _ _ ((rd_T136 l0 x5_1).f6.f0) (wrap64 ((wrap64 ((wrap64 ((wrap64 ((wrap64 ((wrap64 (x1_1 + 1)) + 1)) + 1)) + 1)) + 1)) + 1)) t148 _ ?side1 ?side2 A11.out).mono ?_); (case side1 => exact kc_ HR147_6.out); (case side2 => exact HC147_6.out); rintro e w' ⟨rfl, ⟨nd, rfl⟩⟩; refine ⟨_, rfl, ?_⟩; have p149 : 0 ≤ (x5_1 : Int) := of_decide_eq_true as_; have q149 : x5_1 < (l0.length : Int) := of_decide_eq_true as_; obtain ⟨ad149, A149_6, c149_6, A149_9, c149_9, A149_13, c149_13, e149, hx149_0, hx149_1, hx149_2, hx149_3, hx149_4, hx149_5, hx149_6, hx149_7, hx149_8, hx149_9, hx149_10, hx149_11, hx149_12, hx149_13, hl149_6, hi149_6, hl149_9, hi149_9, hl149_13, hi149_13⟩ := at_T136 HR0.out x5_1 p149 q149; obtain rfl : ad141 = ad149 := (by injection e149); have HR149_6 := Aside0.mk hi149_6; have HC149_6 := Aside0.mk hl149_6; clear hi149_6 hl149_6; have HR149_9 := Aside0.mk hi149_9; have HC149_9 := Aside0.mk hl149_9; clear hi149_9 hl149_9; have HR149_13 := Aside0.mk hi149_13; have HC149_13 := Aside0.mk hl149_13; clear hi149_13 hl149_13; replace p149 := eq_true p149; replace q149 := eq_true q149; have ea_ := Option.some.inj (hx141_6.symm.trans hx149_6); injection ea_ with ea_ en_ ec_; subst ea_; subst ec_; clear en_; have ea_ := Option.some.inj (hx141_9.symm.trans hx149_9); injection ea_ with ea_ en_ ec_; subst ea_; subst ec_; clear en_; have ea_ := Option.some.inj (hx141_13.symm.trans hx149_13); injection ea_ with ea_ en_ ec_; subst ea_; subst ec_; clear en_; have p150 : 0 ≤ (x5_1 : Int) := of_decide_eq_true as_; have q150 : x5_1 < (l0.length : Int) := of_decide_eq_true as_; obtain ⟨ad150, A150_6, c150_6, A150_9, c150_9, A150_13, c150_13, e150, hx150_0, hx150_1, hx150_2, hx150_3, hx150_4, hx150_5, hx150_6, hx150_7, hx150_8, hx150_9, hx150_10, hx150_11, hx150_12, hx150_13, hl150_6, hi150_6, hl150_9, hi150_9, hl150_13, hi150_13⟩ := at_T136 HR0.out x5_1 p150 q150; obtain rfl : ad141 = ad150 := (by injection e150); have HR150_6 := Aside0.mk hi150_6; have HC150_6 := Aside0.mk hl150_6; clear hi150_6 hl150_6; have HR150_9 := Aside0.mk hi150_9; have HC150_9 := Aside0.mk hl150_9; clear hi150_9 hl150_9; have HR150_13 := Aside0.mk hi150_13; have HC150_13 := Aside0.mk hl150_13; clear hi150_13 hl150_13; replace p150 := eq_true p150; replace q150 := eq_true q150; have ea_ := Option.some.inj (hx141_6.symm.trans hx150_6); injection ea_ with ea_ en_ ec_; subst ea_; subst ec_; clear en_; have ea_ := Option.some.inj (hx141_9.symm.trans hx150_9); injection ea_ with ea_ en_ ec_; subst ea_; subst ec_; clear en_; have ea_ := Option.some.inj (hx141_13.symm.trans hx150_13); injection ea_ with ea_ en_ ec_; subst ea_; subst ec_; clear en_))
                            go_ret
                            exact ⟨sd_, by repeat (first | exact Drawn0.refl _ | apply Drawn0.step)⟩
                    · rw [if_neg c10] at H
                      have c10b0 : (((rd_T136 l0 x5_1).f5) == (wrap64 ((wrap64 ((wrap64 ((wrap64 ((wrap64 (x1_1 + 1)) + 1)) + 1)) + 1)) + 1))) = false := beq_eq_false_iff_ne.mpr c10
                      have c10b1 : (((rd_T136 l0 x5_1).f5) != (wrap64 ((wrap64 ((wrap64 ((wrap64 ((wrap64 (x1_1 + 1)) + 1)) + 1)) + 1)) + 1))) = true := bne_iff_ne.mpr c10
                      obtain rfl := Option.some.inj H
                      have p141 : 0 ≤ (x5_1 : Int) := of_decide_eq_true as_
                      have q141 : x5_1 < (l0.length : Int) := of_decide_eq_true as_
                      obtain ⟨ad141, A141_6, c141_6, A141_9, c141_9, A141_13, c141_13, e141, hx141_0, hx141_1, hx141_2, hx141_3, hx141_4, hx141_5, hx141_6, hx141_7, hx141_8, hx141_9, hx141_10, hx141_11, hx141_12, hx141_13, hl141_6, hi141_6, hl141_9, hi141_9, hl141_13, hi141_13⟩ := at_T136 HR0.out x5_1 p141 q141
                      cases e141
                      have HR141_6 := Aside0.mk hi141_6
                      have HC141_6 := Aside0.mk hl141_6
                      clear hi141_6 hl141_6
                      have HR141_9 := Aside0.mk hi141_9
                      have HC141_9 := Aside0.mk hl141_9
                      clear hi141_9 hl141_9
                      have HR141_13 := Aside0.mk hi141_13
                      have HC141_13 := Aside0.mk hl141_13
                      clear hi141_13 hl141_13
                      replace p141 := eq_true p141
                      replace q141 := eq_true q141
                      have p142 : 0 ≤ (x5_1 : Int) := of_decide_eq_true as_
                      have q142 : x5_1 < (l0.length : Int) := of_decide_eq_true as_
                      obtain ⟨ad142, A142_6, c142_6, A142_9, c142_9, A142_13, c142_13, e142, hx142_0, hx142_1, hx142_2, hx142_3, hx142_4, hx142_5, hx142_6, hx142_7, hx142_8, hx142_9, hx142_10, hx142_11, hx142_12, hx142_13, hl142_6, hi142_6, hl142_9, hi142_9, hl142_13, hi142_13⟩ := at_T136 HR0.out x5_1 p142 q142
                      obtain rfl : ad141 = ad142 := (by injection e142)
                      have HR142_6 := Aside0.mk hi142_6
                      have HC142_6 := Aside0.mk hl142_6
                      clear hi142_6 hl142_6
                      have HR142_9 := Aside0.mk hi142_9
                      have HC142_9 := Aside0.mk hl142_9
                      clear hi142_9 hl142_9
                      have HR142_13 := Aside0.mk hi142_13
                      have HC142_13 := Aside0.mk hl142_13
                      clear hi142_13 hl142_13
                      replace p142 := eq_true p142
                      replace q142 := eq_true q142
                      have ea_ := Option.some.inj (hx141_6.symm.trans hx142_6)
                      injection ea_ with ea_ en_ ec_
                      subst ea_
                      subst ec_
                      clear en_
                      have ea_ := Option.some.inj (hx141_9.symm.trans hx142_9)
                      injection ea_ with ea_ en_ ec_
                      subst ea_
                      subst ec_
                      clear en_
                      have ea_ := Option.some.inj (hx141_13.symm.trans hx142_13)
                      injection ea_ with ea_ en_ ec_
                      subst ea_
                      subst ec_
                      clear en_
                      have p143 : 0 ≤ (x5_1 : Int) := of_decide_eq_true as_
                      have q143 : x5_1 < (l0.length : Int) := of_decide_eq_true as_
                      obtain ⟨ad143, A143_6, c143_6, A143_9, c143_9, A143_13, c143_13, e143, hx143_0, hx143_1, hx143_2, hx143_3, hx143_4, hx143_5, hx143_6, hx143_7, hx143_8, hx143_9, hx143_10, hx143_11, hx143_12, hx143_13, hl143_6, hi143_6, hl143_9, hi143_9, hl143_13, hi143_13⟩ := at_T136 HR0.out x5_1 p143 q143
                      obtain rfl : ad141 = ad143 := (by injection e143)
                      have HR143_6 := Aside0.mk hi143_6
                      have HC143_6 := Aside0.mk hl143_6
                      clear hi143_6 hl143_6
                      have HR143_9 := Aside0.mk hi143_9
                      have HC143_9 := Aside0.mk hl143_9
                      clear hi143_9 hl143_9
                      have HR143_13 := Aside0.mk hi143_13
                      have HC143_13 := Aside0.mk hl143_13
                      clear hi143_13 hl143_13
                      replace p143 := eq_true p143
                      replace q143 := eq_true q143
                      have ea_ := Option.some.inj (hx141_6.symm.trans hx143_6)
                      injection ea_ with ea_ en_ ec_
                      subst ea_
                      subst ec_
                      clear en_
                      have ea_ := Option.some.inj (hx141_9.symm.trans hx143_9)
                      injection ea_ with ea_ en_ ec_
                      subst ea_
                      subst ec_
                      clear en_
                      have ea_ := Option.some.inj (hx141_13.symm.trans hx143_13)
                      injection ea_ with ea_ en_ ec_
                      subst ea_
                      subst ec_
                      clear en_
                      have p144 : 0 ≤ (x5_1 : Int) := of_decide_eq_true as_
                      have q144 : x5_1 < (l0.length : Int) := of_decide_eq_true as_
                      obtain ⟨ad144, A144_6, c144_6, A144_9, c144_9, A144_13, c144_13, e144, hx144_0, hx144_1, hx144_2, hx144_3, hx144_4, hx144_5, hx144_6, hx144_7, hx144_8, hx144_9, hx144_10, hx144_11, hx144_12, hx144_13, hl144_6, hi144_6, hl144_9, hi144_9, hl144_13, hi144_13⟩ := at_T136 HR0.out x5_1 p144 q144
                      obtain rfl : ad141 = ad144 := (by injection e144)
                      have HR144_6 := Aside0.mk hi144_6
                      have HC144_6 := Aside0.mk hl144_6
                      clear hi144_6 hl144_6
                      have HR144_9 := Aside0.mk hi144_9
                      have HC144_9 := Aside0.mk hl144_9
                      clear hi144_9 hl144_9
                      have HR144_13 := Aside0.mk hi144_13
                      have HC144_13 := Aside0.mk hl144_13
                      clear hi144_13 hl144_13
                      replace p144 := eq_true p144
                      replace q144 := eq_true q144
                      have ea_ := Option.some.inj (hx141_6.symm.trans hx144_6)
                      injection ea_ with ea_ en_ ec_
                      subst ea_
                      subst ec_
                      clear en_
                      have ea_ := Option.some.inj (hx141_9.symm.trans hx144_9)
                      injection ea_ with ea_ en_ ec_
                      subst ea_
                      subst ec_
                      clear en_
                      have ea_ := Option.some.inj (hx141_13.symm.trans hx144_13)
                      injection ea_ with ea_ en_ ec_
                      subst ea_
                      subst ec_
                      clear en_
                      have p145 : 0 ≤ (x5_1 : Int) := of_decide_eq_true as_
                      have q145 : x5_1 < (l0.length : Int) := of_decide_eq_true as_
                      obtain ⟨ad145, A145_6, c145_6, A145_9, c145_9, A145_13, c145_13, e145, hx145_0, hx145_1, hx145_2, hx145_3, hx145_4, hx145_5, hx145_6, hx145_7, hx145_8, hx145_9, hx145_10, hx145_11, hx145_12, hx145_13, hl145_6, hi145_6, hl145_9, hi145_9, hl145_13, hi145_13⟩ := at_T136 HR0.out x5_1 p145 q145
                      obtain rfl : ad141 = ad145 := (by injection e145)
                      have HR145_6 := Aside0.mk hi145_6
                      have HC145_6 := Aside0.mk hl145_6
                      clear hi145_6 hl145_6
                      have HR145_9 := Aside0.mk hi145_9
                      have HC145_9 := Aside0.mk hl145_9
                      clear hi145_9 hl145_9
                      have HR145_13 := Aside0.mk hi145_13
                      have HC145_13 := Aside0.mk hl145_13
                      clear hi145_13 hl145_13
                      replace p145 := eq_true p145
                      replace q145 := eq_true q145
                      have ea_ := Option.some.inj (hx141_6.symm.trans hx145_6)
                      injection ea_ with ea_ en_ ec_
                      subst ea_
                      subst ec_
                      clear en_
                      have ea_ := Option.some.inj (hx141_9.symm.trans hx145_9)
                      injection ea_ with ea_ en_ ec_
                      subst ea_
                      subst ec_
                      clear en_
                      have ea_ := Option.some.inj (hx141_13.symm.trans hx145_13)
                      injection ea_ with ea_ en_ ec_
                      subst ea_
                      subst ec_
                      clear en_
                      have p146 : 0 ≤ (x5_1 : Int) := of_decide_eq_true as_
                      have q146 : x5_1 < (l0.length : Int) := of_decide_eq_true as_
                      obtain ⟨ad146, A146_6, c146_6, A146_9, c146_9, A146_13, c146_13, e146, hx146_0, hx146_1, hx146_2, hx146_3, hx146_4, hx146_5, hx146_6, hx146_7, hx146_8, hx146_9, hx146_10, hx146_11, hx146_12, hx146_13, hl146_6, hi146_6, hl146_9, hi146_9, hl146_13, hi146_13⟩ := at_T136 HR0.out x5_1 p146 q146
                      obtain rfl : ad141 = ad146 := (by injection e146)
                      have HR146_6 := Aside0.mk hi146_6
                      have HC146_6 := Aside0.mk hl146_6
                      clear hi146_6 hl146_6
                      have HR146_9 := Aside0.mk hi146_9
                      have HC146_9 := Aside0.mk hl146_9
                      clear hi146_9 hl146_9
                      have HR146_13 := Aside0.mk hi146_13
                      have HC146_13 := Aside0.mk hl146_13
                      clear hi146_13 hl146_13
                      replace p146 := eq_true p146
                      replace q146 := eq_true q146
                      have ea_ := Option.some.inj (hx141_6.symm.trans hx146_6)
                      injection ea_ with ea_ en_ ec_
                      subst ea_
                      subst ec_
                      clear en_
                      have ea_ := Option.some.inj (hx141_9.symm.trans hx146_9)
                      injection ea_ with ea_ en_ ec_
                      subst ea_
                      subst ec_
                      clear en_
                      have ea_ := Option.some.inj (hx141_13.symm.trans hx146_13)
                      injection ea_ with ea_ en_ ec_
                      subst ea_
                      subst ec_
                      clear en_
                      go_wp2
                      go_ret
                      exact ⟨sd_, by repeat (first | exact Drawn0.refl _ | apply Drawn0.step)⟩
                  · rw [if_neg c9] at H
                    have c9b0 : (((rd_T136 l0 x5_1).f4) == (wrap64 ((wrap64 ((wrap64 ((wrap64 (x1_1 + 1)) + 1)) + 1)) + 1))) = false := beq_eq_false_iff_ne.mpr c9
                    have c9b1 : (((rd_T136 l0 x5_1).f4) != (wrap64 ((wrap64 ((wrap64 ((wrap64 (x1_1 + 1)) + 1)) + 1)) + 1))) = true := bne_iff_ne.mpr c9
                    obtain rfl := Option.some.inj H
                    have p141 : 0 ≤ (x5_1 : Int) := of_decide_eq_true as_
                    have q141 : x5_1 < (l0.length : Int) := of_decide_eq_true as_
                    obtain ⟨ad141, A141_6, c141_6, A141_9, c141_9, A141_13, c141_13, e141, hx141_0, hx141_1, hx141_2, hx141_3, hx141_4, hx141_5, hx141_6, hx141_7, hx141_8, hx141_9, hx141_10, hx141_11, hx141_12, hx141_13, hl141_6, hi141_6, hl141_9, hi141_9, hl141_13, hi141_13⟩ := at_T136 HR0.out x5_1 p141 q141
                    cases e141
                    have HR141_6 := Aside0.mk hi141_6
                    have HC141_6 := Aside0.mk hl141_6
                    clear hi141_6 hl141_6
                    have HR141_9 := Aside0.mk hi141_9
                    have HC141_9 := Aside0.mk hl141_9
                    clear hi141_9 hl141_9
                    have HR141_13 := Aside0.mk hi141_13
                    have HC141_13 := Aside0.mk hl141_13
                    clear hi141_13 hl141_13
                    replace p141 := eq_true p141
                    replace q141 := eq_true q141
                    have p142 : 0 ≤ (x5_1 : Int) := of_decide_eq_true as_
                    have q142 : x5_1 < (l0.length : Int) := of_decide_eq_true as_
                    obtain ⟨ad142, A142_6, c142_6, A142_9, c142_9, A142_13, c142_13, e142, hx142_0, hx142_1, hx142_2, hx142_3, hx142_4, hx142_5, hx142_6, hx142_7, hx142_8, hx142_9, hx142_10, hx142_11, hx142_12, hx142_13, hl142_6, hi142_6, hl142_9, hi142_9, hl142_13, hi142_13⟩ := at_T136 HR0.out x5_1 p142 q142
                    obtain rfl : ad141 = ad142 := (by injection e142)
                    have HR142_6 := Aside0.mk hi142_6
                    have HC142_6 := Aside0.mk hl142_6
                    clear hi142_6 hl142_6
                    have HR142_9 := Aside0.mk hi142_9
                    have HC142_9 := Aside0.mk hl142_9
                    clear hi142_9 hl142_9
                    have HR142_13 := Aside0.mk hi142_13
                    have HC142_13 := Aside0.mk hl142_13
                    clear hi142_13 hl142_13
                    replace p142 := eq_true p142
                    replace q142 := eq_true q142
                    have ea_ := Option.some.inj (hx141_6.symm.trans hx142_6)
                    injection ea_ with ea_ en_ ec_
                    subst ea_
                    subst ec_
                    clear en_
                    have ea_ := Option.some.inj (hx141_9.symm.trans hx142_9)
                    injection ea_ with ea_ en_ ec_
                    subst ea_
                    subst ec_
                    clear en_
                    have ea_ := Option.some.inj (hx141_13.symm.trans hx142_13)
                    injection ea_ with ea_ en_ ec_
                    subst ea_
                    subst ec_
                    clear en_
                    have p143 : 0 ≤ (x5_1 : Int) := of_decide_eq_true as_
                    have q143 : x5_1 < (l0.length : Int) := of_decide_eq_true as_
                    obtain ⟨ad143, A143_6, c143_6, A143_9, c143_9, A143_13, c143_13, e143, hx143_0, hx143_1, hx143_2, hx143_3, hx143_4, hx143_5, hx143_6, hx143_7, hx143_8, hx143_9, hx143_10, hx143_11, hx143_12, hx143_13, hl143_6, hi143_6, hl143_9, hi143_9, hl143_13, hi143_13⟩ := at_T136 HR0.out x5_1 p143 q143
                    obtain rfl : ad141 = ad143 := (by injection e143)
                    have HR143_6 := Aside0.mk hi143_6
                    have HC143_6 := Aside0.mk hl143_6
                    clear hi143_6 hl143_6
                    have HR143_9 := Aside0.mk hi143_9
                    have HC143_9 := Aside0.mk hl143_9
                    clear hi143_9 hl143_9
                    have HR143_13 := Aside0.mk hi143_13
                    have HC143_13 := Aside0.mk hl143_13
                    clear hi143_13 hl143_13
                    replace p143 := eq_true p143
                    replace q143 := eq_true q143
                    have ea_ := Option.some.inj (hx141_6.symm.trans hx143_6)
                    injection ea_ with ea_ en_ ec_
                    subst ea_
                    subst ec_
                    clear en_
                    have ea_ := Option.some.inj (hx141_9.symm.trans hx143_9)
                    injection ea_ with ea_ en_ ec_
                    subst ea_
                    subst ec_
                    clear en_
                    have ea_ := Option.some.inj (hx141_13.symm.trans hx143_13)
                    injection ea_ with ea_ en_ ec_
                    subst ea_
                    subst ec_
                    clear en_
                    have p144 : 0 ≤ (x5_1 : Int) := of_decide_eq_true as_
                    have q144 : x5_1 < (l0.length : Int) := of_decide_eq_true as_
                    obtain ⟨ad144, A144_6, c144_6, A144_9, c144_9, A144_13, c144_13, e144, hx144_0, hx144_1, hx144_2, hx144_3, hx144_4, hx144_5, hx144_6, hx144_7, hx144_8, hx144_9, hx144_10, hx144_11, hx144_12, hx144_13, hl144_6, hi144_6, hl144_9, hi144_9, hl144_13, hi144_13⟩ := at_T136 HR0.out x5_1 p144 q144
                    obtain rfl : ad141 = ad144 := (by injection e144)
                    have HR144_6 := Aside0.mk hi144_6
                    have HC144_6 := Aside0.mk hl144_6
                    clear hi144_6 hl144_6
                    have HR144_9 := Aside0.mk hi144_9
                    have HC144_9 := Aside0.mk hl144_9
                    clear hi144_9 hl144_9
                    have HR144_13 := Aside0.mk hi144_13
                    have HC144_13 := Aside0.mk hl144_13
                    clear hi144_13 hl144_13
                    replace p144 := eq_true p144
                    replace q144 := eq_true q144
                    have ea_ := Option.some.inj (hx141_6.symm.trans hx144_6)
                    injection ea_ with ea_ en_ ec_
                    subst ea_
                    subst ec_
                    clear en_
                    have ea_ := Option.some.inj (hx141_9.symm.trans hx144_9)
                    injection ea_ with ea_ en_ ec_
                    subst ea_
                    subst ec_
                    clear en_
                    have ea_ := Option.some.inj (hx141_13.symm.trans hx144_13)
                    injection ea_ with ea_ en_ ec_
                    subst ea_
                    subst ec_
                    clear en_
                    have p145 : 0 ≤ (x5_1 : Int) := of_decide_eq_true as_
                    have q145 : x5_1 < (l0.length : Int) := of_decide_eq_true as_
                    obtain ⟨ad145, A145_6, c145_6, A145_9, c145_9, A145_13, c145_13, e145, hx145_0, hx145_1, hx145_2, hx145_3, hx145_4, hx145_5, hx145_6, hx145_7, hx145_8, hx145_9, hx145_10, hx145_11, hx145_12, hx145_13, hl145_6, hi145_6, hl145_9, hi145_9, hl145_13, hi145_13⟩ := at_T136 HR0.out x5_1 p145 q145
                    obtain rfl : ad141 = ad145 := (by injection e145)
                    have HR145_6 := Aside0.mk hi145_6
                    have HC145_6 := Aside0.mk hl145_6
                    clear hi145_6 hl145_6
                    have HR145_9 := Aside0.mk hi145_9
                    have HC145_9 := Aside0.mk hl145_9
                    clear hi145_9 hl145_9
                    have HR145_13 := Aside0.mk hi145_13
                    have HC145_13 := Aside0.mk hl145_13
                    clear hi145_13 hl145_13
                    replace p145 := eq_true p145
                    replace q145 := eq_true q145
                    have ea_ := Option.some.inj (hx141_6.symm.trans hx145_6)
                    injection ea_ with ea_ en_ ec_
                    subst ea_
                    subst ec_
                    clear en_
                    have ea_ := Option.some.inj (hx141_9.symm.trans hx145_9)
                    injection ea_ with ea_ en_ ec_
                    subst ea_
                    subst ec_
                    clear en_
                    have ea_ := Option.some.inj (hx141_13.symm.trans hx145_13)
                    injection ea_ with ea_ en_ ec_
                    subst ea_
                    subst ec_
                    clear en_
                    go_wp2
                    go_ret
                    exact ⟨sd_, by repeat (first | exact Drawn0.refl _ | apply Drawn0.step)⟩
                · rw [if_neg c8] at H
                  have c8b0 : (((rd_T136 l0 x5_1).f3) == (wrap64 ((wrap64 ((wrap64 (x1_1 + 1)) + 1)) + 1))) = false := beq_eq_false_iff_ne.mpr c8
                  have c8b1 : (((rd_T136 l0 x5_1).f3) != (wrap64 ((wrap64 ((wrap64 (x1_1 + 1)) + 1)) + 1))) = true := bne_iff_ne.mpr c8
                  obtain rfl := Option.some.inj H
                  have p141 : 0 ≤ (x5_1 : Int) := of_decide_eq_true as_
                  have q141 : x5_1 < (l0.length : Int) := of_decide_eq_true as_
                  obtain ⟨ad141, A141_6, c141_6, A141_9, c141_9, A141_13, c141_13, e141, hx141_0, hx141_1, hx141_2, hx141_3, hx141_4, hx141_5, hx141_6, hx141_7, hx141_8, hx141_9, hx141_10, hx141_11, hx141_12, hx141_13, hl141_6, hi141_6, hl141_9, hi141_9, hl141_13, hi141_13⟩ := at_T136 HR0.out x5_1 p141 q141
                  cases e141
                  have HR141_6 := Aside0.mk hi141_6
                  have HC141_6 := Aside0.mk hl141_6
                  clear hi141_6 hl141_6
                  have HR141_9 := Aside0.mk hi141_9
                  have HC141_9 := Aside0.mk hl141_9
                  clear hi141_9 hl141_9
                  have HR141_13 := Aside0.mk hi141_13
                  have HC141_13 := Aside0.mk hl141_13
                  clear hi141_13 hl141_13
                  replace p141 := eq_true p141
                  replace q141 := eq_true q141
                  have p142 : 0 ≤ (x5_1 : Int) := of_decide_eq_true as_
                  have q142 : x5_1 < (l0.length : Int) := of_decide_eq_true as_
                  obtain ⟨ad142, A142_6, c142_6, A142_9, c142_9, A142_13, c142_13, e142, hx142_0, hx142_1, hx142_2, hx142_3, hx142_4, hx142_5, hx142_6, hx142_7, hx142_8, hx142_9, hx142_10, hx142_11, hx142_12, hx142_13, hl142_6, hi142_6, hl142_9, hi142_9, hl142_13, hi142_13⟩ := at_T136 HR0.out x5_1 p142 q142
                  obtain rfl : ad141 = ad142 := (by injection e142)
                  have HR142_6 := Aside0.mk hi142_6
                  have HC142_6 := Aside0.mk hl142_6
                  clear hi142_6 hl142_6
                  have HR142_9 := Aside0.mk hi142_9
                  have HC142_9 := Aside0.mk hl142_9
                  clear hi142_9 hl142_9
                  have HR142_13 := Aside0.mk hi142_13
                  have HC142_13 := Aside0.mk hl142_13
                  clear hi142_13 hl142_13
                  replace p142 := eq_true p142
                  replace q142 := eq_true q142
                  have ea_ := Option.some.inj (hx141_6.symm.trans hx142_6)
                  injection ea_ with ea_ en_ ec_
                  subst ea_
                  subst ec_
                  clear en_
                  have ea_ := Option.some.inj (hx141_9.symm.trans hx142_9)
                  injection ea_ with ea_ en_ ec_
                  subst ea_
                  subst ec_
                  clear en_
                  have ea_ := Option.some.inj (hx141_13.symm.trans hx142_13)
                  injection ea_ with ea_ en_ ec_
                  subst ea_
                  subst ec_
                  clear en_
                  have p143 : 0 ≤ (x5_1 : Int) := of_decide_eq_true as_
                  have q143 : x5_1 < (l0.length : Int) := of_decide_eq_true as_
                  obtain ⟨ad143, A143_6, c143_6, A143_9, c143_9, A143_13, c143_13, e143, hx143_0, hx143_1, hx143_2, hx143_3, hx143_4, hx143_5, hx143_6, hx143_7, hx143_8, hx143_9, hx143_10, hx143_11, hx143_12, hx143_13, hl143_6, hi143_6, hl143_9, hi143_9, hl143_13, hi143_13⟩ := at_T136 HR0.out x5_1 p143 q143
                  obtain rfl : ad141 = ad143 := (by injection e143)
                  have HR143_6 := Aside0.mk hi143_6
                  have HC143_6 := Aside0.mk hl143_6
                  clear hi143_6 hl143_6
                  have HR143_9 := Aside0.mk hi143_9
                  have HC143_9 := Aside0.mk hl143_9
                  clear hi143_9 hl143_9
                  have HR143_13 := Aside0.mk hi143_13
                  have HC143_13 := Aside0.mk hl143_13
                  clear hi143_13 hl143_13
                  replace p143 := eq_true p143
                  replace q143 := eq_true q143
                  have ea_ := Option.some.inj (hx141_6.symm.trans hx143_6)
                  injection ea_ with ea_ en_ ec_
                  subst ea_
                  subst ec_
                  clear en_
                  have ea_ := Option.some.inj (hx141_9.symm.trans hx143_9)
                  injection ea_ with ea_ en_ ec_
                  subst ea_
                  subst ec_
                  clear en_
                  have ea_ := Option.some.inj (hx141_13.symm.trans hx143_13)
                  injection ea_ with ea_ en_ ec_
                  subst ea_
                  subst ec_
                  clear en_
                  have p144 : 0 ≤ (x5_1 : Int) := of_decide_eq_true as_
                  have q144 : x5_1 < (l0.length : Int) := of_decide_eq_true as_
                  obtain ⟨ad144, A144_6, c144_6, A144_9, c144_9, A144_13, c144_13, e144, hx144_0, hx144_1, hx144_2, hx144_3, hx144_4, hx144_5, hx144_6, hx144_7, hx144_8, hx144_9, hx144_10, hx144_11, hx144_12, hx144_13, hl144_6, hi144_6, hl144_9, hi144_9, hl144_13, hi144_13⟩ := at_T136 HR0.out x5_1 p144 q144
                  obtain rfl : ad141 = ad144 := (by injection e144)
                  have HR144_6 := Aside0.mk hi144_6
                  have HC144_6 := Aside0.mk hl144_6
                  clear hi144_6 hl144_6
                  have HR144_9 := Aside0.mk hi144_9
                  have HC144_9 := Aside0.mk hl144_9
                  clear hi144_9 hl144_9
                  have HR144_13 := Aside0.mk hi144_13
                  have HC144_13 := Aside0.mk hl144_13
                  clear hi144_13 hl144_13
                  replace p144 := eq_true p144
                  replace q144 := eq_true q144
                  have ea_ := Option.some.inj (hx141_6.symm.trans hx144_6)
                  injection ea_ with ea_ en_ ec_
                  subst ea_
                  subst ec_
                  clear en_
                  have ea_ := Option.some.inj (hx141_9.symm.trans hx144_9)
                  injection ea_ with ea_ en_ ec_
                  subst ea_
                  subst ec_
                  clear en_
                  have ea_ := Option.some.inj (hx141_13.symm.trans hx144_13)
                  injection ea_ with ea_ en_ ec_
                  subst ea_
                  subst ec_
                  clear en_
                  go_wp2
                  go_ret
                  exact ⟨sd_, by repeat (first | exact Drawn0.refl _ | apply Drawn0.step)⟩
              · rw [if_neg c7] at H
                have c7b0 : (((rd_T136 l0 x5_1).f2) == (wrap64 ((wrap64 (x1_1 + 1)) + 1))) = false := beq_eq_false_iff_ne.mpr c7
                have c7b1 : (((rd_T136 l0 x5_1).f2) != (wrap64 ((wrap64 (x1_1 + 1)) + 1))) = true := bne_iff_ne.mpr c7
                obtain rfl := Option.some.inj H
                have p141 : 0 ≤ (x5_1 : Int) := of_decide_eq_true as_
                have q141 : x5_1 < (l0.length : Int) := of_decide_eq_true as_
                obtain ⟨ad141, A141_6, c141_6, A141_9, c141_9, A141_13, c141_13, e141, hx141_0, hx141_1, hx141_2, hx141_3, hx141_4, hx141_5, hx141_6, hx141_7, hx141_8, hx141_9, hx141_10, hx141_11, hx141_12, hx141_13, hl141_6, hi141_6, hl141_9, hi141_9, hl141_13, hi141_13⟩ := at_T136 HR0.out x5_1 p141 q141
                cases e141
                have HR141_6 := Aside0.mk hi141_6
                have HC141_6 := Aside0.mk hl141_6
                clear hi141_6 hl141_6
                have HR141_9 := Aside0.mk hi141_9
                have HC141_9 := Aside0.mk hl141_9
                clear hi141_9 hl141_9
                have HR141_13 := Aside0.mk hi141_13
                have HC141_13 := Aside0.mk hl141_13
                clear hi141_13 hl141_13
                replace p141 := eq_true p141
                replace q141 := eq_true q141
                have p142 : 0 ≤ (x5_1 : Int) := of_decide_eq_true as_
                have q142 : x5_1 < (l0.length : Int) := of_decide_eq_true as_
                obtain ⟨ad142, A142_6, c142_6, A142_9, c142_9, A142_13, c142_13, e142, hx142_0, hx142_1, hx142_2, hx142_3, hx142_4, hx142_5, hx142_6, hx142_7, hx142_8, hx142_9, hx142_10, hx142_11, hx142_12, hx142_13, hl142_6, hi142_6, hl142_9, hi142_9, hl142_13, hi142_13⟩ := at_T136 HR0.out x5_1 p142 q142
                obtain rfl : ad141 = ad142 := (by injection e142)
                have HR142_6 := Aside0.mk hi142_6
                have HC142_6 := Aside0.mk hl142_6
                clear hi142_6 hl142_6
                have HR142_9 := Aside0.mk hi142_9
                have HC142_9 := Aside0.mk hl142_9
                clear hi142_9 hl142_9
                have HR142_13 := Aside0.mk hi142_13
                have HC142_13 := Aside0.mk hl142_13
                clear hi142_13 hl142_13
                replace p142 := eq_true p142
                replace q142 := eq_true q142
                have ea_ := Option.some.inj (hx141_6.symm.trans hx142_6)
                injection ea_ with ea_ en_ ec_
                subst ea_
                subst ec_
                clear en_
                have ea_ := Option.some.inj (hx141_9.symm.trans hx142_9)
                injection ea_ with ea_ en_ ec_
                subst ea_
                subst ec_
                clear en_
                have ea_ := Option.some.inj (hx141_13.symm.trans hx142_13)
                injection ea_ with ea_ en_ ec_
                subst ea_
                subst ec_
                clear en_
                have p143 : 0 ≤ (x5_1 : Int) := of_decide_eq_true as_
                have q143 : x5_1 < (l0.length : Int) := of_decide_eq_true as_
                obtain ⟨ad143, A143_6, c143_6, A143_9, c143_9, A143_13, c143_13, e143, hx143_0, hx143_1, hx143_2, hx143_3, hx143_4, hx143_5, hx143_6, hx143_7, hx143_8, hx143_9, hx143_10, hx143_11, hx143_12, hx143_13, hl143_6, hi143_6, hl143_9, hi143_9, hl143_13, hi143_13⟩ := at_T136 HR0.out x5_1 p143 q143
                obtain rfl : ad141 = ad143 := (by injection e143)
                have HR143_6 := Aside0.mk hi143_6
                have HC143_6 := Aside0.mk hl143_6
                clear hi143_6 hl143_6
                have HR143_9 := Aside0.mk hi143_9
                have HC143_9 := Aside0.mk hl143_9
                clear hi143_9 hl143_9
                have HR143_13 := Aside0.mk hi143_13
                have HC143_13 := Aside0.mk hl143_13
                clear hi143_13 hl143_13
                replace p143 := eq_true p143
                replace q143 := eq_true q143
                have ea_ := Option.some.inj (hx141_6.symm.trans hx143_6)
                injection ea_ with ea_ en_ ec_
                subst ea_
                subst ec_
                clear en_
                have ea_ := Option.some.inj (hx141_9.symm.trans hx143_9)
                injection ea_ with ea_ en_ ec_
                subst ea_
                subst ec_
                clear en_
                have ea_ := Option.some.inj (hx141_13.symm.trans hx143_13)
                injection ea_ with ea_ en_ ec_
                subst ea_
                subst ec_
                clear en_
                go_wp2
                go_ret
                exact ⟨sd_, by repeat (first | exact Drawn0.refl _ | apply Drawn0.step)⟩
            · rw [if_neg c6] at H
              have c6b0 : (((rd_T136 l0 x5_1).f1) == (wrap64 (x1_1 + 1))) = false := beq_eq_false_iff_ne.mpr c6
              have c6b1 : (((rd_T136 l0 x5_1).f1) != (wrap64 (x1_1 + 1))) = true := bne_iff_ne.mpr c6
              obtain rfl := Option.some.inj H
              have p141 : 0 ≤ (x5_1 : Int) := of_decide_eq_true as_
              have q141 : x5_1 < (l0.length : Int) := of_decide_eq_true as_
              obtain ⟨ad141, A141_6, c141_6, A141_9, c141_9, A141_13, c141_13, e141, hx141_0, hx141_1, hx141_2, hx141_3, hx141_4, hx141_5, hx141_6, hx141_7, hx141_8, hx141_9, hx141_10, hx141_11, hx141_12, hx141_13, hl141_6, hi141_6, hl141_9, hi141_9, hl141_13, hi141_13⟩ := at_T136 HR0.out x5_1 p141 q141
              cases e141
              have HR141_6 := Aside0.mk hi141_6
              have HC141_6 := Aside0.mk hl141_6
              clear hi141_6 hl141_6
              have HR141_9 := Aside0.mk hi141_9
              have HC141_9 := Aside0.mk hl141_9
              clear hi141_9 hl141_9
              have HR141_13 := Aside0.mk hi141_13
              have HC141_13 := Aside0.mk hl141_13
              clear hi141_13 hl141_13
              replace p141 := eq_true p141
              replace q141 := eq_true q141
              have p142 : 0 ≤ (x5_1 : Int) := of_decide_eq_true as_
              have q142 : x5_1 < (l0.length : Int) := of_decide_eq_true as_
              obtain ⟨ad142, A142_6, c142_6, A142_9, c142_9, A142_13, c142_13, e142, hx142_0, hx142_1, hx142_2, hx142_3, hx142_4, hx142_5, hx142_6, hx142_7, hx142_8, hx142_9, hx142_10, hx142_11, hx142_12, hx142_13, hl142_6, hi142_6, hl142_9, hi142_9, hl142_13, hi142_13⟩ := at_T136 HR0.out x5_1 p142 q142
              obtain rfl : ad141 = ad142 := (by injection e142)
              have HR142_6 := Aside0.mk hi142_6
              have HC142_6 := Aside0.mk hl142_6
              clear hi142_6 hl142_6
              have HR142_9 := Aside0.mk hi142_9
              have HC142_9 := Aside0.mk hl142_9
              clear hi142_9 hl142_9
              have HR142_13 := Aside0.mk hi142_13
              have HC142_13 := Aside0.mk hl142_13
              clear hi142_13 hl142_13
              replace p142 := eq_true p142
              replace q142 := eq_true q142
              have ea_ := Option.some.inj (hx141_6.symm.trans hx142_6)
              injection ea_ with ea_ en_ ec_
              subst ea_
              subst ec_
              clear en_
              have ea_ := Option.some.inj (hx141_9.symm.trans hx142_9)
              injection ea_ with ea_ en_ ec_
              subst ea_
              subst ec_
              clear en_
              have ea_ := Option.some.inj (hx141_13.symm.trans hx142_13)
              injection ea_ with ea_ en_ ec_
              subst ea_
              subst ec_
              clear en_
              go_wp2
              go_ret
              exact ⟨sd_, by repeat (first | exact Drawn0.refl _ | apply Drawn0.step)⟩
          · rw [if_neg c5] at H
            have c5b0 : (((rd_T136 l0 x5_1).f0) == x1_1) = false := beq_eq_false_iff_ne.mpr c5
            have c5b1 : (((rd_T136 l0 x5_1).f0) != x1_1) = true := bne_iff_ne.mpr c5
            obtain rfl := Option.some.inj H
            have p141 : 0 ≤ (x5_1 : Int) := of_decide_eq_true as_
            have q141 : x5_1 < (l0.length : Int) := of_decide_eq_true as_
            obtain ⟨ad141, A141_6, c141_6, A141_9, c141_9, A141_13, c141_13, e141, hx141_0, hx141_1, hx141_2, hx141_3, hx141_4, hx141_5, hx141_6, hx141_7, hx141_8, hx141_9, hx141_10, hx141_11, hx141_12, hx141_13, hl141_6, hi141_6, hl141_9, hi141_9, hl141_13, hi141_13⟩ := at_T136 HR0.out x5_1 p141 q141
            cases e141
            have HR141_6 := Aside0.mk hi141_6
            have HC141_6 := Aside0.mk hl141_6
            clear hi141_6 hl141_6
            have HR141_9 := Aside0.mk hi141_9
            have HC141_9 := Aside0.mk hl141_9
            clear hi141_9 hl141_9
            have HR141_13 := Aside0.mk hi141_13
            have HC141_13 := Aside0.mk hl141_13
            clear hi141_13 hl141_13
            replace p141 := eq_true p141
            replace q141 := eq_true q141
            go_wp2
            go_ret
            exact ⟨sd_, by repeat (first | exact Drawn0.refl _ | apply Drawn0.step)⟩
        · rw [if_neg c4] at H
          exact absurd H (by simp)
      · rw [if_neg c3] at H
        have c3b0 : decide (x5_1 < (l0.length : Int)) = false := decide_eq_false c3
        clear c3
        obtain rfl := Option.some.inj H
        go_wp2
        go_ret
        exact ⟨sd_, by repeat (first | exact Drawn0.refl _ | apply Drawn0.step)⟩
end Go.Proofs.Ythmkjapmnlhflaa.PFnExactTickSession
