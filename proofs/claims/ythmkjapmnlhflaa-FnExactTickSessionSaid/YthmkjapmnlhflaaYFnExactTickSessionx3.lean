/- The functions that the law FnExactTickSession reaches: each as a plain Lean function, with the proof that the call does what it says. -/
import Derived.Test.YthmkjapmnlhflaaYFnExactTickSessionx0
import Derived.Test.YthmkjapmnlhflaaYFnExactTickSessionx2
namespace Go.Proofs.Ythmkjapmnlhflaa.PFnExactTickSession
open Go.RowKit Go.Proofs.YthmkjapmnlhflaaW.PrintWords Go.Proofs.YthmkjapmnlhflaaW.PrintLast Go.Proofs.YthmkjapmnlhflaaW.PrintMore
attribute [local go_sem] max2_int min2_int max_two min_two max_three min_three max_four min_four
set_option linter.unusedVariables false
set_option linter.unusedSimpArgs false
def laws_eqInt64S.l0 : Nat → List Int → List Int → Int → Option (Bool)
  | 0, _, _, _ => none
  | k + 1, x0, x1, x5 => if x5 < (x0.length : Int) then (if 0 ≤ x5 then (if x5 < (x1.length : Int) then (if (rd x0 x5) = (rd x1 x5) then (laws_eqInt64S.l0 k x0 x1 (wrap64 (x5 + 1))) else (some false)) else (none)) else (none)) else (some true)
def laws_eqInt64S.f (k : Nat) (l0 : List Int) (l1 : List Int) : Option (Bool) := if (l0.length : Int) = (l1.length : Int) then (laws_eqInt64S.l0 k l0 l1 0) else (some false)
theorem laws_eqInt64S.mono_l : ∀ k, (∀ y0 y1 y2, LeO (laws_eqInt64S.l0 k y0 y1 y2) (laws_eqInt64S.l0 (k + 1) y0 y1 y2))
  | 0 => fun _ _ _ r h => by simp [laws_eqInt64S.l0] at h
  | k + 1 => by
    have ih0 := laws_eqInt64S.mono_l k
    · intro y0 y1 y2
      unfold laws_eqInt64S.l0
      repeat' first
      | (with_reducible exact ih0 _ _ _)
      | (with_reducible exact LeO.refl _)
      | (with_reducible exact LeO.none _)
      | (with_reducible refine LeO.ite ?_ ?_)
      | (with_reducible refine LeO.bind ?_ (fun _ => ?_))
      | exact ih0 _ _ _
      | exact LeO.none _
      | refine LeO.ite ?_ ?_
      | refine LeO.bind ?_ (fun _ => ?_)
theorem laws_eqInt64S.mono : ∀ a0 a1 k, LeO (laws_eqInt64S.f k a0 a1) (laws_eqInt64S.f (k + 1) a0 a1) := by
  intro a0 a1 k
  have ih0 := laws_eqInt64S.mono_l k
  unfold laws_eqInt64S.f
  repeat' first
      | (with_reducible exact ih0 _ _ _)
      | (with_reducible exact LeO.refl _)
      | (with_reducible exact LeO.none _)
      | (with_reducible refine LeO.ite ?_ ?_)
      | (with_reducible refine LeO.bind ?_ (fun _ => ?_))
      | exact ih0 _ _ _
      | exact LeO.none _
      | refine LeO.ite ?_ ?_
      | refine LeO.bind ?_ (fun _ => ?_)
set_option maxHeartbeats 8000000 in
set_option maxRecDepth 100000 in
theorem laws_eqInt64S.calls (k : Nat) (A0 : Option Addr) (c0 : Nat) (l0 : List Int) (A1 : Option Addr) (c1 : Nat) (l1 : List Int) (r : Bool) (w : World) (hr0 : Kd.C (Kd.int .i64) w A0 l0.length l0) (hc0 : l0.length ≤ c0) (hr1 : Kd.C (Kd.int .i64) w A1 l1.length l1) (hc1 : l1.length ≤ c1) (h : laws_eqInt64S.f k l0 l1 = some r) :
    Calls Try.prog 217 #[.slice A0 l0.length c0, .slice A1 l1.length c1] w fun e w' => e = .returned (.bool r) ∧ Drawn0 w w' := by
  have HR0 := Aside0.mk hr0
  have HC0 := Aside0.mk hc0
  clear hr0 hc0
  have HR1 := Aside0.mk hr1
  have HC1 := Aside0.mk hc1
  clear hr1 hc1
  have H : (if (l0.length : Int) = (l1.length : Int) then (laws_eqInt64S.l0 k l0 l1 0) else (some false)) = some r := h
  clear h
  by_cases c3 : (l0.length : Int) = (l1.length : Int)
  · rw [if_pos c3] at H
    have c3b0 : ((l0.length : Int) == (l1.length : Int)) = true := beq_iff_eq.mpr c3
    have c3b1 : ((l0.length : Int) != (l1.length : Int)) = false := bne_eq_false_iff_eq.mpr c3
    have c3b2 : (l0.length == l1.length) = true := by first | simpa using c3 | (simp at c3 ⊢; omega)
    clear c3
    have H' := Aside0.mk H
    clear H
    go_enter Try.func217, Try.ntmps217
    go_wp2
    repeat (go_quiet (fail); try go_wp2)
    go_loopg [5] k (fun kq v5 w' => ∃ (x5_1 : Int), v5 = .int .i64 x5_1 ∧ Aside0 (laws_eqInt64S.l0 kq l0 l1 x5_1 = some r) ∧ Aside0 (kq ≤ k) ∧ Drawn0 w w')
    case atStart => exact ⟨(0), sd_, H', ⟨Nat.le_refl _⟩, by repeat (first | exact Drawn0.refl _ | apply Drawn0.step)⟩
    case round =>
      clear H'
      try clear c1
      try clear c2
      try clear p2
      try clear c3
      try clear c3b0
      try clear c3b1
      try clear c3b2
      obtain ⟨x5_1, rfl, HA, HK1, ⟨m1, rfl⟩⟩ := hrel
      cases gk with
      | zero => exact absurd HA.out (by simp [laws_eqInt64S.l0])
      | succ k1 =>
        have H := HA.out
        clear HA
        simp only [laws_eqInt64S.l0] at H
        by_cases c4 : x5_1 < (l0.length : Int)
        · rw [if_pos c4] at H
          have c4b0 : decide (x5_1 < (l0.length : Int)) = true := decide_eq_true c4
          clear c4
          by_cases c5 : 0 ≤ x5_1
          · rw [if_pos c5] at H
            have c5b0 : decide (0 ≤ x5_1) = true := decide_eq_true c5
            clear c5
            by_cases c6 : x5_1 < (l1.length : Int)
            · rw [if_pos c6] at H
              have c6b0 : decide (x5_1 < (l1.length : Int)) = true := decide_eq_true c6
              clear c6
              by_cases c7 : (rd l0 x5_1) = (rd l1 x5_1)
              · rw [if_pos c7] at H
                have c7b0 : ((rd l0 x5_1) == (rd l1 x5_1)) = true := beq_iff_eq.mpr c7
                have c7b1 : ((rd l0 x5_1) != (rd l1 x5_1)) = false := bne_eq_false_iff_eq.mpr c7
                clear c7
                have H' := Aside0.mk H
                clear H
                have p114 : 0 ≤ (x5_1 : Int) := of_decide_eq_true as_
                have q114 : x5_1 < (l0.length : Int) := of_decide_eq_true as_
                obtain ⟨ad114, e114, hx114_0⟩ := Kd.at_int HR0.out x5_1 p114 q114
                cases e114
                replace p114 := eq_true p114
                replace q114 := eq_true q114
                have p115 : 0 ≤ (x5_1 : Int) := of_decide_eq_true as_
                have q115 : x5_1 < (l1.length : Int) := of_decide_eq_true as_
                obtain ⟨ad115, e115, hx115_0⟩ := Kd.at_int HR1.out x5_1 p115 q115
                cases e115
                replace p115 := eq_true p115
                replace q115 := eq_true q115
                go_wp2
                repeat (go_quiet (fail); try go_wp2)
                go_roundg k1
                case measure => have := HK1.out; omega
                case rel => exact ⟨(wrap64 (x5_1 + 1)), sd_, H', ⟨by have := HK1.out; omega⟩, by repeat (first | exact Drawn0.refl _ | apply Drawn0.step)⟩
              · rw [if_neg c7] at H
                have c7b0 : ((rd l0 x5_1) == (rd l1 x5_1)) = false := beq_eq_false_iff_ne.mpr c7
                have c7b1 : ((rd l0 x5_1) != (rd l1 x5_1)) = true := bne_iff_ne.mpr c7
                obtain rfl := Option.some.inj H
                have p114 : 0 ≤ (x5_1 : Int) := of_decide_eq_true as_
                have q114 : x5_1 < (l0.length : Int) := of_decide_eq_true as_
                obtain ⟨ad114, e114, hx114_0⟩ := Kd.at_int HR0.out x5_1 p114 q114
                cases e114
                replace p114 := eq_true p114
                replace q114 := eq_true q114
                have p115 : 0 ≤ (x5_1 : Int) := of_decide_eq_true as_
                have q115 : x5_1 < (l1.length : Int) := of_decide_eq_true as_
                obtain ⟨ad115, e115, hx115_0⟩ := Kd.at_int HR1.out x5_1 p115 q115
                cases e115
                replace p115 := eq_true p115
                replace q115 := eq_true q115
                go_wp2
                repeat (go_quiet (fail); try go_wp2)
                go_ret
                exact ⟨sd_, by repeat (first | exact Drawn0.refl _ | apply Drawn0.step)⟩
            · rw [if_neg c6] at H
              exact absurd H (by simp)
          · rw [if_neg c5] at H
            exact absurd H (by simp)
        · rw [if_neg c4] at H
          have c4b0 : decide (x5_1 < (l0.length : Int)) = false := decide_eq_false c4
          clear c4
          obtain rfl := Option.some.inj H
          go_wp2
          repeat (go_quiet (fail); try go_wp2)
          go_ret
          exact ⟨sd_, by repeat (first | exact Drawn0.refl _ | apply Drawn0.step)⟩
  · rw [if_neg c3] at H
    have c3b0 : ((l0.length : Int) == (l1.length : Int)) = false := beq_eq_false_iff_ne.mpr c3
    have c3b1 : ((l0.length : Int) != (l1.length : Int)) = true := bne_iff_ne.mpr c3
    have c3b2 : (l0.length == l1.length) = false := by first | simpa using c3 | (simp at c3 ⊢; omega)
    obtain rfl := Option.some.inj H
    go_enter Try.func217, Try.ntmps217
    go_wp2
    repeat (go_quiet (fail); try go_wp2)
    go_ret
    exact ⟨sd_, by repeat (first | exact Drawn0.refl _ | apply Drawn0.step)⟩
def laws_eqAttrs.f (k : Nat) (a0_0 : Int) (l0_1 : List Int) (a0_2 : Int) (a0_3 : Int) (a0_4 : Int) (a1_0 : Int) (l1_1 : List Int) (a1_2 : Int) (a1_3 : Int) (a1_4 : Int) : Option (Bool) := if a0_0 = a1_0 then ((laws_eqInt64S.f k l0_1 l1_1).bind fun t118 => (if t118 = true then (if a0_2 = a1_2 then (if a0_3 = a1_3 then (if a0_4 = a1_4 then (some true) else (some false)) else (some false)) else (some false)) else (some false))) else (some false)
theorem laws_eqAttrs.mono : ∀ a0 a1 a2 a3 a4 a5 a6 a7 a8 a9 k, LeO (laws_eqAttrs.f k a0 a1 a2 a3 a4 a5 a6 a7 a8 a9) (laws_eqAttrs.f (k + 1) a0 a1 a2 a3 a4 a5 a6 a7 a8 a9) := by
  intro a0 a1 a2 a3 a4 a5 a6 a7 a8 a9 k
  unfold laws_eqAttrs.f
  repeat' first
      | (with_reducible exact laws_eqInt64S.mono _ _ _)
      | (with_reducible exact LeO.refl _)
      | (with_reducible exact LeO.none _)
      | (with_reducible refine LeO.ite ?_ ?_)
      | (with_reducible refine LeO.bind ?_ (fun _ => ?_))
      | exact laws_eqInt64S.mono _ _ _
      | exact LeO.none _
      | refine LeO.ite ?_ ?_
      | refine LeO.bind ?_ (fun _ => ?_)
set_option maxHeartbeats 8000000 in
set_option maxRecDepth 100000 in
theorem laws_eqAttrs.calls (k : Nat) (a0_0 : Int) (A0_1 : Option Addr) (c0_1 : Nat) (l0_1 : List Int) (a0_2 : Int) (a0_3 : Int) (a0_4 : Int) (a1_0 : Int) (A1_1 : Option Addr) (c1_1 : Nat) (l1_1 : List Int) (a1_2 : Int) (a1_3 : Int) (a1_4 : Int) (r : Bool) (w : World) (hr0_1 : Kd.C (Kd.int .i64) w A0_1 l0_1.length l0_1) (hc0_1 : l0_1.length ≤ c0_1) (hr1_1 : Kd.C (Kd.int .i64) w A1_1 l1_1.length l1_1) (hc1_1 : l1_1.length ≤ c1_1) (h : laws_eqAttrs.f k a0_0 l0_1 a0_2 a0_3 a0_4 a1_0 l1_1 a1_2 a1_3 a1_4 = some r) :
    Calls Try.prog 203 #[.agg #[.int .i64 a0_0, .slice A0_1 l0_1.length c0_1, .int .i64 a0_2, .int .i64 a0_3, .int .i64 a0_4], .agg #[.int .i64 a1_0, .slice A1_1 l1_1.length c1_1, .int .i64 a1_2, .int .i64 a1_3, .int .i64 a1_4]] w fun e w' => e = .returned (.bool r) ∧ Below w.heap.size w w' := by
  have hu132 := Try.underlying132
  have HR0_1 := Aside0.mk hr0_1
  have HC0_1 := Aside0.mk hc0_1
  clear hr0_1 hc0_1
  have HR1_1 := Aside0.mk hr1_1
  have HC1_1 := Aside0.mk hc1_1
  clear hr1_1 hc1_1
  have HB := Aside0.mk (Below.refl w.heap.size w)
  have H : (if a0_0 = a1_0 then ((laws_eqInt64S.f k l0_1 l1_1).bind fun t118 => (if t118 = true then (if a0_2 = a1_2 then (if a0_3 = a1_3 then (if a0_4 = a1_4 then (some true) else (some false)) else (some false)) else (some false)) else (some false))) else (some false)) = some r := h
  clear h
  by_cases c3 : a0_0 = a1_0
  · rw [if_pos c3] at H
    have c3b0 : (a0_0 == a1_0) = true := beq_iff_eq.mpr c3
    have c3b1 : (a0_0 != a1_0) = false := bne_eq_false_iff_eq.mpr c3
    clear c3
    replace H := Option.bind_eq_some_iff.mp H
    obtain ⟨t118, A40, H⟩ := H
    replace H : (if t118 = true then (if a0_2 = a1_2 then (if a0_3 = a1_3 then (if a0_4 = a1_4 then (some true) else (some false)) else (some false)) else (some false)) else (some false)) = some r := H
    have A4 := Aside0.mk A40
    clear A40
    by_cases c5 : t118 = true
    · subst c5
      have H1 : (if a0_2 = a1_2 then (if a0_3 = a1_3 then (if a0_4 = a1_4 then (some true) else (some false)) else (some false)) else (some false)) = some r := by rw [if_pos rfl] at H; exact H
      clear H
      have H := H1
      clear H1
      by_cases c6 : a0_2 = a1_2
      · rw [if_pos c6] at H
        have c6b0 : (a0_2 == a1_2) = true := beq_iff_eq.mpr c6
        have c6b1 : (a0_2 != a1_2) = false := bne_eq_false_iff_eq.mpr c6
        clear c6
        by_cases c7 : a0_3 = a1_3
        · rw [if_pos c7] at H
          have c7b0 : (a0_3 == a1_3) = true := beq_iff_eq.mpr c7
          have c7b1 : (a0_3 != a1_3) = false := bne_eq_false_iff_eq.mpr c7
          clear c7
          by_cases c8 : a0_4 = a1_4
          · rw [if_pos c8] at H
            have c8b0 : (a0_4 == a1_4) = true := beq_iff_eq.mpr c8
            have c8b1 : (a0_4 != a1_4) = false := bne_eq_false_iff_eq.mpr c8
            clear c8
            obtain rfl := Option.some.inj H
            go_enter Try.func203, Try.ntmps203
            go_wp2_with (first | ((with_reducible refine gate_dst (N := 2) rfl ?_); refine box_e_ 2 #[.int .i64 a0_0, .slice A0_1 l0_1.length c0_1, .int .i64 a0_2, .int .i64 a0_3, .int .i64 a0_4] 132 ?_; intro gb116 hg w9 hbox hb; have BK116 := Aside0.mk (hbox); have GW116 := (bs_ hg : Aside0 (w.heap.size ≤ _)); have GE116 := (bs_ hg : Aside0 (w.heap.size ≤ _)); replace HB := Aside0.mk (below_step bb_ hb); clear hb hbox hg) | ((with_reducible refine gate_dst (N := 3) rfl ?_); refine box_e_ 3 #[.int .i64 a1_0, .slice A1_1 l1_1.length c1_1, .int .i64 a1_2, .int .i64 a1_3, .int .i64 a1_4] 132 ?_; intro gb117 hg w10 hbox hb; have BK117 := Aside0.mk (hbox); have GW117 := (bs_ hg : Aside0 (w.heap.size ≤ _)); have GE117 := (bs_ hg : Aside0 (w.heap.size ≤ _)); replace HB := Aside0.mk (below_step bb_ hb); have NB116_117 := (nl_ hg BK116 : Aside0 (gb116 ≠ gb117)); have NB117_116 := (nr_ hg BK116 : Aside0 (gb117 ≠ gb116)); replace BK116 := Aside0.mk (blk_below (kb_ BK116) hb); clear hb hbox hg; have hnb11 := NB116_117.out; have hnc11 := NB117_116.out; obtain ⟨hcz12_0, hcz12_1, hcz12_2, hcz12_3, hcz12_4, hfz12_0, hfz12_1, hfz12_2, hfz12_3, hfz12_4⟩ := cf5_ BK116; obtain ⟨hcz13_0, hcz13_1, hcz13_2, hcz13_3, hcz13_4, hfz13_0, hfz13_1, hfz13_2, hfz13_3, hfz13_4⟩ := cf5_ BK117) | ((with_reducible refine gate_callee (f := 217) rfl ?_); refine goe_ (some 14) Try.func217 #[.slice A0_1 l0_1.length c0_1, .slice A1_1 l1_1.length c1_1] ?_; (with_reducible refine (laws_eqInt64S.calls k _ _ l0_1 _ _ l1_1 true _ ?side1 ?side2 ?side3 ?side4 A4.out).mono ?_); (case side1 => exact kc_ (Kd.C_below HR0_1.out HB.out)); (case side2 => exact HC0_1.out); (case side3 => exact kc_ (Kd.C_below HR1_1.out HB.out)); (case side4 => exact HC1_1.out); rintro e w' ⟨rfl, ⟨nd, rfl⟩⟩; refine ⟨_, rfl, ?_⟩))
            go_ret
            exact ⟨er_, bb_⟩
          · rw [if_neg c8] at H
            have c8b0 : (a0_4 == a1_4) = false := beq_eq_false_iff_ne.mpr c8
            have c8b1 : (a0_4 != a1_4) = true := bne_iff_ne.mpr c8
            obtain rfl := Option.some.inj H
            go_enter Try.func203, Try.ntmps203
            go_wp2_with (first | ((with_reducible refine gate_dst (N := 2) rfl ?_); refine box_e_ 2 #[.int .i64 a0_0, .slice A0_1 l0_1.length c0_1, .int .i64 a0_2, .int .i64 a0_3, .int .i64 a0_4] 132 ?_; intro gb116 hg w14 hbox hb; have BK116 := Aside0.mk (hbox); have GW116 := (bs_ hg : Aside0 (w.heap.size ≤ _)); have GE116 := (bs_ hg : Aside0 (w.heap.size ≤ _)); replace HB := Aside0.mk (below_step bb_ hb); clear hb hbox hg) | ((with_reducible refine gate_dst (N := 3) rfl ?_); refine box_e_ 3 #[.int .i64 a1_0, .slice A1_1 l1_1.length c1_1, .int .i64 a1_2, .int .i64 a1_3, .int .i64 a1_4] 132 ?_; intro gb117 hg w15 hbox hb; have BK117 := Aside0.mk (hbox); have GW117 := (bs_ hg : Aside0 (w.heap.size ≤ _)); have GE117 := (bs_ hg : Aside0 (w.heap.size ≤ _)); replace HB := Aside0.mk (below_step bb_ hb); have NB116_117 := (nl_ hg BK116 : Aside0 (gb116 ≠ gb117)); have NB117_116 := (nr_ hg BK116 : Aside0 (gb117 ≠ gb116)); replace BK116 := Aside0.mk (blk_below (kb_ BK116) hb); clear hb hbox hg; have hnb16 := NB116_117.out; have hnc16 := NB117_116.out; obtain ⟨hcz17_0, hcz17_1, hcz17_2, hcz17_3, hcz17_4, hfz17_0, hfz17_1, hfz17_2, hfz17_3, hfz17_4⟩ := cf5_ BK116; obtain ⟨hcz18_0, hcz18_1, hcz18_2, hcz18_3, hcz18_4, hfz18_0, hfz18_1, hfz18_2, hfz18_3, hfz18_4⟩ := cf5_ BK117) | ((with_reducible refine gate_callee (f := 217) rfl ?_); refine goe_ (some 14) Try.func217 #[.slice A0_1 l0_1.length c0_1, .slice A1_1 l1_1.length c1_1] ?_; (with_reducible refine (laws_eqInt64S.calls k _ _ l0_1 _ _ l1_1 true _ ?side1 ?side2 ?side3 ?side4 A4.out).mono ?_); (case side1 => exact kc_ (Kd.C_below HR0_1.out HB.out)); (case side2 => exact HC0_1.out); (case side3 => exact kc_ (Kd.C_below HR1_1.out HB.out)); (case side4 => exact HC1_1.out); rintro e w' ⟨rfl, ⟨nd, rfl⟩⟩; refine ⟨_, rfl, ?_⟩))
            go_ret
            exact ⟨er_, bb_⟩
        · rw [if_neg c7] at H
          have c7b0 : (a0_3 == a1_3) = false := beq_eq_false_iff_ne.mpr c7
          have c7b1 : (a0_3 != a1_3) = true := bne_iff_ne.mpr c7
          obtain rfl := Option.some.inj H
          go_enter Try.func203, Try.ntmps203
          go_wp2_with (first | ((with_reducible refine gate_dst (N := 2) rfl ?_); refine box_e_ 2 #[.int .i64 a0_0, .slice A0_1 l0_1.length c0_1, .int .i64 a0_2, .int .i64 a0_3, .int .i64 a0_4] 132 ?_; intro gb116 hg w19 hbox hb; have BK116 := Aside0.mk (hbox); have GW116 := (bs_ hg : Aside0 (w.heap.size ≤ _)); have GE116 := (bs_ hg : Aside0 (w.heap.size ≤ _)); replace HB := Aside0.mk (below_step bb_ hb); clear hb hbox hg) | ((with_reducible refine gate_dst (N := 3) rfl ?_); refine box_e_ 3 #[.int .i64 a1_0, .slice A1_1 l1_1.length c1_1, .int .i64 a1_2, .int .i64 a1_3, .int .i64 a1_4] 132 ?_; intro gb117 hg w20 hbox hb; have BK117 := Aside0.mk (hbox); have GW117 := (bs_ hg : Aside0 (w.heap.size ≤ _)); have GE117 := (bs_ hg : Aside0 (w.heap.size ≤ _)); replace HB := Aside0.mk (below_step bb_ hb); have NB116_117 := (nl_ hg BK116 : Aside0 (gb116 ≠ gb117)); have NB117_116 := (nr_ hg BK116 : Aside0 (gb117 ≠ gb116)); replace BK116 := Aside0.mk (blk_below (kb_ BK116) hb); clear hb hbox hg; have hnb21 := NB116_117.out; have hnc21 := NB117_116.out; obtain ⟨hcz22_0, hcz22_1, hcz22_2, hcz22_3, hcz22_4, hfz22_0, hfz22_1, hfz22_2, hfz22_3, hfz22_4⟩ := cf5_ BK116; obtain ⟨hcz23_0, hcz23_1, hcz23_2, hcz23_3, hcz23_4, hfz23_0, hfz23_1, hfz23_2, hfz23_3, hfz23_4⟩ := cf5_ BK117) | ((with_reducible refine gate_callee (f := 217) rfl ?_); refine goe_ (some 14) Try.func217 #[.slice A0_1 l0_1.length c0_1, .slice A1_1 l1_1.length c1_1] ?_; (with_reducible refine (laws_eqInt64S.calls k _ _ l0_1 _ _ l1_1 true _ ?side1 ?side2 ?side3 ?side4 A4.out).mono ?_); (case side1 => exact kc_ (Kd.C_below HR0_1.out HB.out)); (case side2 => exact HC0_1.out); (case side3 => exact kc_ (Kd.C_below HR1_1.out HB.out)); (case side4 => exact HC1_1.out); rintro e w' ⟨rfl, ⟨nd, rfl⟩⟩; refine ⟨_, rfl, ?_⟩))
          go_ret
          exact ⟨er_, bb_⟩
      · rw [if_neg c6] at H
        have c6b0 : (a0_2 == a1_2) = false := beq_eq_false_iff_ne.mpr c6
        have c6b1 : (a0_2 != a1_2) = true := bne_iff_ne.mpr c6
        obtain rfl := Option.some.inj H
        go_enter Try.func203, Try.ntmps203
        go_wp2_with (first | ((with_reducible refine gate_dst (N := 2) rfl ?_); refine box_e_ 2 #[.int .i64 a0_0, .slice A0_1 l0_1.length c0_1, .int .i64 a0_2, .int .i64 a0_3, .int .i64 a0_4] 132 ?_; intro gb116 hg w24 hbox hb; have BK116 := Aside0.mk (hbox); have GW116 := (bs_ hg : Aside0 (w.heap.size ≤ _)); have GE116 := (bs_ hg : Aside0 (w.heap.size ≤ _)); replace HB := Aside0.mk (below_step bb_ hb); clear hb hbox hg) | ((with_reducible refine gate_dst (N := 3) rfl ?_); refine box_e_ 3 #[.int .i64 a1_0, .slice A1_1 l1_1.length c1_1, .int .i64 a1_2, .int .i64 a1_3, .int .i64 a1_4] 132 ?_; intro gb117 hg w25 hbox hb; have BK117 := Aside0.mk (hbox); have GW117 := (bs_ hg : Aside0 (w.heap.size ≤ _)); have GE117 := (bs_ hg : Aside0 (w.heap.size ≤ _)); replace HB := Aside0.mk (below_step bb_ hb); have NB116_117 := (nl_ hg BK116 : Aside0 (gb116 ≠ gb117)); have NB117_116 := (nr_ hg BK116 : Aside0 (gb117 ≠ gb116)); replace BK116 := Aside0.mk (blk_below (kb_ BK116) hb); clear hb hbox hg; have hnb26 := NB116_117.out; have hnc26 := NB117_116.out; obtain ⟨hcz27_0, hcz27_1, hcz27_2, hcz27_3, hcz27_4, hfz27_0, hfz27_1, hfz27_2, hfz27_3, hfz27_4⟩ := cf5_ BK116; obtain ⟨hcz28_0, hcz28_1, hcz28_2, hcz28_3, hcz28_4, hfz28_0, hfz28_1, hfz28_2, hfz28_3, hfz28_4⟩ := cf5_ BK117) | ((with_reducible refine gate_callee (f := 217) rfl ?_); refine goe_ (some 14) Try.func217 #[.slice A0_1 l0_1.length c0_1, .slice A1_1 l1_1.length c1_1] ?_; (with_reducible refine (laws_eqInt64S.calls k _ _ l0_1 _ _ l1_1 true _ ?side1 ?side2 ?side3 ?side4 A4.out).mono ?_); (case side1 => exact kc_ (Kd.C_below HR0_1.out HB.out)); (case side2 => exact HC0_1.out); (case side3 => exact kc_ (Kd.C_below HR1_1.out HB.out)); (case side4 => exact HC1_1.out); rintro e w' ⟨rfl, ⟨nd, rfl⟩⟩; refine ⟨_, rfl, ?_⟩))
        go_ret
        exact ⟨er_, bb_⟩
    · replace c5 := Bool.eq_false_iff.mpr c5
      subst c5
      have H1 : (some false) = some r := by rw [if_neg (show ¬ (false = true) by decide)] at H; exact H
      clear H
      have H := H1
      clear H1
      obtain rfl := Option.some.inj H
      go_enter Try.func203, Try.ntmps203
      go_wp2_with (first | ((with_reducible refine gate_dst (N := 2) rfl ?_); refine box_e_ 2 #[.int .i64 a0_0, .slice A0_1 l0_1.length c0_1, .int .i64 a0_2, .int .i64 a0_3, .int .i64 a0_4] 132 ?_; intro gb116 hg w29 hbox hb; have BK116 := Aside0.mk (hbox); have GW116 := (bs_ hg : Aside0 (w.heap.size ≤ _)); have GE116 := (bs_ hg : Aside0 (w.heap.size ≤ _)); replace HB := Aside0.mk (below_step bb_ hb); clear hb hbox hg) | ((with_reducible refine gate_dst (N := 3) rfl ?_); refine box_e_ 3 #[.int .i64 a1_0, .slice A1_1 l1_1.length c1_1, .int .i64 a1_2, .int .i64 a1_3, .int .i64 a1_4] 132 ?_; intro gb117 hg w30 hbox hb; have BK117 := Aside0.mk (hbox); have GW117 := (bs_ hg : Aside0 (w.heap.size ≤ _)); have GE117 := (bs_ hg : Aside0 (w.heap.size ≤ _)); replace HB := Aside0.mk (below_step bb_ hb); have NB116_117 := (nl_ hg BK116 : Aside0 (gb116 ≠ gb117)); have NB117_116 := (nr_ hg BK116 : Aside0 (gb117 ≠ gb116)); replace BK116 := Aside0.mk (blk_below (kb_ BK116) hb); clear hb hbox hg; have hnb31 := NB116_117.out; have hnc31 := NB117_116.out; obtain ⟨hcz32_0, hcz32_1, hcz32_2, hcz32_3, hcz32_4, hfz32_0, hfz32_1, hfz32_2, hfz32_3, hfz32_4⟩ := cf5_ BK116; obtain ⟨hcz33_0, hcz33_1, hcz33_2, hcz33_3, hcz33_4, hfz33_0, hfz33_1, hfz33_2, hfz33_3, hfz33_4⟩ := cf5_ BK117) | ((with_reducible refine gate_callee (f := 217) rfl ?_); refine goe_ (some 14) Try.func217 #[.slice A0_1 l0_1.length c0_1, .slice A1_1 l1_1.length c1_1] ?_; (with_reducible refine (laws_eqInt64S.calls k _ _ l0_1 _ _ l1_1 false _ ?side1 ?side2 ?side3 ?side4 A4.out).mono ?_); (case side1 => exact kc_ (Kd.C_below HR0_1.out HB.out)); (case side2 => exact HC0_1.out); (case side3 => exact kc_ (Kd.C_below HR1_1.out HB.out)); (case side4 => exact HC1_1.out); rintro e w' ⟨rfl, ⟨nd, rfl⟩⟩; refine ⟨_, rfl, ?_⟩))
      go_ret
      exact ⟨er_, bb_⟩
  · rw [if_neg c3] at H
    have c3b0 : (a0_0 == a1_0) = false := beq_eq_false_iff_ne.mpr c3
    have c3b1 : (a0_0 != a1_0) = true := bne_iff_ne.mpr c3
    obtain rfl := Option.some.inj H
    go_enter Try.func203, Try.ntmps203
    go_wp2_with (first | ((with_reducible refine gate_dst (N := 2) rfl ?_); refine box_e_ 2 #[.int .i64 a0_0, .slice A0_1 l0_1.length c0_1, .int .i64 a0_2, .int .i64 a0_3, .int .i64 a0_4] 132 ?_; intro gb116 hg w34 hbox hb; have BK116 := Aside0.mk (hbox); have GW116 := (bs_ hg : Aside0 (w.heap.size ≤ _)); have GE116 := (bs_ hg : Aside0 (w.heap.size ≤ _)); replace HB := Aside0.mk (below_step bb_ hb); clear hb hbox hg) | ((with_reducible refine gate_dst (N := 3) rfl ?_); refine box_e_ 3 #[.int .i64 a1_0, .slice A1_1 l1_1.length c1_1, .int .i64 a1_2, .int .i64 a1_3, .int .i64 a1_4] 132 ?_; intro gb117 hg w35 hbox hb; have BK117 := Aside0.mk (hbox); have GW117 := (bs_ hg : Aside0 (w.heap.size ≤ _)); have GE117 := (bs_ hg : Aside0 (w.heap.size ≤ _)); replace HB := Aside0.mk (below_step bb_ hb); have NB116_117 := (nl_ hg BK116 : Aside0 (gb116 ≠ gb117)); have NB117_116 := (nr_ hg BK116 : Aside0 (gb117 ≠ gb116)); replace BK116 := Aside0.mk (blk_below (kb_ BK116) hb); clear hb hbox hg; have hnb36 := NB116_117.out; have hnc36 := NB117_116.out; obtain ⟨hcz37_0, hcz37_1, hcz37_2, hcz37_3, hcz37_4, hfz37_0, hfz37_1, hfz37_2, hfz37_3, hfz37_4⟩ := cf5_ BK116; obtain ⟨hcz38_0, hcz38_1, hcz38_2, hcz38_3, hcz38_4, hfz38_0, hfz38_1, hfz38_2, hfz38_3, hfz38_4⟩ := cf5_ BK117))
    go_ret
    exact ⟨er_, bb_⟩
def laws_eqUpdate.f (k : Nat) (l0_0 : List (S167)) (a0_1 : Bool) (a0_2 : Int) (l0_3 : List Int) (a0_4 : Int) (a0_5 : Int) (a0_6 : Int) (l0_7 : List (S167)) (l1_0 : List (S167)) (a1_1 : Bool) (a1_2 : Int) (l1_3 : List Int) (a1_4 : Int) (a1_5 : Int) (a1_6 : Int) (l1_7 : List (S167)) : Option (Bool) := (laws_eqPrefixS.f k l0_0 l1_0).bind fun t121 => (if t121 = true then (if (a0_1 != a1_1) = true then (some false) else ((laws_eqAttrs.f k a0_2 l0_3 a0_4 a0_5 a0_6 a1_2 l1_3 a1_4 a1_5 a1_6).bind fun t122 => (if t122 = true then ((laws_eqPrefixS.f k l0_7 l1_7).bind fun t123 => (if t123 = true then (some true) else (some false))) else (some false)))) else (some false))
theorem laws_eqUpdate.mono : ∀ a0 a1 a2 a3 a4 a5 a6 a7 a8 a9 a10 a11 a12 a13 a14 a15 k, LeO (laws_eqUpdate.f k a0 a1 a2 a3 a4 a5 a6 a7 a8 a9 a10 a11 a12 a13 a14 a15) (laws_eqUpdate.f (k + 1) a0 a1 a2 a3 a4 a5 a6 a7 a8 a9 a10 a11 a12 a13 a14 a15) := by
  intro a0 a1 a2 a3 a4 a5 a6 a7 a8 a9 a10 a11 a12 a13 a14 a15 k
  unfold laws_eqUpdate.f
  repeat' first
      | (with_reducible exact laws_eqAttrs.mono _ _ _ _ _ _ _ _ _ _ _)
      | (with_reducible exact laws_eqPrefixS.mono _ _ _)
      | (with_reducible exact LeO.refl _)
      | (with_reducible exact LeO.none _)
      | (with_reducible refine LeO.ite ?_ ?_)
      | (with_reducible refine LeO.bind ?_ (fun _ => ?_))
      | exact laws_eqAttrs.mono _ _ _ _ _ _ _ _ _ _ _
      | exact laws_eqPrefixS.mono _ _ _
      | exact LeO.none _
      | refine LeO.ite ?_ ?_
      | refine LeO.bind ?_ (fun _ => ?_)
set_option maxHeartbeats 8000000 in
set_option maxRecDepth 100000 in
theorem laws_eqUpdate.calls (k : Nat) (A0_0 : Option Addr) (c0_0 : Nat) (l0_0 : List (S167)) (a0_1 : Bool) (a0_2 : Int) (A0_3 : Option Addr) (c0_3 : Nat) (l0_3 : List Int) (a0_4 : Int) (a0_5 : Int) (a0_6 : Int) (A0_7 : Option Addr) (c0_7 : Nat) (l0_7 : List (S167)) (A1_0 : Option Addr) (c1_0 : Nat) (l1_0 : List (S167)) (a1_1 : Bool) (a1_2 : Int) (A1_3 : Option Addr) (c1_3 : Nat) (l1_3 : List Int) (a1_4 : Int) (a1_5 : Int) (a1_6 : Int) (A1_7 : Option Addr) (c1_7 : Nat) (l1_7 : List (S167)) (r : Bool) (w : World) (hr0_0 : Kd.C k167 w A0_0 l0_0.length l0_0) (hc0_0 : l0_0.length ≤ c0_0) (hr0_3 : Kd.C (Kd.int .i64) w A0_3 l0_3.length l0_3) (hc0_3 : l0_3.length ≤ c0_3) (hr0_7 : Kd.C k167 w A0_7 l0_7.length l0_7) (hc0_7 : l0_7.length ≤ c0_7) (hr1_0 : Kd.C k167 w A1_0 l1_0.length l1_0) (hc1_0 : l1_0.length ≤ c1_0) (hr1_3 : Kd.C (Kd.int .i64) w A1_3 l1_3.length l1_3) (hc1_3 : l1_3.length ≤ c1_3) (hr1_7 : Kd.C k167 w A1_7 l1_7.length l1_7) (hc1_7 : l1_7.length ≤ c1_7) (h : laws_eqUpdate.f k l0_0 a0_1 a0_2 l0_3 a0_4 a0_5 a0_6 l0_7 l1_0 a1_1 a1_2 l1_3 a1_4 a1_5 a1_6 l1_7 = some r) :
    Calls Try.prog 189 #[.agg #[.slice A0_0 l0_0.length c0_0, .bool a0_1, .int .i64 a0_2, .slice A0_3 l0_3.length c0_3, .int .i64 a0_4, .int .i64 a0_5, .int .i64 a0_6, .slice A0_7 l0_7.length c0_7], .agg #[.slice A1_0 l1_0.length c1_0, .bool a1_1, .int .i64 a1_2, .slice A1_3 l1_3.length c1_3, .int .i64 a1_4, .int .i64 a1_5, .int .i64 a1_6, .slice A1_7 l1_7.length c1_7]] w fun e w' => e = .returned (.bool r) ∧ Below w.heap.size w w' := by
  have hu134 := Try.underlying134
  have hu132 := Try.underlying132
  have HR0_0 := Aside0.mk hr0_0
  have HC0_0 := Aside0.mk hc0_0
  clear hr0_0 hc0_0
  have HR0_3 := Aside0.mk hr0_3
  have HC0_3 := Aside0.mk hc0_3
  clear hr0_3 hc0_3
  have HR0_7 := Aside0.mk hr0_7
  have HC0_7 := Aside0.mk hc0_7
  clear hr0_7 hc0_7
  have HR1_0 := Aside0.mk hr1_0
  have HC1_0 := Aside0.mk hc1_0
  clear hr1_0 hc1_0
  have HR1_3 := Aside0.mk hr1_3
  have HC1_3 := Aside0.mk hc1_3
  clear hr1_3 hc1_3
  have HR1_7 := Aside0.mk hr1_7
  have HC1_7 := Aside0.mk hc1_7
  clear hr1_7 hc1_7
  have HB := Aside0.mk (Below.refl w.heap.size w)
  have H : ((laws_eqPrefixS.f k l0_0 l1_0).bind fun t121 => (if t121 = true then (if (a0_1 != a1_1) = true then (some false) else ((laws_eqAttrs.f k a0_2 l0_3 a0_4 a0_5 a0_6 a1_2 l1_3 a1_4 a1_5 a1_6).bind fun t122 => (if t122 = true then ((laws_eqPrefixS.f k l0_7 l1_7).bind fun t123 => (if t123 = true then (some true) else (some false))) else (some false)))) else (some false))) = some r := h
  clear h
  replace H := Option.bind_eq_some_iff.mp H
  obtain ⟨t121, A30, H⟩ := H
  replace H : (if t121 = true then (if (a0_1 != a1_1) = true then (some false) else ((laws_eqAttrs.f k a0_2 l0_3 a0_4 a0_5 a0_6 a1_2 l1_3 a1_4 a1_5 a1_6).bind fun t122 => (if t122 = true then ((laws_eqPrefixS.f k l0_7 l1_7).bind fun t123 => (if t123 = true then (some true) else (some false))) else (some false)))) else (some false)) = some r := H
  have A3 := Aside0.mk A30
  clear A30
  by_cases c4 : t121 = true
  · subst c4
    have H1 : (if (a0_1 != a1_1) = true then (some false) else ((laws_eqAttrs.f k a0_2 l0_3 a0_4 a0_5 a0_6 a1_2 l1_3 a1_4 a1_5 a1_6).bind fun t122 => (if t122 = true then ((laws_eqPrefixS.f k l0_7 l1_7).bind fun t123 => (if t123 = true then (some true) else (some false))) else (some false)))) = some r := by rw [if_pos rfl] at H; exact H
    clear H
    have H := H1
    clear H1
    by_cases c5 : (a0_1 != a1_1) = true
    · rw [if_pos c5] at H
      have c5b0 : (a0_1 != a1_1) = true := c5
      (try (have c5b1 : decide (a0_1 = a1_1) = false := by simpa using c5))
      (try (have c5b2 : (a0_1 == a1_1) = false := by simpa using c5))
      (try (have c5b3 : ¬ (a0_1 = a1_1) := by simpa using c5))
      clear c5
      obtain rfl := Option.some.inj H
      go_enter Try.func189, Try.ntmps189
      go_wp2_with (first | ((with_reducible refine gate_dst (N := 2) rfl ?_); refine box_e_ 2 #[.slice A0_0 l0_0.length c0_0, .bool a0_1, .int .i64 a0_2, .slice A0_3 l0_3.length c0_3, .int .i64 a0_4, .int .i64 a0_5, .int .i64 a0_6, .slice A0_7 l0_7.length c0_7] 134 ?_; intro gb119 hg w6 hbox hb; have BK119 := Aside0.mk (hbox); have GW119 := (bs_ hg : Aside0 (w.heap.size ≤ _)); have GE119 := (bs_ hg : Aside0 (w.heap.size ≤ _)); replace HB := Aside0.mk (below_step bb_ hb); clear hb hbox hg) | ((with_reducible refine gate_dst (N := 3) rfl ?_); refine box_e_ 3 #[.slice A1_0 l1_0.length c1_0, .bool a1_1, .int .i64 a1_2, .slice A1_3 l1_3.length c1_3, .int .i64 a1_4, .int .i64 a1_5, .int .i64 a1_6, .slice A1_7 l1_7.length c1_7] 134 ?_; intro gb120 hg w7 hbox hb; have BK120 := Aside0.mk (hbox); have GW120 := (bs_ hg : Aside0 (w.heap.size ≤ _)); have GE120 := (bs_ hg : Aside0 (w.heap.size ≤ _)); replace HB := Aside0.mk (below_step bb_ hb); have NB119_120 := (nl_ hg BK119 : Aside0 (gb119 ≠ gb120)); have NB120_119 := (nr_ hg BK119 : Aside0 (gb120 ≠ gb119)); replace BK119 := Aside0.mk (blk_below (kb_ BK119) hb); clear hb hbox hg; have hnb8 := NB119_120.out; have hnc8 := NB120_119.out; obtain ⟨hcz9_0, hcz9_1, hcz9_2, hcz9_3, hcz9_4, hcz9_5, hcz9_6, hcz9_7, hfz9_0, hfz9_1, hfz9_2, hfz9_3, hfz9_4, hfz9_5, hfz9_6, hfz9_7⟩ := cf8_ BK119; obtain ⟨hcz10_0, hcz10_1, hcz10_2, hcz10_3, hcz10_4, hcz10_5, hcz10_6, hcz10_7, hfz10_0, hfz10_1, hfz10_2, hfz10_3, hfz10_4, hfz10_5, hfz10_6, hfz10_7⟩ := cf8_ BK120) | ((with_reducible refine gate_callee (f := 64) rfl ?_); refine goe_ (some 9) Try.func64 #[.slice A0_0 l0_0.length c0_0, .slice A1_0 l1_0.length c1_0] ?_; (with_reducible refine (laws_eqPrefixS.calls k _ _ l0_0 _ _ l1_0 true _ ?side1 ?side2 ?side3 ?side4 A3.out).mono ?_); (case side1 => exact kc_ (Kd.C_below HR0_0.out HB.out)); (case side2 => exact HC0_0.out); (case side3 => exact kc_ (Kd.C_below HR1_0.out HB.out)); (case side4 => exact HC1_0.out); rintro e w11 ⟨rfl, hb⟩; refine ⟨_, rfl, ?_⟩; replace BK119 := Aside0.mk (blk_below (kb_ BK119) hb); replace BK120 := Aside0.mk (blk_below (kb_ BK120) hb); replace HB := Aside0.mk (below_step bb_ hb); (try clear hb); (try clear hb2); (try clear hk); (try clear hi); obtain ⟨hcz12_0, hcz12_1, hcz12_2, hcz12_3, hcz12_4, hcz12_5, hcz12_6, hcz12_7, hfz12_0, hfz12_1, hfz12_2, hfz12_3, hfz12_4, hfz12_5, hfz12_6, hfz12_7⟩ := cf8_ BK119; obtain ⟨hcz13_0, hcz13_1, hcz13_2, hcz13_3, hcz13_4, hcz13_5, hcz13_6, hcz13_7, hfz13_0, hfz13_1, hfz13_2, hfz13_3, hfz13_4, hfz13_5, hfz13_6, hfz13_7⟩ := cf8_ BK120))
      go_ret
      exact ⟨er_, bb_⟩
    · rw [if_neg c5] at H
      have c5b0 : (a0_1 != a1_1) = false := by simpa using c5
      (try (have c5b1 : decide (a0_1 = a1_1) = true := by simpa using c5))
      (try (have c5b2 : (a0_1 == a1_1) = true := by simpa using c5))
      clear c5
      replace H := Option.bind_eq_some_iff.mp H
      obtain ⟨t122, A140, H⟩ := H
      replace H : (if t122 = true then ((laws_eqPrefixS.f k l0_7 l1_7).bind fun t123 => (if t123 = true then (some true) else (some false))) else (some false)) = some r := H
      have A14 := Aside0.mk A140
      clear A140
      by_cases c15 : t122 = true
      · subst c15
        have H1 : ((laws_eqPrefixS.f k l0_7 l1_7).bind fun t123 => (if t123 = true then (some true) else (some false))) = some r := by rw [if_pos rfl] at H; exact H
        clear H
        have H := H1
        clear H1
        replace H := Option.bind_eq_some_iff.mp H
        obtain ⟨t123, A160, H⟩ := H
        replace H : (if t123 = true then (some true) else (some false)) = some r := H
        have A16 := Aside0.mk A160
        clear A160
        by_cases c17 : t123 = true
        · subst c17
          have H1 : (some true) = some r := by rw [if_pos rfl] at H; exact H
          clear H
          have H := H1
          clear H1
          obtain rfl := Option.some.inj H
          go_enter Try.func189, Try.ntmps189
          go_wp2_with (first | ((with_reducible refine gate_dst (N := 2) rfl ?_); refine box_e_ 2 #[.slice A0_0 l0_0.length c0_0, .bool a0_1, .int .i64 a0_2, .slice A0_3 l0_3.length c0_3, .int .i64 a0_4, .int .i64 a0_5, .int .i64 a0_6, .slice A0_7 l0_7.length c0_7] 134 ?_; intro gb119 hg w18 hbox hb; have BK119 := Aside0.mk (hbox); have GW119 := (bs_ hg : Aside0 (w.heap.size ≤ _)); have GE119 := (bs_ hg : Aside0 (w.heap.size ≤ _)); replace HB := Aside0.mk (below_step bb_ hb); clear hb hbox hg) | ((with_reducible refine gate_dst (N := 3) rfl ?_); refine box_e_ 3 #[.slice A1_0 l1_0.length c1_0, .bool a1_1, .int .i64 a1_2, .slice A1_3 l1_3.length c1_3, .int .i64 a1_4, .int .i64 a1_5, .int .i64 a1_6, .slice A1_7 l1_7.length c1_7] 134 ?_; intro gb120 hg w19 hbox hb; have BK120 := Aside0.mk (hbox); have GW120 := (bs_ hg : Aside0 (w.heap.size ≤ _)); have GE120 := (bs_ hg : Aside0 (w.heap.size ≤ _)); replace HB := Aside0.mk (below_step bb_ hb); have NB119_120 := (nl_ hg BK119 : Aside0 (gb119 ≠ gb120)); have NB120_119 := (nr_ hg BK119 : Aside0 (gb120 ≠ gb119)); replace BK119 := Aside0.mk (blk_below (kb_ BK119) hb); clear hb hbox hg; have hnb20 := NB119_120.out; have hnc20 := NB120_119.out; obtain ⟨hcz21_0, hcz21_1, hcz21_2, hcz21_3, hcz21_4, hcz21_5, hcz21_6, hcz21_7, hfz21_0, hfz21_1, hfz21_2, hfz21_3, hfz21_4, hfz21_5, hfz21_6, hfz21_7⟩ := cf8_ BK119; obtain ⟨hcz22_0, hcz22_1, hcz22_2, hcz22_3, hcz22_4, hcz22_5, hcz22_6, hcz22_7, hfz22_0, hfz22_1, hfz22_2, hfz22_3, hfz22_4, hfz22_5, hfz22_6, hfz22_7⟩ := cf8_ BK120) | ((with_reducible refine gate_callee (f := 64) rfl ?_); refine goe_ (some 9) Try.func64 #[.slice A0_0 l0_0.length c0_0, .slice A1_0 l1_0.length c1_0] ?_; (with_reducible refine (laws_eqPrefixS.calls k _ _ l0_0 _ _ l1_0 true _ ?side1 ?side2 ?side3 ?side4 A3.out).mono ?_); (case side1 => exact kc_ (Kd.C_below HR0_0.out HB.out)); (case side2 => exact HC0_0.out); (case side3 => exact kc_ (Kd.C_below HR1_0.out HB.out)); (case side4 => exact HC1_0.out); rintro e w23 ⟨rfl, hb⟩; refine ⟨_, rfl, ?_⟩; replace BK119 := Aside0.mk (blk_below (kb_ BK119) hb); replace BK120 := Aside0.mk (blk_below (kb_ BK120) hb); replace HB := Aside0.mk (below_step bb_ hb); (try clear hb); (try clear hb2); (try clear hk); (try clear hi); obtain ⟨hcz24_0, hcz24_1, hcz24_2, hcz24_3, hcz24_4, hcz24_5, hcz24_6, hcz24_7, hfz24_0, hfz24_1, hfz24_2, hfz24_3, hfz24_4, hfz24_5, hfz24_6, hfz24_7⟩ := cf8_ BK119; obtain ⟨hcz25_0, hcz25_1, hcz25_2, hcz25_3, hcz25_4, hcz25_5, hcz25_6, hcz25_7, hfz25_0, hfz25_1, hfz25_2, hfz25_3, hfz25_4, hfz25_5, hfz25_6, hfz25_7⟩ := cf8_ BK120) | ((with_reducible refine gate_callee (f := 203) rfl ?_); refine goe_ (some 20) Try.func203 #[.agg #[.int .i64 a0_2, .slice A0_3 l0_3.length c0_3, .int .i64 a0_4, .int .i64 a0_5, .int .i64 a0_6], .agg #[.int .i64 a1_2, .slice A1_3 l1_3.length c1_3, .int .i64 a1_4, .int .i64 a1_5, .int .i64 a1_6]] ?_; (with_reducible refine (laws_eqAttrs.calls k a0_2 _ _ l0_3 a0_4 a0_5 a0_6 a1_2 _ _ l1_3 a1_4 a1_5 a1_6 true _ ?side1 ?side2 ?side3 ?side4 A14.out).mono ?_); (case side1 => exact kc_ (Kd.C_below HR0_3.out HB.out)); (case side2 => exact HC0_3.out); (case side3 => exact kc_ (Kd.C_below HR1_3.out HB.out)); (case side4 => exact HC1_3.out); rintro e w26 ⟨rfl, hb⟩; refine ⟨_, rfl, ?_⟩; replace BK119 := Aside0.mk (blk_below (kb_ BK119) hb); replace BK120 := Aside0.mk (blk_below (kb_ BK120) hb); replace HB := Aside0.mk (below_step bb_ hb); (try clear hb); (try clear hb2); (try clear hk); (try clear hi); obtain ⟨hcz27_0, hcz27_1, hcz27_2, hcz27_3, hcz27_4, hcz27_5, hcz27_6, hcz27_7, hfz27_0, hfz27_1, hfz27_2, hfz27_3, hfz27_4, hfz27_5, hfz27_6, hfz27_7⟩ := cf8_ BK119; obtain ⟨hcz28_0, hcz28_1, hcz28_2, hcz28_3, hcz28_4, hcz28_5, hcz28_6, hcz28_7, hfz28_0, hfz28_1, hfz28_2, hfz28_3, hfz28_4, hfz28_5, hfz28_6, hfz28_7⟩ := cf8_ BK120) | ((with_reducible refine gate_callee (f := 64) rfl ?_); refine goe_ (some 26) Try.func64 #[.slice A0_7 l0_7.length c0_7, .slice A1_7 l1_7.length c1_7] ?_; (with_reducible refine (laws_eqPrefixS.calls k _ _ l0_7 _ _ l1_7 true _ ?side1 ?side2 ?side3 ?side4 A16.out).mono ?_); (case side1 => exact kc_ (Kd.C_below HR0_7.out HB.out)); (case side2 => exact HC0_7.out); (case side3 => exact kc_ (Kd.C_below HR1_7.out HB.out)); (case side4 => exact HC1_7.out); rintro e w29 ⟨rfl, hb⟩; refine ⟨_, rfl, ?_⟩; replace BK119 := Aside0.mk (blk_below (kb_ BK119) hb); replace BK120 := Aside0.mk (blk_below (kb_ BK120) hb); replace HB := Aside0.mk (below_step bb_ hb); (try clear hb); (try clear hb2); (try clear hk); (try clear hi)))
          go_ret
          exact ⟨er_, bb_⟩
        · replace c17 := Bool.eq_false_iff.mpr c17
          subst c17
          have H1 : (some false) = some r := by rw [if_neg (show ¬ (false = true) by decide)] at H; exact H
          clear H
          have H := H1
          clear H1
          obtain rfl := Option.some.inj H
          go_enter Try.func189, Try.ntmps189
          go_wp2_with (first | ((with_reducible refine gate_dst (N := 2) rfl ?_); refine box_e_ 2 #[.slice A0_0 l0_0.length c0_0, .bool a0_1, .int .i64 a0_2, .slice A0_3 l0_3.length c0_3, .int .i64 a0_4, .int .i64 a0_5, .int .i64 a0_6, .slice A0_7 l0_7.length c0_7] 134 ?_; intro gb119 hg w30 hbox hb; have BK119 := Aside0.mk (hbox); have GW119 := (bs_ hg : Aside0 (w.heap.size ≤ _)); have GE119 := (bs_ hg : Aside0 (w.heap.size ≤ _)); replace HB := Aside0.mk (below_step bb_ hb); clear hb hbox hg) | ((with_reducible refine gate_dst (N := 3) rfl ?_); refine box_e_ 3 #[.slice A1_0 l1_0.length c1_0, .bool a1_1, .int .i64 a1_2, .slice A1_3 l1_3.length c1_3, .int .i64 a1_4, .int .i64 a1_5, .int .i64 a1_6, .slice A1_7 l1_7.length c1_7] 134 ?_; intro gb120 hg w31 hbox hb; have BK120 := Aside0.mk (hbox); have GW120 := (bs_ hg : Aside0 (w.heap.size ≤ _)); have GE120 := (bs_ hg : Aside0 (w.heap.size ≤ _)); replace HB := Aside0.mk (below_step bb_ hb); have NB119_120 := (nl_ hg BK119 : Aside0 (gb119 ≠ gb120)); have NB120_119 := (nr_ hg BK119 : Aside0 (gb120 ≠ gb119)); replace BK119 := Aside0.mk (blk_below (kb_ BK119) hb); clear hb hbox hg; have hnb32 := NB119_120.out; have hnc32 := NB120_119.out; obtain ⟨hcz33_0, hcz33_1, hcz33_2, hcz33_3, hcz33_4, hcz33_5, hcz33_6, hcz33_7, hfz33_0, hfz33_1, hfz33_2, hfz33_3, hfz33_4, hfz33_5, hfz33_6, hfz33_7⟩ := cf8_ BK119; obtain ⟨hcz34_0, hcz34_1, hcz34_2, hcz34_3, hcz34_4, hcz34_5, hcz34_6, hcz34_7, hfz34_0, hfz34_1, hfz34_2, hfz34_3, hfz34_4, hfz34_5, hfz34_6, hfz34_7⟩ := cf8_ BK120) | ((with_reducible refine gate_callee (f := 64) rfl ?_); refine goe_ (some 9) Try.func64 #[.slice A0_0 l0_0.length c0_0, .slice A1_0 l1_0.length c1_0] ?_; (with_reducible refine (laws_eqPrefixS.calls k _ _ l0_0 _ _ l1_0 true _ ?side1 ?side2 ?side3 ?side4 A3.out).mono ?_); (case side1 => exact kc_ (Kd.C_below HR0_0.out HB.out)); (case side2 => exact HC0_0.out); (case side3 => exact kc_ (Kd.C_below HR1_0.out HB.out)); (case side4 => exact HC1_0.out); rintro e w35 ⟨rfl, hb⟩; refine ⟨_, rfl, ?_⟩; replace BK119 := Aside0.mk (blk_below (kb_ BK119) hb); replace BK120 := Aside0.mk (blk_below (kb_ BK120) hb); replace HB := Aside0.mk (below_step bb_ hb); (try clear hb); (try clear hb2); (try clear hk); (try clear hi); obtain ⟨hcz36_0, hcz36_1, hcz36_2, hcz36_3, hcz36_4, hcz36_5, hcz36_6, hcz36_7, hfz36_0, hfz36_1, hfz36_2, hfz36_3, hfz36_4, hfz36_5, hfz36_6, hfz36_7⟩ := cf8_ BK119; obtain ⟨hcz37_0, hcz37_1, hcz37_2, hcz37_3, hcz37_4, hcz37_5, hcz37_6, hcz37_7, hfz37_0, hfz37_1, hfz37_2, hfz37_3, hfz37_4, hfz37_5, hfz37_6, hfz37_7⟩ := cf8_ BK120) | ((with_reducible refine gate_callee (f := 203) rfl ?_); refine goe_ (some 20) Try.func203 #[.agg #[.int .i64 a0_2, .slice A0_3 l0_3.length c0_3, .int .i64 a0_4, .int .i64 a0_5, .int .i64 a0_6], .agg #[.int .i64 a1_2, .slice A1_3 l1_3.length c1_3, .int .i64 a1_4, .int .i64 a1_5, .int .i64 a1_6]] ?_; (with_reducible refine (laws_eqAttrs.calls k a0_2 _ _ l0_3 a0_4 a0_5 a0_6 a1_2 _ _ l1_3 a1_4 a1_5 a1_6 true _ ?side1 ?side2 ?side3 ?side4 A14.out).mono ?_); (case side1 => exact kc_ (Kd.C_below HR0_3.out HB.out)); (case side2 => exact HC0_3.out); (case side3 => exact kc_ (Kd.C_below HR1_3.out HB.out)); (case side4 => exact HC1_3.out); rintro e w38 ⟨rfl, hb⟩; refine ⟨_, rfl, ?_⟩; replace BK119 := Aside0.mk (blk_below (kb_ BK119) hb); replace BK120 := Aside0.mk (blk_below (kb_ BK120) hb); replace HB := Aside0.mk (below_step bb_ hb); (try clear hb); (try clear hb2); (try clear hk); (try clear hi); obtain ⟨hcz39_0, hcz39_1, hcz39_2, hcz39_3, hcz39_4, hcz39_5, hcz39_6, hcz39_7, hfz39_0, hfz39_1, hfz39_2, hfz39_3, hfz39_4, hfz39_5, hfz39_6, hfz39_7⟩ := cf8_ BK119; obtain ⟨hcz40_0, hcz40_1, hcz40_2, hcz40_3, hcz40_4, hcz40_5, hcz40_6, hcz40_7, hfz40_0, hfz40_1, hfz40_2, hfz40_3, hfz40_4, hfz40_5, hfz40_6, hfz40_7⟩ := cf8_ BK120) | ((with_reducible refine gate_callee (f := 64) rfl ?_); refine goe_ (some 26) Try.func64 #[.slice A0_7 l0_7.length c0_7, .slice A1_7 l1_7.length c1_7] ?_; (with_reducible refine (laws_eqPrefixS.calls k _ _ l0_7 _ _ l1_7 false _ ?side1 ?side2 ?side3 ?side4 A16.out).mono ?_); (case side1 => exact kc_ (Kd.C_below HR0_7.out HB.out)); (case side2 => exact HC0_7.out); (case side3 => exact kc_ (Kd.C_below HR1_7.out HB.out)); (case side4 => exact HC1_7.out); rintro e w41 ⟨rfl, hb⟩; refine ⟨_, rfl, ?_⟩; replace BK119 := Aside0.mk (blk_below (kb_ BK119) hb); replace BK120 := Aside0.mk (blk_below (kb_ BK120) hb); replace HB := Aside0.mk (below_step bb_ hb); (try clear hb); (try clear hb2); (try clear hk); (try clear hi)))
          go_ret
          exact ⟨er_, bb_⟩
      · replace c15 := Bool.eq_false_iff.mpr c15
        subst c15
        have H1 : (some false) = some r := by rw [if_neg (show ¬ (false = true) by decide)] at H; exact H
        clear H
        have H := H1
        clear H1
        obtain rfl := Option.some.inj H
        go_enter Try.func189, Try.ntmps189
        go_wp2_with (first | ((with_reducible refine gate_dst (N := 2) rfl ?_); refine box_e_ 2 #[.slice A0_0 l0_0.length c0_0, .bool a0_1, .int .i64 a0_2, .slice A0_3 l0_3.length c0_3, .int .i64 a0_4, .int .i64 a0_5, .int .i64 a0_6, .slice A0_7 l0_7.length c0_7] 134 ?_; intro gb119 hg w42 hbox hb; have BK119 := Aside0.mk (hbox); have GW119 := (bs_ hg : Aside0 (w.heap.size ≤ _)); have GE119 := (bs_ hg : Aside0 (w.heap.size ≤ _)); replace HB := Aside0.mk (below_step bb_ hb); clear hb hbox hg) | ((with_reducible refine gate_dst (N := 3) rfl ?_); refine box_e_ 3 #[.slice A1_0 l1_0.length c1_0, .bool a1_1, .int .i64 a1_2, .slice A1_3 l1_3.length c1_3, .int .i64 a1_4, .int .i64 a1_5, .int .i64 a1_6, .slice A1_7 l1_7.length c1_7] 134 ?_; intro gb120 hg w43 hbox hb; have BK120 := Aside0.mk (hbox); have GW120 := (bs_ hg : Aside0 (w.heap.size ≤ _)); have GE120 := (bs_ hg : Aside0 (w.heap.size ≤ _)); replace HB := Aside0.mk (below_step bb_ hb); have NB119_120 := (nl_ hg BK119 : Aside0 (gb119 ≠ gb120)); have NB120_119 := (nr_ hg BK119 : Aside0 (gb120 ≠ gb119)); replace BK119 := Aside0.mk (blk_below (kb_ BK119) hb); clear hb hbox hg; have hnb44 := NB119_120.out; have hnc44 := NB120_119.out; obtain ⟨hcz45_0, hcz45_1, hcz45_2, hcz45_3, hcz45_4, hcz45_5, hcz45_6, hcz45_7, hfz45_0, hfz45_1, hfz45_2, hfz45_3, hfz45_4, hfz45_5, hfz45_6, hfz45_7⟩ := cf8_ BK119; obtain ⟨hcz46_0, hcz46_1, hcz46_2, hcz46_3, hcz46_4, hcz46_5, hcz46_6, hcz46_7, hfz46_0, hfz46_1, hfz46_2, hfz46_3, hfz46_4, hfz46_5, hfz46_6, hfz46_7⟩ := cf8_ BK120) | ((with_reducible refine gate_callee (f := 64) rfl ?_); refine goe_ (some 9) Try.func64 #[.slice A0_0 l0_0.length c0_0, .slice A1_0 l1_0.length c1_0] ?_; (with_reducible refine (laws_eqPrefixS.calls k _ _ l0_0 _ _ l1_0 true _ ?side1 ?side2 ?side3 ?side4 A3.out).mono ?_); (case side1 => exact kc_ (Kd.C_below HR0_0.out HB.out)); (case side2 => exact HC0_0.out); (case side3 => exact kc_ (Kd.C_below HR1_0.out HB.out)); (case side4 => exact HC1_0.out); rintro e w47 ⟨rfl, hb⟩; refine ⟨_, rfl, ?_⟩; replace BK119 := Aside0.mk (blk_below (kb_ BK119) hb); replace BK120 := Aside0.mk (blk_below (kb_ BK120) hb); replace HB := Aside0.mk (below_step bb_ hb); (try clear hb); (try clear hb2); (try clear hk); (try clear hi); obtain ⟨hcz48_0, hcz48_1, hcz48_2, hcz48_3, hcz48_4, hcz48_5, hcz48_6, hcz48_7, hfz48_0, hfz48_1, hfz48_2, hfz48_3, hfz48_4, hfz48_5, hfz48_6, hfz48_7⟩ := cf8_ BK119; obtain ⟨hcz49_0, hcz49_1, hcz49_2, hcz49_3, hcz49_4, hcz49_5, hcz49_6, hcz49_7, hfz49_0, hfz49_1, hfz49_2, hfz49_3, hfz49_4, hfz49_5, hfz49_6, hfz49_7⟩ := cf8_ BK120) | ((with_reducible refine gate_callee (f := 203) rfl ?_); refine goe_ (some 20) Try.func203 #[.agg #[.int .i64 a0_2, .slice A0_3 l0_3.length c0_3, .int .i64 a0_4, .int .i64 a0_5, .int .i64 a0_6], .agg #[.int .i64 a1_2, .slice A1_3 l1_3.length c1_3, .int .i64 a1_4, .int .i64 a1_5, .int .i64 a1_6]] ?_; (with_reducible refine (laws_eqAttrs.calls k a0_2 _ _ l0_3 a0_4 a0_5 a0_6 a1_2 _ _ l1_3 a1_4 a1_5 a1_6 false _ ?side1 ?side2 ?side3 ?side4 A14.out).mono ?_); (case side1 => exact kc_ (Kd.C_below HR0_3.out HB.out)); (case side2 => exact HC0_3.out); (case side3 => exact kc_ (Kd.C_below HR1_3.out HB.out)); (case side4 => exact HC1_3.out); rintro e w50 ⟨rfl, hb⟩; refine ⟨_, rfl, ?_⟩; replace BK119 := Aside0.mk (blk_below (kb_ BK119) hb); replace BK120 := Aside0.mk (blk_below (kb_ BK120) hb); replace HB := Aside0.mk (below_step bb_ hb); (try clear hb); (try clear hb2); (try clear hk); (try clear hi)))
        go_ret
        exact ⟨er_, bb_⟩
  · replace c4 := Bool.eq_false_iff.mpr c4
    subst c4
    have H1 : (some false) = some r := by rw [if_neg (show ¬ (false = true) by decide)] at H; exact H
    clear H
    have H := H1
    clear H1
    obtain rfl := Option.some.inj H
    go_enter Try.func189, Try.ntmps189
    go_wp2_with (first | ((with_reducible refine gate_dst (N := 2) rfl ?_); refine box_e_ 2 #[.slice A0_0 l0_0.length c0_0, .bool a0_1, .int .i64 a0_2, .slice A0_3 l0_3.length c0_3, .int .i64 a0_4, .int .i64 a0_5, .int .i64 a0_6, .slice A0_7 l0_7.length c0_7] 134 ?_; intro gb119 hg w51 hbox hb; have BK119 := Aside0.mk (hbox); have GW119 := (bs_ hg : Aside0 (w.heap.size ≤ _)); have GE119 := (bs_ hg : Aside0 (w.heap.size ≤ _)); replace HB := Aside0.mk (below_step bb_ hb); clear hb hbox hg) | ((with_reducible refine gate_dst (N := 3) rfl ?_); refine box_e_ 3 #[.slice A1_0 l1_0.length c1_0, .bool a1_1, .int .i64 a1_2, .slice A1_3 l1_3.length c1_3, .int .i64 a1_4, .int .i64 a1_5, .int .i64 a1_6, .slice A1_7 l1_7.length c1_7] 134 ?_; intro gb120 hg w52 hbox hb; have BK120 := Aside0.mk (hbox); have GW120 := (bs_ hg : Aside0 (w.heap.size ≤ _)); have GE120 := (bs_ hg : Aside0 (w.heap.size ≤ _)); replace HB := Aside0.mk (below_step bb_ hb); have NB119_120 := (nl_ hg BK119 : Aside0 (gb119 ≠ gb120)); have NB120_119 := (nr_ hg BK119 : Aside0 (gb120 ≠ gb119)); replace BK119 := Aside0.mk (blk_below (kb_ BK119) hb); clear hb hbox hg; have hnb53 := NB119_120.out; have hnc53 := NB120_119.out; obtain ⟨hcz54_0, hcz54_1, hcz54_2, hcz54_3, hcz54_4, hcz54_5, hcz54_6, hcz54_7, hfz54_0, hfz54_1, hfz54_2, hfz54_3, hfz54_4, hfz54_5, hfz54_6, hfz54_7⟩ := cf8_ BK119; obtain ⟨hcz55_0, hcz55_1, hcz55_2, hcz55_3, hcz55_4, hcz55_5, hcz55_6, hcz55_7, hfz55_0, hfz55_1, hfz55_2, hfz55_3, hfz55_4, hfz55_5, hfz55_6, hfz55_7⟩ := cf8_ BK120) | ((with_reducible refine gate_callee (f := 64) rfl ?_); refine goe_ (some 9) Try.func64 #[.slice A0_0 l0_0.length c0_0, .slice A1_0 l1_0.length c1_0] ?_; (with_reducible refine (laws_eqPrefixS.calls k _ _ l0_0 _ _ l1_0 false _ ?side1 ?side2 ?side3 ?side4 A3.out).mono ?_); (case side1 => exact kc_ (Kd.C_below HR0_0.out HB.out)); (case side2 => exact HC0_0.out); (case side3 => exact kc_ (Kd.C_below HR1_0.out HB.out)); (case side4 => exact HC1_0.out); rintro e w56 ⟨rfl, hb⟩; refine ⟨_, rfl, ?_⟩; replace BK119 := Aside0.mk (blk_below (kb_ BK119) hb); replace BK120 := Aside0.mk (blk_below (kb_ BK120) hb); replace HB := Aside0.mk (below_step bb_ hb); (try clear hb); (try clear hb2); (try clear hk); (try clear hi)))
    go_ret
    exact ⟨er_, bb_⟩
def laws_eqMessage.f (k : Nat) (a0_0 : Int) (a0_1 : Int) (a0_2 : Int) (a0_3 : Int) (a0_4 : Int) (a0_5 : Int) (l0_6 : List (S167)) (a0_7 : Bool) (a0_8 : Int) (l0_9 : List Int) (a0_10 : Int) (a0_11 : Int) (a0_12 : Int) (l0_13 : List (S167)) (a1_0 : Int) (a1_1 : Int) (a1_2 : Int) (a1_3 : Int) (a1_4 : Int) (a1_5 : Int) (l1_6 : List (S167)) (a1_7 : Bool) (a1_8 : Int) (l1_9 : List Int) (a1_10 : Int) (a1_11 : Int) (a1_12 : Int) (l1_13 : List (S167)) : Option (Bool) := if a0_0 = a1_0 then (if a0_1 = a1_1 then (if a0_2 = a1_2 then (if a0_3 = a1_3 then (if a0_4 = a1_4 then (if a0_5 = a1_5 then ((laws_eqUpdate.f k l0_6 a0_7 a0_8 l0_9 a0_10 a0_11 a0_12 l0_13 l1_6 a1_7 a1_8 l1_9 a1_10 a1_11 a1_12 l1_13).bind fun t126 => (if t126 = true then (some true) else (some false))) else (some false)) else (some false)) else (some false)) else (some false)) else (some false)) else (some false)
theorem laws_eqMessage.mono : ∀ a0 a1 a2 a3 a4 a5 a6 a7 a8 a9 a10 a11 a12 a13 a14 a15 a16 a17 a18 a19 a20 a21 a22 a23 a24 a25 a26 a27 k, LeO (laws_eqMessage.f k a0 a1 a2 a3 a4 a5 a6 a7 a8 a9 a10 a11 a12 a13 a14 a15 a16 a17 a18 a19 a20 a21 a22 a23 a24 a25 a26 a27) (laws_eqMessage.f (k + 1) a0 a1 a2 a3 a4 a5 a6 a7 a8 a9 a10 a11 a12 a13 a14 a15 a16 a17 a18 a19 a20 a21 a22 a23 a24 a25 a26 a27) := by
  intro a0 a1 a2 a3 a4 a5 a6 a7 a8 a9 a10 a11 a12 a13 a14 a15 a16 a17 a18 a19 a20 a21 a22 a23 a24 a25 a26 a27 k
  unfold laws_eqMessage.f
  repeat' first
      | (with_reducible exact laws_eqUpdate.mono _ _ _ _ _ _ _ _ _ _ _ _ _ _ _ _ _)
      | (with_reducible exact LeO.refl _)
      | (with_reducible exact LeO.none _)
      | (with_reducible refine LeO.ite ?_ ?_)
      | (with_reducible refine LeO.bind ?_ (fun _ => ?_))
      | exact laws_eqUpdate.mono _ _ _ _ _ _ _ _ _ _ _ _ _ _ _ _ _
      | exact LeO.none _
      | refine LeO.ite ?_ ?_
      | refine LeO.bind ?_ (fun _ => ?_)
set_option maxHeartbeats 8000000 in
set_option maxRecDepth 100000 in
theorem laws_eqMessage.calls (k : Nat) (a0_0 : Int) (a0_1 : Int) (a0_2 : Int) (a0_3 : Int) (a0_4 : Int) (a0_5 : Int) (A0_6 : Option Addr) (c0_6 : Nat) (l0_6 : List (S167)) (a0_7 : Bool) (a0_8 : Int) (A0_9 : Option Addr) (c0_9 : Nat) (l0_9 : List Int) (a0_10 : Int) (a0_11 : Int) (a0_12 : Int) (A0_13 : Option Addr) (c0_13 : Nat) (l0_13 : List (S167)) (a1_0 : Int) (a1_1 : Int) (a1_2 : Int) (a1_3 : Int) (a1_4 : Int) (a1_5 : Int) (A1_6 : Option Addr) (c1_6 : Nat) (l1_6 : List (S167)) (a1_7 : Bool) (a1_8 : Int) (A1_9 : Option Addr) (c1_9 : Nat) (l1_9 : List Int) (a1_10 : Int) (a1_11 : Int) (a1_12 : Int) (A1_13 : Option Addr) (c1_13 : Nat) (l1_13 : List (S167)) (r : Bool) (w : World) (hr0_6 : Kd.C k167 w A0_6 l0_6.length l0_6) (hc0_6 : l0_6.length ≤ c0_6) (hr0_9 : Kd.C (Kd.int .i64) w A0_9 l0_9.length l0_9) (hc0_9 : l0_9.length ≤ c0_9) (hr0_13 : Kd.C k167 w A0_13 l0_13.length l0_13) (hc0_13 : l0_13.length ≤ c0_13) (hr1_6 : Kd.C k167 w A1_6 l1_6.length l1_6) (hc1_6 : l1_6.length ≤ c1_6) (hr1_9 : Kd.C (Kd.int .i64) w A1_9 l1_9.length l1_9) (hc1_9 : l1_9.length ≤ c1_9) (hr1_13 : Kd.C k167 w A1_13 l1_13.length l1_13) (hc1_13 : l1_13.length ≤ c1_13) (h : laws_eqMessage.f k a0_0 a0_1 a0_2 a0_3 a0_4 a0_5 l0_6 a0_7 a0_8 l0_9 a0_10 a0_11 a0_12 l0_13 a1_0 a1_1 a1_2 a1_3 a1_4 a1_5 l1_6 a1_7 a1_8 l1_9 a1_10 a1_11 a1_12 l1_13 = some r) :
    Calls Try.prog 143 #[.agg #[.int .i64 a0_0, .int .i64 a0_1, .int .i64 a0_2, .int .i64 a0_3, .int .i64 a0_4, .int .i64 a0_5, .slice A0_6 l0_6.length c0_6, .bool a0_7, .int .i64 a0_8, .slice A0_9 l0_9.length c0_9, .int .i64 a0_10, .int .i64 a0_11, .int .i64 a0_12, .slice A0_13 l0_13.length c0_13], .agg #[.int .i64 a1_0, .int .i64 a1_1, .int .i64 a1_2, .int .i64 a1_3, .int .i64 a1_4, .int .i64 a1_5, .slice A1_6 l1_6.length c1_6, .bool a1_7, .int .i64 a1_8, .slice A1_9 l1_9.length c1_9, .int .i64 a1_10, .int .i64 a1_11, .int .i64 a1_12, .slice A1_13 l1_13.length c1_13]] w fun e w' => e = .returned (.bool r) ∧ Below w.heap.size w w' := by
  have hu136 := Try.underlying136
  have hu134 := Try.underlying134
  have HR0_6 := Aside0.mk hr0_6
  have HC0_6 := Aside0.mk hc0_6
  clear hr0_6 hc0_6
  have HR0_9 := Aside0.mk hr0_9
  have HC0_9 := Aside0.mk hc0_9
  clear hr0_9 hc0_9
  have HR0_13 := Aside0.mk hr0_13
  have HC0_13 := Aside0.mk hc0_13
  clear hr0_13 hc0_13
  have HR1_6 := Aside0.mk hr1_6
  have HC1_6 := Aside0.mk hc1_6
  clear hr1_6 hc1_6
  have HR1_9 := Aside0.mk hr1_9
  have HC1_9 := Aside0.mk hc1_9
  clear hr1_9 hc1_9
  have HR1_13 := Aside0.mk hr1_13
  have HC1_13 := Aside0.mk hc1_13
  clear hr1_13 hc1_13
  have HB := Aside0.mk (Below.refl w.heap.size w)
  have H : (if a0_0 = a1_0 then (if a0_1 = a1_1 then (if a0_2 = a1_2 then (if a0_3 = a1_3 then (if a0_4 = a1_4 then (if a0_5 = a1_5 then ((laws_eqUpdate.f k l0_6 a0_7 a0_8 l0_9 a0_10 a0_11 a0_12 l0_13 l1_6 a1_7 a1_8 l1_9 a1_10 a1_11 a1_12 l1_13).bind fun t126 => (if t126 = true then (some true) else (some false))) else (some false)) else (some false)) else (some false)) else (some false)) else (some false)) else (some false)) = some r := h
  clear h
  by_cases c3 : a0_0 = a1_0
  · rw [if_pos c3] at H
    have c3b0 : (a0_0 == a1_0) = true := beq_iff_eq.mpr c3
    have c3b1 : (a0_0 != a1_0) = false := bne_eq_false_iff_eq.mpr c3
    clear c3
    by_cases c4 : a0_1 = a1_1
    · rw [if_pos c4] at H
      have c4b0 : (a0_1 == a1_1) = true := beq_iff_eq.mpr c4
      have c4b1 : (a0_1 != a1_1) = false := bne_eq_false_iff_eq.mpr c4
      clear c4
      by_cases c5 : a0_2 = a1_2
      · rw [if_pos c5] at H
        have c5b0 : (a0_2 == a1_2) = true := beq_iff_eq.mpr c5
        have c5b1 : (a0_2 != a1_2) = false := bne_eq_false_iff_eq.mpr c5
        clear c5
        by_cases c6 : a0_3 = a1_3
        · rw [if_pos c6] at H
          have c6b0 : (a0_3 == a1_3) = true := beq_iff_eq.mpr c6
          have c6b1 : (a0_3 != a1_3) = false := bne_eq_false_iff_eq.mpr c6
          clear c6
          by_cases c7 : a0_4 = a1_4
          · rw [if_pos c7] at H
            have c7b0 : (a0_4 == a1_4) = true := beq_iff_eq.mpr c7
            have c7b1 : (a0_4 != a1_4) = false := bne_eq_false_iff_eq.mpr c7
            clear c7
            by_cases c8 : a0_5 = a1_5
            · rw [if_pos c8] at H
              have c8b0 : (a0_5 == a1_5) = true := beq_iff_eq.mpr c8
              have c8b1 : (a0_5 != a1_5) = false := bne_eq_false_iff_eq.mpr c8
              clear c8
              replace H := Option.bind_eq_some_iff.mp H
              obtain ⟨t126, A90, H⟩ := H
              replace H : (if t126 = true then (some true) else (some false)) = some r := H
              have A9 := Aside0.mk A90
              clear A90
              by_cases c10 : t126 = true
              · subst c10
                have H1 : (some true) = some r := by rw [if_pos rfl] at H; exact H
                clear H
                have H := H1
                clear H1
                obtain rfl := Option.some.inj H
                go_enter Try.func143, Try.ntmps143
                go_wp2_with (first | ((with_reducible refine gate_dst (N := 2) rfl ?_); refine box_e_ 2 #[.int .i64 a0_0, .int .i64 a0_1, .int .i64 a0_2, .int .i64 a0_3, .int .i64 a0_4, .int .i64 a0_5, .slice A0_6 l0_6.length c0_6, .bool a0_7, .int .i64 a0_8, .slice A0_9 l0_9.length c0_9, .int .i64 a0_10, .int .i64 a0_11, .int .i64 a0_12, .slice A0_13 l0_13.length c0_13] 136 ?_; intro gb124 hg w11 hbox hb; have BK124 := Aside0.mk (hbox); have GW124 := (bs_ hg : Aside0 (w.heap.size ≤ _)); have GE124 := (bs_ hg : Aside0 (w.heap.size ≤ _)); replace HB := Aside0.mk (below_step bb_ hb); clear hb hbox hg) | ((with_reducible refine gate_dst (N := 3) rfl ?_); refine box_e_ 3 #[.int .i64 a1_0, .int .i64 a1_1, .int .i64 a1_2, .int .i64 a1_3, .int .i64 a1_4, .int .i64 a1_5, .slice A1_6 l1_6.length c1_6, .bool a1_7, .int .i64 a1_8, .slice A1_9 l1_9.length c1_9, .int .i64 a1_10, .int .i64 a1_11, .int .i64 a1_12, .slice A1_13 l1_13.length c1_13] 136 ?_; intro gb125 hg w12 hbox hb; have BK125 := Aside0.mk (hbox); have GW125 := (bs_ hg : Aside0 (w.heap.size ≤ _)); have GE125 := (bs_ hg : Aside0 (w.heap.size ≤ _)); replace HB := Aside0.mk (below_step bb_ hb); have NB124_125 := (nl_ hg BK124 : Aside0 (gb124 ≠ gb125)); have NB125_124 := (nr_ hg BK124 : Aside0 (gb125 ≠ gb124)); replace BK124 := Aside0.mk (blk_below (kb_ BK124) hb); clear hb hbox hg; have hnb13 := NB124_125.out; have hnc13 := NB125_124.out; have hcz14_0 : w12.cell? ⟨gb124, 0, none⟩ = some (.int .i64 a0_0) := (blk_cell BK124.out 0).trans rfl; have hcz14_1 : w12.cell? ⟨gb124, 1, none⟩ = some (.int .i64 a0_1) := (blk_cell BK124.out 1).trans rfl; have hcz14_2 : w12.cell? ⟨gb124, 2, none⟩ = some (.int .i64 a0_2) := (blk_cell BK124.out 2).trans rfl; have hcz14_3 : w12.cell? ⟨gb124, 3, none⟩ = some (.int .i64 a0_3) := (blk_cell BK124.out 3).trans rfl; have hcz14_4 : w12.cell? ⟨gb124, 4, none⟩ = some (.int .i64 a0_4) := (blk_cell BK124.out 4).trans rfl; have hcz14_5 : w12.cell? ⟨gb124, 5, none⟩ = some (.int .i64 a0_5) := (blk_cell BK124.out 5).trans rfl; have hcz14_6 : w12.cell? ⟨gb124, 6, none⟩ = some (.slice A0_6 l0_6.length c0_6) := (blk_cell BK124.out 6).trans rfl; have hcz14_7 : w12.cell? ⟨gb124, 7, none⟩ = some (.bool a0_7) := (blk_cell BK124.out 7).trans rfl; have hcz14_8 : w12.cell? ⟨gb124, 8, none⟩ = some (.int .i64 a0_8) := (blk_cell BK124.out 8).trans rfl; have hcz14_9 : w12.cell? ⟨gb124, 9, none⟩ = some (.slice A0_9 l0_9.length c0_9) := (blk_cell BK124.out 9).trans rfl; have hcz14_10 : w12.cell? ⟨gb124, 10, none⟩ = some (.int .i64 a0_10) := (blk_cell BK124.out 10).trans rfl; have hcz14_11 : w12.cell? ⟨gb124, 11, none⟩ = some (.int .i64 a0_11) := (blk_cell BK124.out 11).trans rfl; have hcz14_12 : w12.cell? ⟨gb124, 12, none⟩ = some (.int .i64 a0_12) := (blk_cell BK124.out 12).trans rfl; have hcz14_13 : w12.cell? ⟨gb124, 13, none⟩ = some (.slice A0_13 l0_13.length c0_13) := (blk_cell BK124.out 13).trans rfl; have hfz14_0 := blk_frozen BK124.out 0; have hfz14_1 := blk_frozen BK124.out 1; have hfz14_2 := blk_frozen BK124.out 2; have hfz14_3 := blk_frozen BK124.out 3; have hfz14_4 := blk_frozen BK124.out 4; have hfz14_5 := blk_frozen BK124.out 5; have hfz14_6 := blk_frozen BK124.out 6; have hfz14_7 := blk_frozen BK124.out 7; have hfz14_8 := blk_frozen BK124.out 8; have hfz14_9 := blk_frozen BK124.out 9; have hfz14_10 := blk_frozen BK124.out 10; have hfz14_11 := blk_frozen BK124.out 11; have hfz14_12 := blk_frozen BK124.out 12; have hfz14_13 := blk_frozen BK124.out 13; have hcz15_0 : w12.cell? ⟨gb125, 0, none⟩ = some (.int .i64 a1_0) := (blk_cell BK125.out 0).trans rfl; have hcz15_1 : w12.cell? ⟨gb125, 1, none⟩ = some (.int .i64 a1_1) := (blk_cell BK125.out 1).trans rfl; have hcz15_2 : w12.cell? ⟨gb125, 2, none⟩ = some (.int .i64 a1_2) := (blk_cell BK125.out 2).trans rfl; have hcz15_3 : w12.cell? ⟨gb125, 3, none⟩ = some (.int .i64 a1_3) := (blk_cell BK125.out 3).trans rfl; have hcz15_4 : w12.cell? ⟨gb125, 4, none⟩ = some (.int .i64 a1_4) := (blk_cell BK125.out 4).trans rfl; have hcz15_5 : w12.cell? ⟨gb125, 5, none⟩ = some (.int .i64 a1_5) := (blk_cell BK125.out 5).trans rfl; have hcz15_6 : w12.cell? ⟨gb125, 6, none⟩ = some (.slice A1_6 l1_6.length c1_6) := (blk_cell BK125.out 6).trans rfl; have hcz15_7 : w12.cell? ⟨gb125, 7, none⟩ = some (.bool a1_7) := (blk_cell BK125.out 7).trans rfl; have hcz15_8 : w12.cell? ⟨gb125, 8, none⟩ = some (.int .i64 a1_8) := (blk_cell BK125.out 8).trans rfl; have hcz15_9 : w12.cell? ⟨gb125, 9, none⟩ = some (.slice A1_9 l1_9.length c1_9) := (blk_cell BK125.out 9).trans rfl; have hcz15_10 : w12.cell? ⟨gb125, 10, none⟩ = some (.int .i64 a1_10) := (blk_cell BK125.out 10).trans rfl; have hcz15_11 : w12.cell? ⟨gb125, 11, none⟩ = some (.int .i64 a1_11) := (blk_cell BK125.out 11).trans rfl; have hcz15_12 : w12.cell? ⟨gb125, 12, none⟩ = some (.int .i64 a1_12) := (blk_cell BK125.out 12).trans rfl; have hcz15_13 : w12.cell? ⟨gb125, 13, none⟩ = some (.slice A1_13 l1_13.length c1_13) := (blk_cell BK125.out 13).trans rfl; have hfz15_0 := blk_frozen BK125.out 0; have hfz15_1 := blk_frozen BK125.out 1; have hfz15_2 := blk_frozen BK125.out 2; have hfz15_3 := blk_frozen BK125.out 3; have hfz15_4 := blk_frozen BK125.out 4; have hfz15_5 := blk_frozen BK125.out 5; have hfz15_6 := blk_frozen BK125.out 6; have hfz15_7 := blk_frozen BK125.out 7; have hfz15_8 := blk_frozen BK125.out 8; have hfz15_9 := blk_frozen BK125.out 9; have hfz15_10 := blk_frozen BK125.out 10; have hfz15_11 := blk_frozen BK125.out 11; have hfz15_12 := blk_frozen BK125.out 12; have hfz15_13 := blk_frozen BK125.out 13) | ((with_reducible refine gate_callee (f := 189) rfl ?_); refine goe_ (some 39) Try.func189 #[.agg #[.slice A0_6 l0_6.length c0_6, .bool a0_7, .int .i64 a0_8, .slice A0_9 l0_9.length c0_9, .int .i64 a0_10, .int .i64 a0_11, .int .i64 a0_12, .slice A0_13 l0_13.length c0_13], .agg #[.slice A1_6 l1_6.length c1_6, .bool a1_7, .int .i64 a1_8, .slice A1_9 l1_9.length c1_9, .int .i64 a1_10, .int .i64 a1_11, .int .i64 a1_12, .slice A1_13 l1_13.length c1_13]] ?_; (with_reducible refine (laws_eqUpdate.calls k _ _ l0_6 a0_7 a0_8 _ _ l0_9 a0_10 a0_11 a0_12 _ _ l0_13 _ _ l1_6 a1_7 a1_8 _ _ l1_9 a1_10 a1_11 a1_12 _ _ l1_13 true _ ?side1 ?side2 ?side3 ?side4 ?side5 ?side6 ?side7 ?side8 ?side9 ?side10 ?side11 ?side12 A9.out).mono ?_); (case side1 => exact kc_ (Kd.C_below HR0_6.out HB.out)); (case side2 => exact HC0_6.out); (case side3 => exact kc_ (Kd.C_below HR0_9.out HB.out)); (case side4 => exact HC0_9.out); (case side5 => exact kc_ (Kd.C_below HR0_13.out HB.out)); (case side6 => exact HC0_13.out); (case side7 => exact kc_ (Kd.C_below HR1_6.out HB.out)); (case side8 => exact HC1_6.out); (case side9 => exact kc_ (Kd.C_below HR1_9.out HB.out)); (case side10 => exact HC1_9.out); (case side11 => exact kc_ (Kd.C_below HR1_13.out HB.out)); (case side12 => exact HC1_13.out); rintro e w16 ⟨rfl, hb⟩; refine ⟨_, rfl, ?_⟩; replace BK124 := Aside0.mk (blk_below (kb_ BK124) hb); replace BK125 := Aside0.mk (blk_below (kb_ BK125) hb); replace HB := Aside0.mk (below_step bb_ hb); (try clear hb); (try clear hb2); (try clear hk); (try clear hi)))
                go_ret
                exact ⟨er_, bb_⟩
              · replace c10 := Bool.eq_false_iff.mpr c10
                subst c10
                have H1 : (some false) = some r := by rw [if_neg (show ¬ (false = true) by decide)] at H; exact H
                clear H
                have H := H1
                clear H1
                obtain rfl := Option.some.inj H
                go_enter Try.func143, Try.ntmps143
                go_wp2_with (first | ((with_reducible refine gate_dst (N := 2) rfl ?_); refine box_e_ 2 #[.int .i64 a0_0, .int .i64 a0_1, .int .i64 a0_2, .int .i64 a0_3, .int .i64 a0_4, .int .i64 a0_5, .slice A0_6 l0_6.length c0_6, .bool a0_7, .int .i64 a0_8, .slice A0_9 l0_9.length c0_9, .int .i64 a0_10, .int .i64 a0_11, .int .i64 a0_12, .slice A0_13 l0_13.length c0_13] 136 ?_; intro gb124 hg w17 hbox hb; have BK124 := Aside0.mk (hbox); have GW124 := (bs_ hg : Aside0 (w.heap.size ≤ _)); have GE124 := (bs_ hg : Aside0 (w.heap.size ≤ _)); replace HB := Aside0.mk (below_step bb_ hb); clear hb hbox hg) | ((with_reducible refine gate_dst (N := 3) rfl ?_); refine box_e_ 3 #[.int .i64 a1_0, .int .i64 a1_1, .int .i64 a1_2, .int .i64 a1_3, .int .i64 a1_4, .int .i64 a1_5, .slice A1_6 l1_6.length c1_6, .bool a1_7, .int .i64 a1_8, .slice A1_9 l1_9.length c1_9, .int .i64 a1_10, .int .i64 a1_11, .int .i64 a1_12, .slice A1_13 l1_13.length c1_13] 136 ?_; intro gb125 hg w18 hbox hb; have BK125 := Aside0.mk (hbox); have GW125 := (bs_ hg : Aside0 (w.heap.size ≤ _)); have GE125 := (bs_ hg : Aside0 (w.heap.size ≤ _)); replace HB := Aside0.mk (below_step bb_ hb); have NB124_125 := (nl_ hg BK124 : Aside0 (gb124 ≠ gb125)); have NB125_124 := (nr_ hg BK124 : Aside0 (gb125 ≠ gb124)); replace BK124 := Aside0.mk (blk_below (kb_ BK124) hb); clear hb hbox hg; have hnb19 := NB124_125.out; have hnc19 := NB125_124.out; have hcz20_0 : w18.cell? ⟨gb124, 0, none⟩ = some (.int .i64 a0_0) := (blk_cell BK124.out 0).trans rfl; have hcz20_1 : w18.cell? ⟨gb124, 1, none⟩ = some (.int .i64 a0_1) := (blk_cell BK124.out 1).trans rfl; have hcz20_2 : w18.cell? ⟨gb124, 2, none⟩ = some (.int .i64 a0_2) := (blk_cell BK124.out 2).trans rfl; have hcz20_3 : w18.cell? ⟨gb124, 3, none⟩ = some (.int .i64 a0_3) := (blk_cell BK124.out 3).trans rfl; have hcz20_4 : w18.cell? ⟨gb124, 4, none⟩ = some (.int .i64 a0_4) := (blk_cell BK124.out 4).trans rfl; have hcz20_5 : w18.cell? ⟨gb124, 5, none⟩ = some (.int .i64 a0_5) := (blk_cell BK124.out 5).trans rfl; have hcz20_6 : w18.cell? ⟨gb124, 6, none⟩ = some (.slice A0_6 l0_6.length c0_6) := (blk_cell BK124.out 6).trans rfl; have hcz20_7 : w18.cell? ⟨gb124, 7, none⟩ = some (.bool a0_7) := (blk_cell BK124.out 7).trans rfl; have hcz20_8 : w18.cell? ⟨gb124, 8, none⟩ = some (.int .i64 a0_8) := (blk_cell BK124.out 8).trans rfl; have hcz20_9 : w18.cell? ⟨gb124, 9, none⟩ = some (.slice A0_9 l0_9.length c0_9) := (blk_cell BK124.out 9).trans rfl; have hcz20_10 : w18.cell? ⟨gb124, 10, none⟩ = some (.int .i64 a0_10) := (blk_cell BK124.out 10).trans rfl; have hcz20_11 : w18.cell? ⟨gb124, 11, none⟩ = some (.int .i64 a0_11) := (blk_cell BK124.out 11).trans rfl; have hcz20_12 : w18.cell? ⟨gb124, 12, none⟩ = some (.int .i64 a0_12) := (blk_cell BK124.out 12).trans rfl; have hcz20_13 : w18.cell? ⟨gb124, 13, none⟩ = some (.slice A0_13 l0_13.length c0_13) := (blk_cell BK124.out 13).trans rfl; have hfz20_0 := blk_frozen BK124.out 0; have hfz20_1 := blk_frozen BK124.out 1; have hfz20_2 := blk_frozen BK124.out 2; have hfz20_3 := blk_frozen BK124.out 3; have hfz20_4 := blk_frozen BK124.out 4; have hfz20_5 := blk_frozen BK124.out 5; have hfz20_6 := blk_frozen BK124.out 6; have hfz20_7 := blk_frozen BK124.out 7; have hfz20_8 := blk_frozen BK124.out 8; have hfz20_9 := blk_frozen BK124.out 9; have hfz20_10 := blk_frozen BK124.out 10; have hfz20_11 := blk_frozen BK124.out 11; have hfz20_12 := blk_frozen BK124.out 12; have hfz20_13 := blk_frozen BK124.out 13; have hcz21_0 : w18.cell? ⟨gb125, 0, none⟩ = some (.int .i64 a1_0) := (blk_cell BK125.out 0).trans rfl; have hcz21_1 : w18.cell? ⟨gb125, 1, none⟩ = some (.int .i64 a1_1) := (blk_cell BK125.out 1).trans rfl; have hcz21_2 : w18.cell? ⟨gb125, 2, none⟩ = some (.int .i64 a1_2) := (blk_cell BK125.out 2).trans rfl; have hcz21_3 : w18.cell? ⟨gb125, 3, none⟩ = some (.int .i64 a1_3) := (blk_cell BK125.out 3).trans rfl; have hcz21_4 : w18.cell? ⟨gb125, 4, none⟩ = some (.int .i64 a1_4) := (blk_cell BK125.out 4).trans rfl; have hcz21_5 : w18.cell? ⟨gb125, 5, none⟩ = some (.int .i64 a1_5) := (blk_cell BK125.out 5).trans rfl; have hcz21_6 : w18.cell? ⟨gb125, 6, none⟩ = some (.slice A1_6 l1_6.length c1_6) := (blk_cell BK125.out 6).trans rfl; have hcz21_7 : w18.cell? ⟨gb125, 7, none⟩ = some (.bool a1_7) := (blk_cell BK125.out 7).trans rfl; have hcz21_8 : w18.cell? ⟨gb125, 8, none⟩ = some (.int .i64 a1_8) := (blk_cell BK125.out 8).trans rfl; have hcz21_9 : w18.cell? ⟨gb125, 9, none⟩ = some (.slice A1_9 l1_9.length c1_9) := (blk_cell BK125.out 9).trans rfl; have hcz21_10 : w18.cell? ⟨gb125, 10, none⟩ = some (.int .i64 a1_10) := (blk_cell BK125.out 10).trans rfl; have hcz21_11 : w18.cell? ⟨gb125, 11, none⟩ = some (.int .i64 a1_11) := (blk_cell BK125.out 11).trans rfl; have hcz21_12 : w18.cell? ⟨gb125, 12, none⟩ = some (.int .i64 a1_12) := (blk_cell BK125.out 12).trans rfl; have hcz21_13 : w18.cell? ⟨gb125, 13, none⟩ = some (.slice A1_13 l1_13.length c1_13) := (blk_cell BK125.out 13).trans rfl; have hfz21_0 := blk_frozen BK125.out 0; have hfz21_1 := blk_frozen BK125.out 1; have hfz21_2 := blk_frozen BK125.out 2; have hfz21_3 := blk_frozen BK125.out 3; have hfz21_4 := blk_frozen BK125.out 4; have hfz21_5 := blk_frozen BK125.out 5; have hfz21_6 := blk_frozen BK125.out 6; have hfz21_7 := blk_frozen BK125.out 7; have hfz21_8 := blk_frozen BK125.out 8; have hfz21_9 := blk_frozen BK125.out 9; have hfz21_10 := blk_frozen BK125.out 10; have hfz21_11 := blk_frozen BK125.out 11; have hfz21_12 := blk_frozen BK125.out 12; have hfz21_13 := blk_frozen BK125.out 13) | ((with_reducible refine gate_callee (f := 189) rfl ?_); refine goe_ (some 39) Try.func189 #[.agg #[.slice A0_6 l0_6.length c0_6, .bool a0_7, .int .i64 a0_8, .slice A0_9 l0_9.length c0_9, .int .i64 a0_10, .int .i64 a0_11, .int .i64 a0_12, .slice A0_13 l0_13.length c0_13], .agg #[.slice A1_6 l1_6.length c1_6, .bool a1_7, .int .i64 a1_8, .slice A1_9 l1_9.length c1_9, .int .i64 a1_10, .int .i64 a1_11, .int .i64 a1_12, .slice A1_13 l1_13.length c1_13]] ?_; (with_reducible refine (laws_eqUpdate.calls k _ _ l0_6 a0_7 a0_8 _ _ l0_9 a0_10 a0_11 a0_12 _ _ l0_13 _ _ l1_6 a1_7 a1_8 _ _ l1_9 a1_10 a1_11 a1_12 _ _ l1_13 false _ ?side1 ?side2 ?side3 ?side4 ?side5 ?side6 ?side7 ?side8 ?side9 ?side10 ?side11 ?side12 A9.out).mono ?_); (case side1 => exact kc_ (Kd.C_below HR0_6.out HB.out)); (case side2 => exact HC0_6.out); (case side3 => exact kc_ (Kd.C_below HR0_9.out HB.out)); (case side4 => exact HC0_9.out); (case side5 => exact kc_ (Kd.C_below HR0_13.out HB.out)); (case side6 => exact HC0_13.out); (case side7 => exact kc_ (Kd.C_below HR1_6.out HB.out)); (case side8 => exact HC1_6.out); (case side9 => exact kc_ (Kd.C_below HR1_9.out HB.out)); (case side10 => exact HC1_9.out); (case side11 => exact kc_ (Kd.C_below HR1_13.out HB.out)); (case side12 => exact HC1_13.out); rintro e w22 ⟨rfl, hb⟩; refine ⟨_, rfl, ?_⟩; replace BK124 := Aside0.mk (blk_below (kb_ BK124) hb); replace BK125 := Aside0.mk (blk_below (kb_ BK125) hb); replace HB := Aside0.mk (below_step bb_ hb); (try clear hb); (try clear hb2); (try clear hk); (try clear hi)))
                go_ret
                exact ⟨er_, bb_⟩
            · rw [if_neg c8] at H
              have c8b0 : (a0_5 == a1_5) = false := beq_eq_false_iff_ne.mpr c8
              have c8b1 : (a0_5 != a1_5) = true := bne_iff_ne.mpr c8
              obtain rfl := Option.some.inj H
              go_enter Try.func143, Try.ntmps143
              go_wp2_with (first | ((with_reducible refine gate_dst (N := 2) rfl ?_); refine box_e_ 2 #[.int .i64 a0_0, .int .i64 a0_1, .int .i64 a0_2, .int .i64 a0_3, .int .i64 a0_4, .int .i64 a0_5, .slice A0_6 l0_6.length c0_6, .bool a0_7, .int .i64 a0_8, .slice A0_9 l0_9.length c0_9, .int .i64 a0_10, .int .i64 a0_11, .int .i64 a0_12, .slice A0_13 l0_13.length c0_13] 136 ?_; intro gb124 hg w23 hbox hb; have BK124 := Aside0.mk (hbox); have GW124 := (bs_ hg : Aside0 (w.heap.size ≤ _)); have GE124 := (bs_ hg : Aside0 (w.heap.size ≤ _)); replace HB := Aside0.mk (below_step bb_ hb); clear hb hbox hg) | ((with_reducible refine gate_dst (N := 3) rfl ?_); refine box_e_ 3 #[.int .i64 a1_0, .int .i64 a1_1, .int .i64 a1_2, .int .i64 a1_3, .int .i64 a1_4, .int .i64 a1_5, .slice A1_6 l1_6.length c1_6, .bool a1_7, .int .i64 a1_8, .slice A1_9 l1_9.length c1_9, .int .i64 a1_10, .int .i64 a1_11, .int .i64 a1_12, .slice A1_13 l1_13.length c1_13] 136 ?_; intro gb125 hg w24 hbox hb; have BK125 := Aside0.mk (hbox); have GW125 := (bs_ hg : Aside0 (w.heap.size ≤ _)); have GE125 := (bs_ hg : Aside0 (w.heap.size ≤ _)); replace HB := Aside0.mk (below_step bb_ hb); have NB124_125 := (nl_ hg BK124 : Aside0 (gb124 ≠ gb125)); have NB125_124 := (nr_ hg BK124 : Aside0 (gb125 ≠ gb124)); replace BK124 := Aside0.mk (blk_below (kb_ BK124) hb); clear hb hbox hg; have hnb25 := NB124_125.out; have hnc25 := NB125_124.out; have hcz26_0 : w24.cell? ⟨gb124, 0, none⟩ = some (.int .i64 a0_0) := (blk_cell BK124.out 0).trans rfl; have hcz26_1 : w24.cell? ⟨gb124, 1, none⟩ = some (.int .i64 a0_1) := (blk_cell BK124.out 1).trans rfl; have hcz26_2 : w24.cell? ⟨gb124, 2, none⟩ = some (.int .i64 a0_2) := (blk_cell BK124.out 2).trans rfl; have hcz26_3 : w24.cell? ⟨gb124, 3, none⟩ = some (.int .i64 a0_3) := (blk_cell BK124.out 3).trans rfl; have hcz26_4 : w24.cell? ⟨gb124, 4, none⟩ = some (.int .i64 a0_4) := (blk_cell BK124.out 4).trans rfl; have hcz26_5 : w24.cell? ⟨gb124, 5, none⟩ = some (.int .i64 a0_5) := (blk_cell BK124.out 5).trans rfl; have hcz26_6 : w24.cell? ⟨gb124, 6, none⟩ = some (.slice A0_6 l0_6.length c0_6) := (blk_cell BK124.out 6).trans rfl; have hcz26_7 : w24.cell? ⟨gb124, 7, none⟩ = some (.bool a0_7) := (blk_cell BK124.out 7).trans rfl; have hcz26_8 : w24.cell? ⟨gb124, 8, none⟩ = some (.int .i64 a0_8) := (blk_cell BK124.out 8).trans rfl; have hcz26_9 : w24.cell? ⟨gb124, 9, none⟩ = some (.slice A0_9 l0_9.length c0_9) := (blk_cell BK124.out 9).trans rfl; have hcz26_10 : w24.cell? ⟨gb124, 10, none⟩ = some (.int .i64 a0_10) := (blk_cell BK124.out 10).trans rfl; have hcz26_11 : w24.cell? ⟨gb124, 11, none⟩ = some (.int .i64 a0_11) := (blk_cell BK124.out 11).trans rfl; have hcz26_12 : w24.cell? ⟨gb124, 12, none⟩ = some (.int .i64 a0_12) := (blk_cell BK124.out 12).trans rfl; have hcz26_13 : w24.cell? ⟨gb124, 13, none⟩ = some (.slice A0_13 l0_13.length c0_13) := (blk_cell BK124.out 13).trans rfl; have hfz26_0 := blk_frozen BK124.out 0; have hfz26_1 := blk_frozen BK124.out 1; have hfz26_2 := blk_frozen BK124.out 2; have hfz26_3 := blk_frozen BK124.out 3; have hfz26_4 := blk_frozen BK124.out 4; have hfz26_5 := blk_frozen BK124.out 5; have hfz26_6 := blk_frozen BK124.out 6; have hfz26_7 := blk_frozen BK124.out 7; have hfz26_8 := blk_frozen BK124.out 8; have hfz26_9 := blk_frozen BK124.out 9; have hfz26_10 := blk_frozen BK124.out 10; have hfz26_11 := blk_frozen BK124.out 11; have hfz26_12 := blk_frozen BK124.out 12; have hfz26_13 := blk_frozen BK124.out 13; have hcz27_0 : w24.cell? ⟨gb125, 0, none⟩ = some (.int .i64 a1_0) := (blk_cell BK125.out 0).trans rfl; have hcz27_1 : w24.cell? ⟨gb125, 1, none⟩ = some (.int .i64 a1_1) := (blk_cell BK125.out 1).trans rfl; have hcz27_2 : w24.cell? ⟨gb125, 2, none⟩ = some (.int .i64 a1_2) := (blk_cell BK125.out 2).trans rfl; have hcz27_3 : w24.cell? ⟨gb125, 3, none⟩ = some (.int .i64 a1_3) := (blk_cell BK125.out 3).trans rfl; have hcz27_4 : w24.cell? ⟨gb125, 4, none⟩ = some (.int .i64 a1_4) := (blk_cell BK125.out 4).trans rfl; have hcz27_5 : w24.cell? ⟨gb125, 5, none⟩ = some (.int .i64 a1_5) := (blk_cell BK125.out 5).trans rfl; have hcz27_6 : w24.cell? ⟨gb125, 6, none⟩ = some (.slice A1_6 l1_6.length c1_6) := (blk_cell BK125.out 6).trans rfl; have hcz27_7 : w24.cell? ⟨gb125, 7, none⟩ = some (.bool a1_7) := (blk_cell BK125.out 7).trans rfl; have hcz27_8 : w24.cell? ⟨gb125, 8, none⟩ = some (.int .i64 a1_8) := (blk_cell BK125.out 8).trans rfl; have hcz27_9 : w24.cell? ⟨gb125, 9, none⟩ = some (.slice A1_9 l1_9.length c1_9) := (blk_cell BK125.out 9).trans rfl; have hcz27_10 : w24.cell? ⟨gb125, 10, none⟩ = some (.int .i64 a1_10) := (blk_cell BK125.out 10).trans rfl; have hcz27_11 : w24.cell? ⟨gb125, 11, none⟩ = some (.int .i64 a1_11) := (blk_cell BK125.out 11).trans rfl; have hcz27_12 : w24.cell? ⟨gb125, 12, none⟩ = some (.int .i64 a1_12) := (blk_cell BK125.out 12).trans rfl; have hcz27_13 : w24.cell? ⟨gb125, 13, none⟩ = some (.slice A1_13 l1_13.length c1_13) := (blk_cell BK125.out 13).trans rfl; have hfz27_0 := blk_frozen BK125.out 0; have hfz27_1 := blk_frozen BK125.out 1; have hfz27_2 := blk_frozen BK125.out 2; have hfz27_3 := blk_frozen BK125.out 3; have hfz27_4 := blk_frozen BK125.out 4; have hfz27_5 := blk_frozen BK125.out 5; have hfz27_6 := blk_frozen BK125.out 6; have hfz27_7 := blk_frozen BK125.out 7; have hfz27_8 := blk_frozen BK125.out 8; have hfz27_9 := blk_frozen BK125.out 9; have hfz27_10 := blk_frozen BK125.out 10; have hfz27_11 := blk_frozen BK125.out 11; have hfz27_12 := blk_frozen BK125.out 12; have hfz27_13 := blk_frozen BK125.out 13))
              go_ret
              exact ⟨er_, bb_⟩
          · rw [if_neg c7] at H
            have c7b0 : (a0_4 == a1_4) = false := beq_eq_false_iff_ne.mpr c7
            have c7b1 : (a0_4 != a1_4) = true := bne_iff_ne.mpr c7
            obtain rfl := Option.some.inj H
            go_enter Try.func143, Try.ntmps143
            go_wp2_with (first | ((with_reducible refine gate_dst (N := 2) rfl ?_); refine box_e_ 2 #[.int .i64 a0_0, .int .i64 a0_1, .int .i64 a0_2, .int .i64 a0_3, .int .i64 a0_4, .int .i64 a0_5, .slice A0_6 l0_6.length c0_6, .bool a0_7, .int .i64 a0_8, .slice A0_9 l0_9.length c0_9, .int .i64 a0_10, .int .i64 a0_11, .int .i64 a0_12, .slice A0_13 l0_13.length c0_13] 136 ?_; intro gb124 hg w28 hbox hb; have BK124 := Aside0.mk (hbox); have GW124 := (bs_ hg : Aside0 (w.heap.size ≤ _)); have GE124 := (bs_ hg : Aside0 (w.heap.size ≤ _)); replace HB := Aside0.mk (below_step bb_ hb); clear hb hbox hg) | ((with_reducible refine gate_dst (N := 3) rfl ?_); refine box_e_ 3 #[.int .i64 a1_0, .int .i64 a1_1, .int .i64 a1_2, .int .i64 a1_3, .int .i64 a1_4, .int .i64 a1_5, .slice A1_6 l1_6.length c1_6, .bool a1_7, .int .i64 a1_8, .slice A1_9 l1_9.length c1_9, .int .i64 a1_10, .int .i64 a1_11, .int .i64 a1_12, .slice A1_13 l1_13.length c1_13] 136 ?_; intro gb125 hg w29 hbox hb; have BK125 := Aside0.mk (hbox); have GW125 := (bs_ hg : Aside0 (w.heap.size ≤ _)); have GE125 := (bs_ hg : Aside0 (w.heap.size ≤ _)); replace HB := Aside0.mk (below_step bb_ hb); have NB124_125 := (nl_ hg BK124 : Aside0 (gb124 ≠ gb125)); have NB125_124 := (nr_ hg BK124 : Aside0 (gb125 ≠ gb124)); replace BK124 := Aside0.mk (blk_below (kb_ BK124) hb); clear hb hbox hg; have hnb30 := NB124_125.out; have hnc30 := NB125_124.out; have hcz31_0 : w29.cell? ⟨gb124, 0, none⟩ = some (.int .i64 a0_0) := (blk_cell BK124.out 0).trans rfl; have hcz31_1 : w29.cell? ⟨gb124, 1, none⟩ = some (.int .i64 a0_1) := (blk_cell BK124.out 1).trans rfl; have hcz31_2 : w29.cell? ⟨gb124, 2, none⟩ = some (.int .i64 a0_2) := (blk_cell BK124.out 2).trans rfl; have hcz31_3 : w29.cell? ⟨gb124, 3, none⟩ = some (.int .i64 a0_3) := (blk_cell BK124.out 3).trans rfl; have hcz31_4 : w29.cell? ⟨gb124, 4, none⟩ = some (.int .i64 a0_4) := (blk_cell BK124.out 4).trans rfl; have hcz31_5 : w29.cell? ⟨gb124, 5, none⟩ = some (.int .i64 a0_5) := (blk_cell BK124.out 5).trans rfl; have hcz31_6 : w29.cell? ⟨gb124, 6, none⟩ = some (.slice A0_6 l0_6.length c0_6) := (blk_cell BK124.out 6).trans rfl; have hcz31_7 : w29.cell? ⟨gb124, 7, none⟩ = some (.bool a0_7) := (blk_cell BK124.out 7).trans rfl; have hcz31_8 : w29.cell? ⟨gb124, 8, none⟩ = some (.int .i64 a0_8) := (blk_cell BK124.out 8).trans rfl; have hcz31_9 : w29.cell? ⟨gb124, 9, none⟩ = some (.slice A0_9 l0_9.length c0_9) := (blk_cell BK124.out 9).trans rfl; have hcz31_10 : w29.cell? ⟨gb124, 10, none⟩ = some (.int .i64 a0_10) := (blk_cell BK124.out 10).trans rfl; have hcz31_11 : w29.cell? ⟨gb124, 11, none⟩ = some (.int .i64 a0_11) := (blk_cell BK124.out 11).trans rfl; have hcz31_12 : w29.cell? ⟨gb124, 12, none⟩ = some (.int .i64 a0_12) := (blk_cell BK124.out 12).trans rfl; have hcz31_13 : w29.cell? ⟨gb124, 13, none⟩ = some (.slice A0_13 l0_13.length c0_13) := (blk_cell BK124.out 13).trans rfl; have hfz31_0 := blk_frozen BK124.out 0; have hfz31_1 := blk_frozen BK124.out 1; have hfz31_2 := blk_frozen BK124.out 2; have hfz31_3 := blk_frozen BK124.out 3; have hfz31_4 := blk_frozen BK124.out 4; have hfz31_5 := blk_frozen BK124.out 5; have hfz31_6 := blk_frozen BK124.out 6; have hfz31_7 := blk_frozen BK124.out 7; have hfz31_8 := blk_frozen BK124.out 8; have hfz31_9 := blk_frozen BK124.out 9; have hfz31_10 := blk_frozen BK124.out 10; have hfz31_11 := blk_frozen BK124.out 11; have hfz31_12 := blk_frozen BK124.out 12; have hfz31_13 := blk_frozen BK124.out 13; have hcz32_0 : w29.cell? ⟨gb125, 0, none⟩ = some (.int .i64 a1_0) := (blk_cell BK125.out 0).trans rfl; have hcz32_1 : w29.cell? ⟨gb125, 1, none⟩ = some (.int .i64 a1_1) := (blk_cell BK125.out 1).trans rfl; have hcz32_2 : w29.cell? ⟨gb125, 2, none⟩ = some (.int .i64 a1_2) := (blk_cell BK125.out 2).trans rfl; have hcz32_3 : w29.cell? ⟨gb125, 3, none⟩ = some (.int .i64 a1_3) := (blk_cell BK125.out 3).trans rfl; have hcz32_4 : w29.cell? ⟨gb125, 4, none⟩ = some (.int .i64 a1_4) := (blk_cell BK125.out 4).trans rfl; have hcz32_5 : w29.cell? ⟨gb125, 5, none⟩ = some (.int .i64 a1_5) := (blk_cell BK125.out 5).trans rfl; have hcz32_6 : w29.cell? ⟨gb125, 6, none⟩ = some (.slice A1_6 l1_6.length c1_6) := (blk_cell BK125.out 6).trans rfl; have hcz32_7 : w29.cell? ⟨gb125, 7, none⟩ = some (.bool a1_7) := (blk_cell BK125.out 7).trans rfl; have hcz32_8 : w29.cell? ⟨gb125, 8, none⟩ = some (.int .i64 a1_8) := (blk_cell BK125.out 8).trans rfl; have hcz32_9 : w29.cell? ⟨gb125, 9, none⟩ = some (.slice A1_9 l1_9.length c1_9) := (blk_cell BK125.out 9).trans rfl; have hcz32_10 : w29.cell? ⟨gb125, 10, none⟩ = some (.int .i64 a1_10) := (blk_cell BK125.out 10).trans rfl; have hcz32_11 : w29.cell? ⟨gb125, 11, none⟩ = some (.int .i64 a1_11) := (blk_cell BK125.out 11).trans rfl; have hcz32_12 : w29.cell? ⟨gb125, 12, none⟩ = some (.int .i64 a1_12) := (blk_cell BK125.out 12).trans rfl; have hcz32_13 : w29.cell? ⟨gb125, 13, none⟩ = some (.slice A1_13 l1_13.length c1_13) := (blk_cell BK125.out 13).trans rfl; have hfz32_0 := blk_frozen BK125.out 0; have hfz32_1 := blk_frozen BK125.out 1; have hfz32_2 := blk_frozen BK125.out 2; have hfz32_3 := blk_frozen BK125.out 3; have hfz32_4 := blk_frozen BK125.out 4; have hfz32_5 := blk_frozen BK125.out 5; have hfz32_6 := blk_frozen BK125.out 6; have hfz32_7 := blk_frozen BK125.out 7; have hfz32_8 := blk_frozen BK125.out 8; have hfz32_9 := blk_frozen BK125.out 9; have hfz32_10 := blk_frozen BK125.out 10; have hfz32_11 := blk_frozen BK125.out 11; have hfz32_12 := blk_frozen BK125.out 12; have hfz32_13 := blk_frozen BK125.out 13))
            go_ret
            exact ⟨er_, bb_⟩
        · rw [if_neg c6] at H
          have c6b0 : (a0_3 == a1_3) = false := beq_eq_false_iff_ne.mpr c6
          have c6b1 : (a0_3 != a1_3) = true := bne_iff_ne.mpr c6
          obtain rfl := Option.some.inj H
          go_enter Try.func143, Try.ntmps143
          go_wp2_with (first | ((with_reducible refine gate_dst (N := 2) rfl ?_); refine box_e_ 2 #[.int .i64 a0_0, .int .i64 a0_1, .int .i64 a0_2, .int .i64 a0_3, .int .i64 a0_4, .int .i64 a0_5, .slice A0_6 l0_6.length c0_6, .bool a0_7, .int .i64 a0_8, .slice A0_9 l0_9.length c0_9, .int .i64 a0_10, .int .i64 a0_11, .int .i64 a0_12, .slice A0_13 l0_13.length c0_13] 136 ?_; intro gb124 hg w33 hbox hb; have BK124 := Aside0.mk (hbox); have GW124 := (bs_ hg : Aside0 (w.heap.size ≤ _)); have GE124 := (bs_ hg : Aside0 (w.heap.size ≤ _)); replace HB := Aside0.mk (below_step bb_ hb); clear hb hbox hg) | ((with_reducible refine gate_dst (N := 3) rfl ?_); refine box_e_ 3 #[.int .i64 a1_0, .int .i64 a1_1, .int .i64 a1_2, .int .i64 a1_3, .int .i64 a1_4, .int .i64 a1_5, .slice A1_6 l1_6.length c1_6, .bool a1_7, .int .i64 a1_8, .slice A1_9 l1_9.length c1_9, .int .i64 a1_10, .int .i64 a1_11, .int .i64 a1_12, .slice A1_13 l1_13.length c1_13] 136 ?_; intro gb125 hg w34 hbox hb; have BK125 := Aside0.mk (hbox); have GW125 := (bs_ hg : Aside0 (w.heap.size ≤ _)); have GE125 := (bs_ hg : Aside0 (w.heap.size ≤ _)); replace HB := Aside0.mk (below_step bb_ hb); have NB124_125 := (nl_ hg BK124 : Aside0 (gb124 ≠ gb125)); have NB125_124 := (nr_ hg BK124 : Aside0 (gb125 ≠ gb124)); replace BK124 := Aside0.mk (blk_below (kb_ BK124) hb); clear hb hbox hg; have hnb35 := NB124_125.out; have hnc35 := NB125_124.out; have hcz36_0 : w34.cell? ⟨gb124, 0, none⟩ = some (.int .i64 a0_0) := (blk_cell BK124.out 0).trans rfl; have hcz36_1 : w34.cell? ⟨gb124, 1, none⟩ = some (.int .i64 a0_1) := (blk_cell BK124.out 1).trans rfl; have hcz36_2 : w34.cell? ⟨gb124, 2, none⟩ = some (.int .i64 a0_2) := (blk_cell BK124.out 2).trans rfl; have hcz36_3 : w34.cell? ⟨gb124, 3, none⟩ = some (.int .i64 a0_3) := (blk_cell BK124.out 3).trans rfl; have hcz36_4 : w34.cell? ⟨gb124, 4, none⟩ = some (.int .i64 a0_4) := (blk_cell BK124.out 4).trans rfl; have hcz36_5 : w34.cell? ⟨gb124, 5, none⟩ = some (.int .i64 a0_5) := (blk_cell BK124.out 5).trans rfl; have hcz36_6 : w34.cell? ⟨gb124, 6, none⟩ = some (.slice A0_6 l0_6.length c0_6) := (blk_cell BK124.out 6).trans rfl; have hcz36_7 : w34.cell? ⟨gb124, 7, none⟩ = some (.bool a0_7) := (blk_cell BK124.out 7).trans rfl; have hcz36_8 : w34.cell? ⟨gb124, 8, none⟩ = some (.int .i64 a0_8) := (blk_cell BK124.out 8).trans rfl; have hcz36_9 : w34.cell? ⟨gb124, 9, none⟩ = some (.slice A0_9 l0_9.length c0_9) := (blk_cell BK124.out 9).trans rfl; have hcz36_10 : w34.cell? ⟨gb124, 10, none⟩ = some (.int .i64 a0_10) := (blk_cell BK124.out 10).trans rfl; have hcz36_11 : w34.cell? ⟨gb124, 11, none⟩ = some (.int .i64 a0_11) := (blk_cell BK124.out 11).trans rfl; have hcz36_12 : w34.cell? ⟨gb124, 12, none⟩ = some (.int .i64 a0_12) := (blk_cell BK124.out 12).trans rfl; have hcz36_13 : w34.cell? ⟨gb124, 13, none⟩ = some (.slice A0_13 l0_13.length c0_13) := (blk_cell BK124.out 13).trans rfl; have hfz36_0 := blk_frozen BK124.out 0; have hfz36_1 := blk_frozen BK124.out 1; have hfz36_2 := blk_frozen BK124.out 2; have hfz36_3 := blk_frozen BK124.out 3; have hfz36_4 := blk_frozen BK124.out 4; have hfz36_5 := blk_frozen BK124.out 5; have hfz36_6 := blk_frozen BK124.out 6; have hfz36_7 := blk_frozen BK124.out 7; have hfz36_8 := blk_frozen BK124.out 8; have hfz36_9 := blk_frozen BK124.out 9; have hfz36_10 := blk_frozen BK124.out 10; have hfz36_11 := blk_frozen BK124.out 11; have hfz36_12 := blk_frozen BK124.out 12; have hfz36_13 := blk_frozen BK124.out 13; have hcz37_0 : w34.cell? ⟨gb125, 0, none⟩ = some (.int .i64 a1_0) := (blk_cell BK125.out 0).trans rfl; have hcz37_1 : w34.cell? ⟨gb125, 1, none⟩ = some (.int .i64 a1_1) := (blk_cell BK125.out 1).trans rfl; have hcz37_2 : w34.cell? ⟨gb125, 2, none⟩ = some (.int .i64 a1_2) := (blk_cell BK125.out 2).trans rfl; have hcz37_3 : w34.cell? ⟨gb125, 3, none⟩ = some (.int .i64 a1_3) := (blk_cell BK125.out 3).trans rfl; have hcz37_4 : w34.cell? ⟨gb125, 4, none⟩ = some (.int .i64 a1_4) := (blk_cell BK125.out 4).trans rfl; have hcz37_5 : w34.cell? ⟨gb125, 5, none⟩ = some (.int .i64 a1_5) := (blk_cell BK125.out 5).trans rfl; have hcz37_6 : w34.cell? ⟨gb125, 6, none⟩ = some (.slice A1_6 l1_6.length c1_6) := (blk_cell BK125.out 6).trans rfl; have hcz37_7 : w34.cell? ⟨gb125, 7, none⟩ = some (.bool a1_7) := (blk_cell BK125.out 7).trans rfl; have hcz37_8 : w34.cell? ⟨gb125, 8, none⟩ = some (.int .i64 a1_8) := (blk_cell BK125.out 8).trans rfl; have hcz37_9 : w34.cell? ⟨gb125, 9, none⟩ = some (.slice A1_9 l1_9.length c1_9) := (blk_cell BK125.out 9).trans rfl; have hcz37_10 : w34.cell? ⟨gb125, 10, none⟩ = some (.int .i64 a1_10) := (blk_cell BK125.out 10).trans rfl; have hcz37_11 : w34.cell? ⟨gb125, 11, none⟩ = some (.int .i64 a1_11) := (blk_cell BK125.out 11).trans rfl; have hcz37_12 : w34.cell? ⟨gb125, 12, none⟩ = some (.int .i64 a1_12) := (blk_cell BK125.out 12).trans rfl; have hcz37_13 : w34.cell? ⟨gb125, 13, none⟩ = some (.slice A1_13 l1_13.length c1_13) := (blk_cell BK125.out 13).trans rfl; have hfz37_0 := blk_frozen BK125.out 0; have hfz37_1 := blk_frozen BK125.out 1; have hfz37_2 := blk_frozen BK125.out 2; have hfz37_3 := blk_frozen BK125.out 3; have hfz37_4 := blk_frozen BK125.out 4; have hfz37_5 := blk_frozen BK125.out 5; have hfz37_6 := blk_frozen BK125.out 6; have hfz37_7 := blk_frozen BK125.out 7; have hfz37_8 := blk_frozen BK125.out 8; have hfz37_9 := blk_frozen BK125.out 9; have hfz37_10 := blk_frozen BK125.out 10; have hfz37_11 := blk_frozen BK125.out 11; have hfz37_12 := blk_frozen BK125.out 12; have hfz37_13 := blk_frozen BK125.out 13))
          go_ret
          exact ⟨er_, bb_⟩
      · rw [if_neg c5] at H
        have c5b0 : (a0_2 == a1_2) = false := beq_eq_false_iff_ne.mpr c5
        have c5b1 : (a0_2 != a1_2) = true := bne_iff_ne.mpr c5
        obtain rfl := Option.some.inj H
        go_enter Try.func143, Try.ntmps143
        go_wp2_with (first | ((with_reducible refine gate_dst (N := 2) rfl ?_); refine box_e_ 2 #[.int .i64 a0_0, .int .i64 a0_1, .int .i64 a0_2, .int .i64 a0_3, .int .i64 a0_4, .int .i64 a0_5, .slice A0_6 l0_6.length c0_6, .bool a0_7, .int .i64 a0_8, .slice A0_9 l0_9.length c0_9, .int .i64 a0_10, .int .i64 a0_11, .int .i64 a0_12, .slice A0_13 l0_13.length c0_13] 136 ?_; intro gb124 hg w38 hbox hb; have BK124 := Aside0.mk (hbox); have GW124 := (bs_ hg : Aside0 (w.heap.size ≤ _)); have GE124 := (bs_ hg : Aside0 (w.heap.size ≤ _)); replace HB := Aside0.mk (below_step bb_ hb); clear hb hbox hg) | ((with_reducible refine gate_dst (N := 3) rfl ?_); refine box_e_ 3 #[.int .i64 a1_0, .int .i64 a1_1, .int .i64 a1_2, .int .i64 a1_3, .int .i64 a1_4, .int .i64 a1_5, .slice A1_6 l1_6.length c1_6, .bool a1_7, .int .i64 a1_8, .slice A1_9 l1_9.length c1_9, .int .i64 a1_10, .int .i64 a1_11, .int .i64 a1_12, .slice A1_13 l1_13.length c1_13] 136 ?_; intro gb125 hg w39 hbox hb; have BK125 := Aside0.mk (hbox); have GW125 := (bs_ hg : Aside0 (w.heap.size ≤ _)); have GE125 := (bs_ hg : Aside0 (w.heap.size ≤ _)); replace HB := Aside0.mk (below_step bb_ hb); have NB124_125 := (nl_ hg BK124 : Aside0 (gb124 ≠ gb125)); have NB125_124 := (nr_ hg BK124 : Aside0 (gb125 ≠ gb124)); replace BK124 := Aside0.mk (blk_below (kb_ BK124) hb); clear hb hbox hg; have hnb40 := NB124_125.out; have hnc40 := NB125_124.out; have hcz41_0 : w39.cell? ⟨gb124, 0, none⟩ = some (.int .i64 a0_0) := (blk_cell BK124.out 0).trans rfl; have hcz41_1 : w39.cell? ⟨gb124, 1, none⟩ = some (.int .i64 a0_1) := (blk_cell BK124.out 1).trans rfl; have hcz41_2 : w39.cell? ⟨gb124, 2, none⟩ = some (.int .i64 a0_2) := (blk_cell BK124.out 2).trans rfl; have hcz41_3 : w39.cell? ⟨gb124, 3, none⟩ = some (.int .i64 a0_3) := (blk_cell BK124.out 3).trans rfl; have hcz41_4 : w39.cell? ⟨gb124, 4, none⟩ = some (.int .i64 a0_4) := (blk_cell BK124.out 4).trans rfl; have hcz41_5 : w39.cell? ⟨gb124, 5, none⟩ = some (.int .i64 a0_5) := (blk_cell BK124.out 5).trans rfl; have hcz41_6 : w39.cell? ⟨gb124, 6, none⟩ = some (.slice A0_6 l0_6.length c0_6) := (blk_cell BK124.out 6).trans rfl; have hcz41_7 : w39.cell? ⟨gb124, 7, none⟩ = some (.bool a0_7) := (blk_cell BK124.out 7).trans rfl; have hcz41_8 : w39.cell? ⟨gb124, 8, none⟩ = some (.int .i64 a0_8) := (blk_cell BK124.out 8).trans rfl; have hcz41_9 : w39.cell? ⟨gb124, 9, none⟩ = some (.slice A0_9 l0_9.length c0_9) := (blk_cell BK124.out 9).trans rfl; have hcz41_10 : w39.cell? ⟨gb124, 10, none⟩ = some (.int .i64 a0_10) := (blk_cell BK124.out 10).trans rfl; have hcz41_11 : w39.cell? ⟨gb124, 11, none⟩ = some (.int .i64 a0_11) := (blk_cell BK124.out 11).trans rfl; have hcz41_12 : w39.cell? ⟨gb124, 12, none⟩ = some (.int .i64 a0_12) := (blk_cell BK124.out 12).trans rfl; have hcz41_13 : w39.cell? ⟨gb124, 13, none⟩ = some (.slice A0_13 l0_13.length c0_13) := (blk_cell BK124.out 13).trans rfl; have hfz41_0 := blk_frozen BK124.out 0; have hfz41_1 := blk_frozen BK124.out 1; have hfz41_2 := blk_frozen BK124.out 2; have hfz41_3 := blk_frozen BK124.out 3; have hfz41_4 := blk_frozen BK124.out 4; have hfz41_5 := blk_frozen BK124.out 5; have hfz41_6 := blk_frozen BK124.out 6; have hfz41_7 := blk_frozen BK124.out 7; have hfz41_8 := blk_frozen BK124.out 8; have hfz41_9 := blk_frozen BK124.out 9; have hfz41_10 := blk_frozen BK124.out 10; have hfz41_11 := blk_frozen BK124.out 11; have hfz41_12 := blk_frozen BK124.out 12; have hfz41_13 := blk_frozen BK124.out 13; have hcz42_0 : w39.cell? ⟨gb125, 0, none⟩ = some (.int .i64 a1_0) := (blk_cell BK125.out 0).trans rfl; have hcz42_1 : w39.cell? ⟨gb125, 1, none⟩ = some (.int .i64 a1_1) := (blk_cell BK125.out 1).trans rfl; have hcz42_2 : w39.cell? ⟨gb125, 2, none⟩ = some (.int .i64 a1_2) := (blk_cell BK125.out 2).trans rfl; have hcz42_3 : w39.cell? ⟨gb125, 3, none⟩ = some (.int .i64 a1_3) := (blk_cell BK125.out 3).trans rfl; have hcz42_4 : w39.cell? ⟨gb125, 4, none⟩ = some (.int .i64 a1_4) := (blk_cell BK125.out 4).trans rfl; have hcz42_5 : w39.cell? ⟨gb125, 5, none⟩ = some (.int .i64 a1_5) := (blk_cell BK125.out 5).trans rfl; have hcz42_6 : w39.cell? ⟨gb125, 6, none⟩ = some (.slice A1_6 l1_6.length c1_6) := (blk_cell BK125.out 6).trans rfl; have hcz42_7 : w39.cell? ⟨gb125, 7, none⟩ = some (.bool a1_7) := (blk_cell BK125.out 7).trans rfl; have hcz42_8 : w39.cell? ⟨gb125, 8, none⟩ = some (.int .i64 a1_8) := (blk_cell BK125.out 8).trans rfl; have hcz42_9 : w39.cell? ⟨gb125, 9, none⟩ = some (.slice A1_9 l1_9.length c1_9) := (blk_cell BK125.out 9).trans rfl; have hcz42_10 : w39.cell? ⟨gb125, 10, none⟩ = some (.int .i64 a1_10) := (blk_cell BK125.out 10).trans rfl; have hcz42_11 : w39.cell? ⟨gb125, 11, none⟩ = some (.int .i64 a1_11) := (blk_cell BK125.out 11).trans rfl; have hcz42_12 : w39.cell? ⟨gb125, 12, none⟩ = some (.int .i64 a1_12) := (blk_cell BK125.out 12).trans rfl; have hcz42_13 : w39.cell? ⟨gb125, 13, none⟩ = some (.slice A1_13 l1_13.length c1_13) := (blk_cell BK125.out 13).trans rfl; have hfz42_0 := blk_frozen BK125.out 0; have hfz42_1 := blk_frozen BK125.out 1; have hfz42_2 := blk_frozen BK125.out 2; have hfz42_3 := blk_frozen BK125.out 3; have hfz42_4 := blk_frozen BK125.out 4; have hfz42_5 := blk_frozen BK125.out 5; have hfz42_6 := blk_frozen BK125.out 6; have hfz42_7 := blk_frozen BK125.out 7; have hfz42_8 := blk_frozen BK125.out 8; have hfz42_9 := blk_frozen BK125.out 9; have hfz42_10 := blk_frozen BK125.out 10; have hfz42_11 := blk_frozen BK125.out 11; have hfz42_12 := blk_frozen BK125.out 12; have hfz42_13 := blk_frozen BK125.out 13))
        go_ret
        exact ⟨er_, bb_⟩
    · rw [if_neg c4] at H
      have c4b0 : (a0_1 == a1_1) = false := beq_eq_false_iff_ne.mpr c4
      have c4b1 : (a0_1 != a1_1) = true := bne_iff_ne.mpr c4
      obtain rfl := Option.some.inj H
      go_enter Try.func143, Try.ntmps143
      go_wp2_with (first | ((with_reducible refine gate_dst (N := 2) rfl ?_); refine box_e_ 2 #[.int .i64 a0_0, .int .i64 a0_1, .int .i64 a0_2, .int .i64 a0_3, .int .i64 a0_4, .int .i64 a0_5, .slice A0_6 l0_6.length c0_6, .bool a0_7, .int .i64 a0_8, .slice A0_9 l0_9.length c0_9, .int .i64 a0_10, .int .i64 a0_11, .int .i64 a0_12, .slice A0_13 l0_13.length c0_13] 136 ?_; intro gb124 hg w43 hbox hb; have BK124 := Aside0.mk (hbox); have GW124 := (bs_ hg : Aside0 (w.heap.size ≤ _)); have GE124 := (bs_ hg : Aside0 (w.heap.size ≤ _)); replace HB := Aside0.mk (below_step bb_ hb); clear hb hbox hg) | ((with_reducible refine gate_dst (N := 3) rfl ?_); refine box_e_ 3 #[.int .i64 a1_0, .int .i64 a1_1, .int .i64 a1_2, .int .i64 a1_3, .int .i64 a1_4, .int .i64 a1_5, .slice A1_6 l1_6.length c1_6, .bool a1_7, .int .i64 a1_8, .slice A1_9 l1_9.length c1_9, .int .i64 a1_10, .int .i64 a1_11, .int .i64 a1_12, .slice A1_13 l1_13.length c1_13] 136 ?_; intro gb125 hg w44 hbox hb; have BK125 := Aside0.mk (hbox); have GW125 := (bs_ hg : Aside0 (w.heap.size ≤ _)); have GE125 := (bs_ hg : Aside0 (w.heap.size ≤ _)); replace HB := Aside0.mk (below_step bb_ hb); have NB124_125 := (nl_ hg BK124 : Aside0 (gb124 ≠ gb125)); have NB125_124 := (nr_ hg BK124 : Aside0 (gb125 ≠ gb124)); replace BK124 := Aside0.mk (blk_below (kb_ BK124) hb); clear hb hbox hg; have hnb45 := NB124_125.out; have hnc45 := NB125_124.out; have hcz46_0 : w44.cell? ⟨gb124, 0, none⟩ = some (.int .i64 a0_0) := (blk_cell BK124.out 0).trans rfl; have hcz46_1 : w44.cell? ⟨gb124, 1, none⟩ = some (.int .i64 a0_1) := (blk_cell BK124.out 1).trans rfl; have hcz46_2 : w44.cell? ⟨gb124, 2, none⟩ = some (.int .i64 a0_2) := (blk_cell BK124.out 2).trans rfl; have hcz46_3 : w44.cell? ⟨gb124, 3, none⟩ = some (.int .i64 a0_3) := (blk_cell BK124.out 3).trans rfl; have hcz46_4 : w44.cell? ⟨gb124, 4, none⟩ = some (.int .i64 a0_4) := (blk_cell BK124.out 4).trans rfl; have hcz46_5 : w44.cell? ⟨gb124, 5, none⟩ = some (.int .i64 a0_5) := (blk_cell BK124.out 5).trans rfl; have hcz46_6 : w44.cell? ⟨gb124, 6, none⟩ = some (.slice A0_6 l0_6.length c0_6) := (blk_cell BK124.out 6).trans rfl; have hcz46_7 : w44.cell? ⟨gb124, 7, none⟩ = some (.bool a0_7) := (blk_cell BK124.out 7).trans rfl; have hcz46_8 : w44.cell? ⟨gb124, 8, none⟩ = some (.int .i64 a0_8) := (blk_cell BK124.out 8).trans rfl; have hcz46_9 : w44.cell? ⟨gb124, 9, none⟩ = some (.slice A0_9 l0_9.length c0_9) := (blk_cell BK124.out 9).trans rfl; have hcz46_10 : w44.cell? ⟨gb124, 10, none⟩ = some (.int .i64 a0_10) := (blk_cell BK124.out 10).trans rfl; have hcz46_11 : w44.cell? ⟨gb124, 11, none⟩ = some (.int .i64 a0_11) := (blk_cell BK124.out 11).trans rfl; have hcz46_12 : w44.cell? ⟨gb124, 12, none⟩ = some (.int .i64 a0_12) := (blk_cell BK124.out 12).trans rfl; have hcz46_13 : w44.cell? ⟨gb124, 13, none⟩ = some (.slice A0_13 l0_13.length c0_13) := (blk_cell BK124.out 13).trans rfl; have hfz46_0 := blk_frozen BK124.out 0; have hfz46_1 := blk_frozen BK124.out 1; have hfz46_2 := blk_frozen BK124.out 2; have hfz46_3 := blk_frozen BK124.out 3; have hfz46_4 := blk_frozen BK124.out 4; have hfz46_5 := blk_frozen BK124.out 5; have hfz46_6 := blk_frozen BK124.out 6; have hfz46_7 := blk_frozen BK124.out 7; have hfz46_8 := blk_frozen BK124.out 8; have hfz46_9 := blk_frozen BK124.out 9; have hfz46_10 := blk_frozen BK124.out 10; have hfz46_11 := blk_frozen BK124.out 11; have hfz46_12 := blk_frozen BK124.out 12; have hfz46_13 := blk_frozen BK124.out 13; have hcz47_0 : w44.cell? ⟨gb125, 0, none⟩ = some (.int .i64 a1_0) := (blk_cell BK125.out 0).trans rfl; have hcz47_1 : w44.cell? ⟨gb125, 1, none⟩ = some (.int .i64 a1_1) := (blk_cell BK125.out 1).trans rfl; have hcz47_2 : w44.cell? ⟨gb125, 2, none⟩ = some (.int .i64 a1_2) := (blk_cell BK125.out 2).trans rfl; have hcz47_3 : w44.cell? ⟨gb125, 3, none⟩ = some (.int .i64 a1_3) := (blk_cell BK125.out 3).trans rfl; have hcz47_4 : w44.cell? ⟨gb125, 4, none⟩ = some (.int .i64 a1_4) := (blk_cell BK125.out 4).trans rfl; have hcz47_5 : w44.cell? ⟨gb125, 5, none⟩ = some (.int .i64 a1_5) := (blk_cell BK125.out 5).trans rfl; have hcz47_6 : w44.cell? ⟨gb125, 6, none⟩ = some (.slice A1_6 l1_6.length c1_6) := (blk_cell BK125.out 6).trans rfl; have hcz47_7 : w44.cell? ⟨gb125, 7, none⟩ = some (.bool a1_7) := (blk_cell BK125.out 7).trans rfl; have hcz47_8 : w44.cell? ⟨gb125, 8, none⟩ = some (.int .i64 a1_8) := (blk_cell BK125.out 8).trans rfl; have hcz47_9 : w44.cell? ⟨gb125, 9, none⟩ = some (.slice A1_9 l1_9.length c1_9) := (blk_cell BK125.out 9).trans rfl; have hcz47_10 : w44.cell? ⟨gb125, 10, none⟩ = some (.int .i64 a1_10) := (blk_cell BK125.out 10).trans rfl; have hcz47_11 : w44.cell? ⟨gb125, 11, none⟩ = some (.int .i64 a1_11) := (blk_cell BK125.out 11).trans rfl; have hcz47_12 : w44.cell? ⟨gb125, 12, none⟩ = some (.int .i64 a1_12) := (blk_cell BK125.out 12).trans rfl; have hcz47_13 : w44.cell? ⟨gb125, 13, none⟩ = some (.slice A1_13 l1_13.length c1_13) := (blk_cell BK125.out 13).trans rfl; have hfz47_0 := blk_frozen BK125.out 0; have hfz47_1 := blk_frozen BK125.out 1; have hfz47_2 := blk_frozen BK125.out 2; have hfz47_3 := blk_frozen BK125.out 3; have hfz47_4 := blk_frozen BK125.out 4; have hfz47_5 := blk_frozen BK125.out 5; have hfz47_6 := blk_frozen BK125.out 6; have hfz47_7 := blk_frozen BK125.out 7; have hfz47_8 := blk_frozen BK125.out 8; have hfz47_9 := blk_frozen BK125.out 9; have hfz47_10 := blk_frozen BK125.out 10; have hfz47_11 := blk_frozen BK125.out 11; have hfz47_12 := blk_frozen BK125.out 12; have hfz47_13 := blk_frozen BK125.out 13))
      go_ret
      exact ⟨er_, bb_⟩
  · rw [if_neg c3] at H
    have c3b0 : (a0_0 == a1_0) = false := beq_eq_false_iff_ne.mpr c3
    have c3b1 : (a0_0 != a1_0) = true := bne_iff_ne.mpr c3
    obtain rfl := Option.some.inj H
    go_enter Try.func143, Try.ntmps143
    go_wp2_with (first | ((with_reducible refine gate_dst (N := 2) rfl ?_); refine box_e_ 2 #[.int .i64 a0_0, .int .i64 a0_1, .int .i64 a0_2, .int .i64 a0_3, .int .i64 a0_4, .int .i64 a0_5, .slice A0_6 l0_6.length c0_6, .bool a0_7, .int .i64 a0_8, .slice A0_9 l0_9.length c0_9, .int .i64 a0_10, .int .i64 a0_11, .int .i64 a0_12, .slice A0_13 l0_13.length c0_13] 136 ?_; intro gb124 hg w48 hbox hb; have BK124 := Aside0.mk (hbox); have GW124 := (bs_ hg : Aside0 (w.heap.size ≤ _)); have GE124 := (bs_ hg : Aside0 (w.heap.size ≤ _)); replace HB := Aside0.mk (below_step bb_ hb); clear hb hbox hg) | ((with_reducible refine gate_dst (N := 3) rfl ?_); refine box_e_ 3 #[.int .i64 a1_0, .int .i64 a1_1, .int .i64 a1_2, .int .i64 a1_3, .int .i64 a1_4, .int .i64 a1_5, .slice A1_6 l1_6.length c1_6, .bool a1_7, .int .i64 a1_8, .slice A1_9 l1_9.length c1_9, .int .i64 a1_10, .int .i64 a1_11, .int .i64 a1_12, .slice A1_13 l1_13.length c1_13] 136 ?_; intro gb125 hg w49 hbox hb; have BK125 := Aside0.mk (hbox); have GW125 := (bs_ hg : Aside0 (w.heap.size ≤ _)); have GE125 := (bs_ hg : Aside0 (w.heap.size ≤ _)); replace HB := Aside0.mk (below_step bb_ hb); have NB124_125 := (nl_ hg BK124 : Aside0 (gb124 ≠ gb125)); have NB125_124 := (nr_ hg BK124 : Aside0 (gb125 ≠ gb124)); replace BK124 := Aside0.mk (blk_below (kb_ BK124) hb); clear hb hbox hg; have hnb50 := NB124_125.out; have hnc50 := NB125_124.out; have hcz51_0 : w49.cell? ⟨gb124, 0, none⟩ = some (.int .i64 a0_0) := (blk_cell BK124.out 0).trans rfl; have hcz51_1 : w49.cell? ⟨gb124, 1, none⟩ = some (.int .i64 a0_1) := (blk_cell BK124.out 1).trans rfl; have hcz51_2 : w49.cell? ⟨gb124, 2, none⟩ = some (.int .i64 a0_2) := (blk_cell BK124.out 2).trans rfl; have hcz51_3 : w49.cell? ⟨gb124, 3, none⟩ = some (.int .i64 a0_3) := (blk_cell BK124.out 3).trans rfl; have hcz51_4 : w49.cell? ⟨gb124, 4, none⟩ = some (.int .i64 a0_4) := (blk_cell BK124.out 4).trans rfl; have hcz51_5 : w49.cell? ⟨gb124, 5, none⟩ = some (.int .i64 a0_5) := (blk_cell BK124.out 5).trans rfl; have hcz51_6 : w49.cell? ⟨gb124, 6, none⟩ = some (.slice A0_6 l0_6.length c0_6) := (blk_cell BK124.out 6).trans rfl; have hcz51_7 : w49.cell? ⟨gb124, 7, none⟩ = some (.bool a0_7) := (blk_cell BK124.out 7).trans rfl; have hcz51_8 : w49.cell? ⟨gb124, 8, none⟩ = some (.int .i64 a0_8) := (blk_cell BK124.out 8).trans rfl; have hcz51_9 : w49.cell? ⟨gb124, 9, none⟩ = some (.slice A0_9 l0_9.length c0_9) := (blk_cell BK124.out 9).trans rfl; have hcz51_10 : w49.cell? ⟨gb124, 10, none⟩ = some (.int .i64 a0_10) := (blk_cell BK124.out 10).trans rfl; have hcz51_11 : w49.cell? ⟨gb124, 11, none⟩ = some (.int .i64 a0_11) := (blk_cell BK124.out 11).trans rfl; have hcz51_12 : w49.cell? ⟨gb124, 12, none⟩ = some (.int .i64 a0_12) := (blk_cell BK124.out 12).trans rfl; have hcz51_13 : w49.cell? ⟨gb124, 13, none⟩ = some (.slice A0_13 l0_13.length c0_13) := (blk_cell BK124.out 13).trans rfl; have hfz51_0 := blk_frozen BK124.out 0; have hfz51_1 := blk_frozen BK124.out 1; have hfz51_2 := blk_frozen BK124.out 2; have hfz51_3 := blk_frozen BK124.out 3; have hfz51_4 := blk_frozen BK124.out 4; have hfz51_5 := blk_frozen BK124.out 5; have hfz51_6 := blk_frozen BK124.out 6; have hfz51_7 := blk_frozen BK124.out 7; have hfz51_8 := blk_frozen BK124.out 8; have hfz51_9 := blk_frozen BK124.out 9; have hfz51_10 := blk_frozen BK124.out 10; have hfz51_11 := blk_frozen BK124.out 11; have hfz51_12 := blk_frozen BK124.out 12; have hfz51_13 := blk_frozen BK124.out 13; have hcz52_0 : w49.cell? ⟨gb125, 0, none⟩ = some (.int .i64 a1_0) := (blk_cell BK125.out 0).trans rfl; have hcz52_1 : w49.cell? ⟨gb125, 1, none⟩ = some (.int .i64 a1_1) := (blk_cell BK125.out 1).trans rfl; have hcz52_2 : w49.cell? ⟨gb125, 2, none⟩ = some (.int .i64 a1_2) := (blk_cell BK125.out 2).trans rfl; have hcz52_3 : w49.cell? ⟨gb125, 3, none⟩ = some (.int .i64 a1_3) := (blk_cell BK125.out 3).trans rfl; have hcz52_4 : w49.cell? ⟨gb125, 4, none⟩ = some (.int .i64 a1_4) := (blk_cell BK125.out 4).trans rfl; have hcz52_5 : w49.cell? ⟨gb125, 5, none⟩ = some (.int .i64 a1_5) := (blk_cell BK125.out 5).trans rfl; have hcz52_6 : w49.cell? ⟨gb125, 6, none⟩ = some (.slice A1_6 l1_6.length c1_6) := (blk_cell BK125.out 6).trans rfl; have hcz52_7 : w49.cell? ⟨gb125, 7, none⟩ = some (.bool a1_7) := (blk_cell BK125.out 7).trans rfl; have hcz52_8 : w49.cell? ⟨gb125, 8, none⟩ = some (.int .i64 a1_8) := (blk_cell BK125.out 8).trans rfl; have hcz52_9 : w49.cell? ⟨gb125, 9, none⟩ = some (.slice A1_9 l1_9.length c1_9) := (blk_cell BK125.out 9).trans rfl; have hcz52_10 : w49.cell? ⟨gb125, 10, none⟩ = some (.int .i64 a1_10) := (blk_cell BK125.out 10).trans rfl; have hcz52_11 : w49.cell? ⟨gb125, 11, none⟩ = some (.int .i64 a1_11) := (blk_cell BK125.out 11).trans rfl; have hcz52_12 : w49.cell? ⟨gb125, 12, none⟩ = some (.int .i64 a1_12) := (blk_cell BK125.out 12).trans rfl; have hcz52_13 : w49.cell? ⟨gb125, 13, none⟩ = some (.slice A1_13 l1_13.length c1_13) := (blk_cell BK125.out 13).trans rfl; have hfz52_0 := blk_frozen BK125.out 0; have hfz52_1 := blk_frozen BK125.out 1; have hfz52_2 := blk_frozen BK125.out 2; have hfz52_3 := blk_frozen BK125.out 3; have hfz52_4 := blk_frozen BK125.out 4; have hfz52_5 := blk_frozen BK125.out 5; have hfz52_6 := blk_frozen BK125.out 6; have hfz52_7 := blk_frozen BK125.out 7; have hfz52_8 := blk_frozen BK125.out 8; have hfz52_9 := blk_frozen BK125.out 9; have hfz52_10 := blk_frozen BK125.out 10; have hfz52_11 := blk_frozen BK125.out 11; have hfz52_12 := blk_frozen BK125.out 12; have hfz52_13 := blk_frozen BK125.out 13))
    go_ret
    exact ⟨er_, bb_⟩
end Go.Proofs.Ythmkjapmnlhflaa.PFnExactTickSession
