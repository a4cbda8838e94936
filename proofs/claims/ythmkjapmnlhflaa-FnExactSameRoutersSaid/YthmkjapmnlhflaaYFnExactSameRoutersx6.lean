/- The functions that the law FnExactSameRouters reaches: each as a plain Lean function, with the proof that the call does what it says. -/
import Derived.Test.YthmkjapmnlhflaaYFnExactSameRoutersx0
import Derived.Test.YthmkjapmnlhflaaYFnExactSameRoutersx4
import Derived.Test.YthmkjapmnlhflaaYFnExactSameRoutersx5
namespace Go.Proofs.Ythmkjapmnlhflaa.PFnExactSameRouters
open Go.RowKit Go.Proofs.YthmkjapmnlhflaaW.PrintWords Go.Proofs.YthmkjapmnlhflaaW.PrintLast Go.Proofs.YthmkjapmnlhflaaW.PrintMore
attribute [local go_sem] max2_int min2_int max_two min_two max_three min_three max_four min_four
set_option linter.unusedVariables false
set_option linter.unusedSimpArgs false
attribute [local go_sem high] eqA212
def laws_szRoute.f (a0_0 : Int) (a0_1 : Int) (a0_2 : Int) (a0_3 : Int) (l0_4 : List Int) (a0_5 : Int) (a0_6 : Int) (a0_7 : Int) (a1 : Int) : Option (Int) := (laws_szAttrs.f a0_3 l0_4 a0_5 a0_6 a0_7 a1).bind fun t116 => (if t116 < 0 then (some (-1)) else (some t116))
set_option maxHeartbeats 8000000 in
set_option maxRecDepth 100000 in
theorem laws_szRoute.calls (a0_0 : Int) (a0_1 : Int) (a0_2 : Int) (a0_3 : Int) (A0_4 : Option Addr) (c0_4 : Nat) (l0_4 : List Int) (a0_5 : Int) (a0_6 : Int) (a0_7 : Int) (a1 : Int) (r : Int) (w : World) (hr0_4 : Kd.C (Kd.int .i64) w A0_4 l0_4.length l0_4) (hc0_4 : l0_4.length ≤ c0_4) (h : laws_szRoute.f a0_0 a0_1 a0_2 a0_3 l0_4 a0_5 a0_6 a0_7 a1 = some r) :
    Calls Try.prog 159 #[.agg #[.int .i64 a0_0, .int .i64 a0_1, .int .i64 a0_2, .int .i64 a0_3, .slice A0_4 l0_4.length c0_4, .int .i64 a0_5, .int .i64 a0_6, .int .i64 a0_7], .int .i64 a1] w fun e w' => e = .returned (.int .i64 r) ∧ Below w.heap.size w w' := by
  have hu210 := Try.underlying210; have hu208 := Try.underlying208; have HR0_4 := Aside0.mk hr0_4; have HC0_4 := Aside0.mk hc0_4; clear hr0_4 hc0_4; have HB := Aside0.mk (Below.refl w.heap.size w); have H : ((laws_szAttrs.f a0_3 l0_4 a0_5 a0_6 a0_7 a1).bind fun t116 => (if t116 < 0 then (some (-1)) else (some t116))) = some r := h; clear h; replace H := Option.bind_eq_some_iff.mp H; obtain ⟨t116, A30, H⟩ := H; replace H : (if t116 < 0 then (some (-1)) else (some t116)) = some r := H; have A3 := Aside0.mk A30; clear A30
  by_cases c4 : t116 < 0
  · rw [if_pos c4] at H
    have c4b0 : decide (t116 < 0) = true := decide_eq_true c4; clear c4; obtain rfl := Option.some.inj H
    go_enter Try.func159, Try.ntmps159
    go_wp2_with (first | ((with_reducible refine gate_dst (N := 2) rfl ?_); refine box_e_ 2 #[.int .i64 a0_0, .int .i64 a0_1, .int .i64 a0_2, .int .i64 a0_3, .slice A0_4 l0_4.length c0_4, .int .i64 a0_5, .int .i64 a0_6, .int .i64 a0_7] 210 ?_; intro gb115 hg w5 hbox hb; have BK115 := Aside0.mk (hbox); have GW115 := (bs_ hg : Aside0 (w.heap.size ≤ _)); have GE115 := (bs_ hg : Aside0 (w.heap.size ≤ _)); replace HB := bw_ hb; clear hb hbox hg; obtain ⟨hcz6_0, hcz6_1, hcz6_2, hcz6_3, hcz6_4, hcz6_5, hcz6_6, hcz6_7, hfz6_0, hfz6_1, hfz6_2, hfz6_3, hfz6_4, hfz6_5, hfz6_6, hfz6_7⟩ := cf8_ BK115) | ((with_reducible refine gate_callee (f := 193) rfl ?_); refine goe_ (some 8) Try.func193 #[.agg #[.int .i64 a0_3, .slice A0_4 l0_4.length c0_4, .int .i64 a0_5, .int .i64 a0_6, .int .i64 a0_7], .int .i64 a1] ?_; (with_reducible refine (laws_szAttrs.calls a0_3 _ _ l0_4 a0_5 a0_6 a0_7 a1 t116 _ ?side1 ?side2 A3.out).mono ?_); (case side1 => exact kc_ (Kd.C_below HR0_4.out HB.out)); (case side2 => exact HC0_4.out); rintro e w7 ⟨rfl, hb⟩; refine ⟨_, rfl, ?_⟩; replace BK115 := bl_ BK115 hb; replace HB := bw_ hb; (try clear hb)))
    go_ret
    exact ⟨er_, bb_⟩
  · rw [if_neg c4] at H
    have c4b0 : decide (t116 < 0) = false := decide_eq_false c4; clear c4; obtain rfl := Option.some.inj H
    go_enter Try.func159, Try.ntmps159
    go_wp2_with (first | ((with_reducible refine gate_dst (N := 2) rfl ?_); refine box_e_ 2 #[.int .i64 a0_0, .int .i64 a0_1, .int .i64 a0_2, .int .i64 a0_3, .slice A0_4 l0_4.length c0_4, .int .i64 a0_5, .int .i64 a0_6, .int .i64 a0_7] 210 ?_; intro gb115 hg w8 hbox hb; have BK115 := Aside0.mk (hbox); have GW115 := (bs_ hg : Aside0 (w.heap.size ≤ _)); have GE115 := (bs_ hg : Aside0 (w.heap.size ≤ _)); replace HB := bw_ hb; clear hb hbox hg; obtain ⟨hcz9_0, hcz9_1, hcz9_2, hcz9_3, hcz9_4, hcz9_5, hcz9_6, hcz9_7, hfz9_0, hfz9_1, hfz9_2, hfz9_3, hfz9_4, hfz9_5, hfz9_6, hfz9_7⟩ := cf8_ BK115) | ((with_reducible refine gate_callee (f := 193) rfl ?_); refine goe_ (some 8) Try.func193 #[.agg #[.int .i64 a0_3, .slice A0_4 l0_4.length c0_4, .int .i64 a0_5, .int .i64 a0_6, .int .i64 a0_7], .int .i64 a1] ?_; (with_reducible refine (laws_szAttrs.calls a0_3 _ _ l0_4 a0_5 a0_6 a0_7 a1 t116 _ ?side1 ?side2 A3.out).mono ?_); (case side1 => exact kc_ (Kd.C_below HR0_4.out HB.out)); (case side2 => exact HC0_4.out); rintro e w10 ⟨rfl, hb⟩; refine ⟨_, rfl, ?_⟩; replace BK115 := bl_ BK115 hb; replace HB := bw_ hb; (try clear hb)))
    go_ret
    exact ⟨er_, bb_⟩
def laws_szRouteS.l0 : Nat → List (S210) → Int → Int → Option (Int)
  | 0, _, _, _ => none
  | k + 1, x0, x1, x5 => if x5 < (x0.length : Int) then (if 0 ≤ x5 then ((laws_szRoute.f ((rd_T210 x0 x5).f0) ((rd_T210 x0 x5).f1.f0) ((rd_T210 x0 x5).f1.f1) ((rd_T210 x0 x5).f2.f0) ((rd_T210 x0 x5).f2.f1) ((rd_T210 x0 x5).f2.f2) ((rd_T210 x0 x5).f2.f3) ((rd_T210 x0 x5).f2.f4) x1).bind fun t118 => (if t118 < 0 then (some (-1)) else (laws_szRouteS.l0 k x0 t118 (wrap64 (x5 + 1))))) else (none)) else (some x1)
def laws_szRouteS.f (k : Nat) (l0 : List (S210)) (a1 : Int) : Option (Int) := if (wrap64 (a1 - (l0.length : Int))) < 0 then (some (-1)) else (laws_szRouteS.l0 k l0 (wrap64 (a1 - (l0.length : Int))) 0)
theorem laws_szRouteS.mono_l : ∀ k, (∀ y0 y1 y2, LeO (laws_szRouteS.l0 k y0 y1 y2) (laws_szRouteS.l0 (k + 1) y0 y1 y2))
  | 0 => fun _ _ _ r h => by simp [laws_szRouteS.l0] at h
  | k + 1 => by
    have ih0 := laws_szRouteS.mono_l k
    · intro y0 y1 y2
      unfold laws_szRouteS.l0
      repeat' first
      | (with_reducible exact ih0 _ _ _)
      | (with_reducible exact LeO.refl _)
      | (with_reducible exact LeO.none _)
      | (with_reducible refine LeO.ite ?_ ?_)
      | (with_reducible refine LeO.bind ?_ (fun _ => ?_))
      | exact ih0 _ _ _
      | exact LeO.none _
      | refine LeO.ite ?_ ?_
      | refine LeO.bind ?_ (fun _ => ?_)
theorem laws_szRouteS.mono : ∀ a0 a1 k, LeO (laws_szRouteS.f k a0 a1) (laws_szRouteS.f (k + 1) a0 a1) := by
  intro a0 a1 k; have ih0 := laws_szRouteS.mono_l k; unfold laws_szRouteS.f
  repeat' first
      | (with_reducible exact ih0 _ _ _)
      | (with_reducible exact LeO.refl _)
      | (with_reducible exact LeO.none _)
      | (with_reducible refine LeO.ite ?_ ?_)
      | (with_reducible refine LeO.bind ?_ (fun _ => ?_))
      | exact ih0 _ _ _
      | exact LeO.none _
      | refine LeO.ite ?_ ?_
      | refine LeO.bind ?_ (fun _ => ?_)
set_option maxHeartbeats 8000000 in
set_option maxRecDepth 100000 in
theorem laws_szRouteS.calls (k : Nat) (A0 : Option Addr) (c0 : Nat) (l0 : List (S210)) (a1 : Int) (r : Int) (w : World) (hr0 : Kd.C k210 w A0 l0.length l0) (hc0 : l0.length ≤ c0) (h : laws_szRouteS.f k l0 a1 = some r) :
    Calls Try.prog 113 #[.slice A0 l0.length c0, .int .i64 a1] w fun e w' => e = .returned (.int .i64 r) ∧ Below w.heap.size w w' := by
  have hu210 := Try.underlying210; have HR0 := Aside0.mk hr0; have HC0 := Aside0.mk hc0; clear hr0 hc0; have HB := Aside0.mk (Below.refl w.heap.size w); have H : (if (wrap64 (a1 - (l0.length : Int))) < 0 then (some (-1)) else (laws_szRouteS.l0 k l0 (wrap64 (a1 - (l0.length : Int))) 0)) = some r := h; clear h
  by_cases c3 : (wrap64 (a1 - (l0.length : Int))) < 0
  · rw [if_pos c3] at H
    have c3b0 : decide ((wrap64 (a1 - (l0.length : Int))) < 0) = true := decide_eq_true c3; clear c3; obtain rfl := Option.some.inj H
    go_enter Try.func113, Try.ntmps113
    go_wp2
    go_ret
    exact ⟨er_, bb_⟩
  · rw [if_neg c3] at H
    have c3b0 : decide ((wrap64 (a1 - (l0.length : Int))) < 0) = false := decide_eq_false c3; clear c3; have H' := Aside0.mk H; clear H
    go_enter Try.func113, Try.ntmps113
    go_wp2
    go_loopg [1, 5] k (fun kq v1 v5 w' => ∃ (x1_1 : Int) (x5_1 : Int), v1 = .int .i64 x1_1 ∧ v5 = .int .i64 x5_1 ∧ Aside0 (laws_szRouteS.l0 kq l0 x1_1 x5_1 = some r) ∧ Aside0 (kq ≤ k) ∧ Aside0 (Below w.heap.size w w'))
    case atStart => exact ⟨(wrap64 (a1 - (l0.length : Int))), (0), sd_, sd_, H', ⟨Nat.le_refl _⟩, ⟨bb_⟩⟩
    case round =>
      clear H'; try clear c1
      try clear p2
      try clear c3
      try clear c3b0
      obtain ⟨x1_1, x5_1, rfl, rfl, HA, HK1, HB⟩ := hrel
      cases gk with
      | zero => exact absurd HA.out (by simp [laws_szRouteS.l0])
      | succ k1 =>
        have H := HA.out; clear HA; simp only [laws_szRouteS.l0] at H
        by_cases c4 : x5_1 < (l0.length : Int)
        · rw [if_pos c4] at H
          have c4b0 : decide (x5_1 < (l0.length : Int)) = true := decide_eq_true c4; clear c4
          by_cases c5 : 0 ≤ x5_1
          · rw [if_pos c5] at H
            have c5b0 : decide (0 ≤ x5_1) = true := decide_eq_true c5; clear c5; replace H := Option.bind_eq_some_iff.mp H; obtain ⟨t118, A60, H⟩ := H; replace H : (if t118 < 0 then (some (-1)) else (laws_szRouteS.l0 k1 l0 t118 (wrap64 (x5_1 + 1)))) = some r := H; have A6 := Aside0.mk A60; clear A60
            by_cases c7 : t118 < 0
            · rw [if_pos c7] at H
              have c7b0 : decide (t118 < 0) = true := decide_eq_true c7; clear c7; obtain rfl := Option.some.inj H; have p117 : 0 ≤ (x5_1 : Int) := of_decide_eq_true as_; have q117 : x5_1 < (l0.length : Int) := of_decide_eq_true as_; obtain ⟨ad117, A117_4, c117_4, e117, hx117_0, hx117_1, hx117_2, hx117_3, hx117_4, hx117_5, hx117_6, hx117_7, hl117_4, hi117_4⟩ := at_T210 HR0.out x5_1 p117 q117
              cases e117
              replace hx117_0 := hc_ hx117_0 HB.out; replace hx117_1 := hc_ hx117_1 HB.out; replace hx117_2 := hc_ hx117_2 HB.out; replace hx117_3 := hc_ hx117_3 HB.out; replace hx117_4 := hc_ hx117_4 HB.out; replace hx117_5 := hc_ hx117_5 HB.out; replace hx117_6 := hc_ hx117_6 HB.out; replace hx117_7 := hc_ hx117_7 HB.out; have HR117_4 := Aside0.mk hi117_4; have HC117_4 := Aside0.mk hl117_4; clear hi117_4 hl117_4; replace p117 := eq_true p117; replace q117 := eq_true q117; go_wp2_with (first | ((with_reducible refine gate_callee (f := 159) rfl ?_); refine goe_ (some 23) Try.func159 #[.agg #[.int .i64 ((rd_T210 l0 x5_1).f0), .int .i64 ((rd_T210 l0 x5_1).f1.f0), .int .i64 ((rd_T210 l0 x5_1).f1.f1), .int .i64 ((rd_T210 l0 x5_1).f2.f0), .slice A117_4 ((rd_T210 l0 x5_1).f2.f1).length c117_4, .int .i64 ((rd_T210 l0 x5_1).f2.f2), .int .i64 ((rd_T210 l0 x5_1).f2.f3), .int .i64 ((rd_T210 l0 x5_1).f2.f4)], .int .i64 x1_1] ?_; (with_reducible refine (laws_szRoute.calls ((rd_T210 l0 x5_1).f0) ((rd_T210 l0 x5_1).f1.f0) ((rd_T210 l0 x5_1).f1.f1) ((rd_T210 l0 x5_1).f2.f0) _ _ ((rd_T210 l0 x5_1).f2.f1) ((rd_T210 l0 x5_1).f2.f2) ((rd_T210 l0 x5_1).f2.f3) ((rd_T210 l0 x5_1).f2.f4) x1_1 t118 _ ?side1 ?side2 A6.out).mono ?_); (case side1 => exact kc_ (Kd.C_below HR117_4.out HB.out)); (case side2 => exact HC117_4.out); rintro e w8 ⟨rfl, hb⟩; refine ⟨_, rfl, ?_⟩; replace HB := bw_ hb; (try clear hb)))
              go_ret
              exact ⟨er_, bb_⟩
            · rw [if_neg c7] at H
              have c7b0 : decide (t118 < 0) = false := decide_eq_false c7; clear c7; have H' := Aside0.mk H; clear H; have p117 : 0 ≤ (x5_1 : Int) := of_decide_eq_true as_; have q117 : x5_1 < (l0.length : Int) := of_decide_eq_true as_; obtain ⟨ad117, A117_4, c117_4, e117, hx117_0, hx117_1, hx117_2, hx117_3, hx117_4, hx117_5, hx117_6, hx117_7, hl117_4, hi117_4⟩ := at_T210 HR0.out x5_1 p117 q117
              cases e117
              replace hx117_0 := hc_ hx117_0 HB.out; replace hx117_1 := hc_ hx117_1 HB.out; replace hx117_2 := hc_ hx117_2 HB.out; replace hx117_3 := hc_ hx117_3 HB.out; replace hx117_4 := hc_ hx117_4 HB.out; replace hx117_5 := hc_ hx117_5 HB.out; replace hx117_6 := hc_ hx117_6 HB.out; replace hx117_7 := hc_ hx117_7 HB.out; have HR117_4 := Aside0.mk hi117_4; have HC117_4 := Aside0.mk hl117_4; clear hi117_4 hl117_4; replace p117 := eq_true p117; replace q117 := eq_true q117; go_wp2_with (first | ((with_reducible refine gate_callee (f := 159) rfl ?_); refine goe_ (some 23) Try.func159 #[.agg #[.int .i64 ((rd_T210 l0 x5_1).f0), .int .i64 ((rd_T210 l0 x5_1).f1.f0), .int .i64 ((rd_T210 l0 x5_1).f1.f1), .int .i64 ((rd_T210 l0 x5_1).f2.f0), .slice A117_4 ((rd_T210 l0 x5_1).f2.f1).length c117_4, .int .i64 ((rd_T210 l0 x5_1).f2.f2), .int .i64 ((rd_T210 l0 x5_1).f2.f3), .int .i64 ((rd_T210 l0 x5_1).f2.f4)], .int .i64 x1_1] ?_; (with_reducible refine (laws_szRoute.calls ((rd_T210 l0 x5_1).f0) ((rd_T210 l0 x5_1).f1.f0) ((rd_T210 l0 x5_1).f1.f1) ((rd_T210 l0 x5_1).f2.f0) _ _ ((rd_T210 l0 x5_1).f2.f1) ((rd_T210 l0 x5_1).f2.f2) ((rd_T210 l0 x5_1).f2.f3) ((rd_T210 l0 x5_1).f2.f4) x1_1 t118 _ ?side1 ?side2 A6.out).mono ?_); (case side1 => exact kc_ (Kd.C_below HR117_4.out HB.out)); (case side2 => exact HC117_4.out); rintro e w9 ⟨rfl, hb⟩; refine ⟨_, rfl, ?_⟩; replace HB := bw_ hb; (try clear hb)))
              go_roundg k1
              case measure => have := HK1.out; omega
              case rel => exact ⟨(t118), (wrap64 (x5_1 + 1)), sd_, sd_, H', ⟨by have := HK1.out; omega⟩, ⟨bb_⟩⟩
          · rw [if_neg c5] at H
            exact absurd H (by simp)
        · rw [if_neg c4] at H
          have c4b0 : decide (x5_1 < (l0.length : Int)) = false := decide_eq_false c4; clear c4; obtain rfl := Option.some.inj H; go_wp2
          go_ret
          exact ⟨er_, bb_⟩
def laws_szRouter.f (k : Nat) (a0_0 : Int) (a0_1 : Int) (a0_2 : Int) (a0_3 : Int) (l0_4 : List (S233)) (l0_5 : List (S233)) (l0_6 : List (S206)) (l0_7 : List (S210)) (a1 : Int) : Option (Int) := (laws_szSettings.f a0_0 a0_1 a0_2 a0_3 l0_4 l0_5 a1).bind fun t120 => (if t120 < 0 then (some (-1)) else ((laws_szLinkS.f k l0_6 t120).bind fun t121 => (if t121 < 0 then (some (-1)) else ((laws_szRouteS.f k l0_7 t121).bind fun t122 => (if t122 < 0 then (some (-1)) else (some t122))))))
theorem laws_szRouter.mono : ∀ a0 a1 a2 a3 a4 a5 a6 a7 a8 k, LeO (laws_szRouter.f k a0 a1 a2 a3 a4 a5 a6 a7 a8) (laws_szRouter.f (k + 1) a0 a1 a2 a3 a4 a5 a6 a7 a8) := by
  intro a0 a1 a2 a3 a4 a5 a6 a7 a8 k; unfold laws_szRouter.f
  repeat' first
      | (with_reducible exact laws_szLinkS.mono _ _ _)
      | (with_reducible exact laws_szRouteS.mono _ _ _)
      | (with_reducible exact LeO.refl _)
      | (with_reducible exact LeO.none _)
      | (with_reducible refine LeO.ite ?_ ?_)
      | (with_reducible refine LeO.bind ?_ (fun _ => ?_))
      | exact laws_szLinkS.mono _ _ _
      | exact laws_szRouteS.mono _ _ _
      | exact LeO.none _
      | refine LeO.ite ?_ ?_
      | refine LeO.bind ?_ (fun _ => ?_)
set_option maxHeartbeats 8000000 in
set_option maxRecDepth 100000 in
theorem laws_szRouter.calls (k : Nat) (a0_0 : Int) (a0_1 : Int) (a0_2 : Int) (a0_3 : Int) (A0_4 : Option Addr) (c0_4 : Nat) (l0_4 : List (S233)) (A0_5 : Option Addr) (c0_5 : Nat) (l0_5 : List (S233)) (A0_6 : Option Addr) (c0_6 : Nat) (l0_6 : List (S206)) (A0_7 : Option Addr) (c0_7 : Nat) (l0_7 : List (S210)) (a1 : Int) (r : Int) (w : World) (hr0_4 : Kd.C k233 w A0_4 l0_4.length l0_4) (hc0_4 : l0_4.length ≤ c0_4) (hr0_5 : Kd.C k233 w A0_5 l0_5.length l0_5) (hc0_5 : l0_5.length ≤ c0_5) (hr0_6 : Kd.C k206 w A0_6 l0_6.length l0_6) (hc0_6 : l0_6.length ≤ c0_6) (hr0_7 : Kd.C k210 w A0_7 l0_7.length l0_7) (hc0_7 : l0_7.length ≤ c0_7) (h : laws_szRouter.f k a0_0 a0_1 a0_2 a0_3 l0_4 l0_5 l0_6 l0_7 a1 = some r) :
    Calls Try.prog 54 #[.agg #[.int .i64 a0_0, .int .i64 a0_1, .int .i64 a0_2, .int .i64 a0_3, .slice A0_4 l0_4.length c0_4, .slice A0_5 l0_5.length c0_5, .slice A0_6 l0_6.length c0_6, .slice A0_7 l0_7.length c0_7], .int .i64 a1] w fun e w' => e = .returned (.int .i64 r) ∧ Below w.heap.size w w' := by
  have hu88 := Try.underlying88; have hu84 := Try.underlying84; have HR0_4 := Aside0.mk hr0_4; have HC0_4 := Aside0.mk hc0_4; clear hr0_4 hc0_4; have HR0_5 := Aside0.mk hr0_5; have HC0_5 := Aside0.mk hc0_5; clear hr0_5 hc0_5; have HR0_6 := Aside0.mk hr0_6; have HC0_6 := Aside0.mk hc0_6; clear hr0_6 hc0_6; have HR0_7 := Aside0.mk hr0_7; have HC0_7 := Aside0.mk hc0_7; clear hr0_7 hc0_7; have HB := Aside0.mk (Below.refl w.heap.size w); have H : ((laws_szSettings.f a0_0 a0_1 a0_2 a0_3 l0_4 l0_5 a1).bind fun t120 => (if t120 < 0 then (some (-1)) else ((laws_szLinkS.f k l0_6 t120).bind fun t121 => (if t121 < 0 then (some (-1)) else ((laws_szRouteS.f k l0_7 t121).bind fun t122 => (if t122 < 0 then (some (-1)) else (some t122))))))) = some r := h; clear h; replace H := Option.bind_eq_some_iff.mp H; obtain ⟨t120, A30, H⟩ := H; replace H : (if t120 < 0 then (some (-1)) else ((laws_szLinkS.f k l0_6 t120).bind fun t121 => (if t121 < 0 then (some (-1)) else ((laws_szRouteS.f k l0_7 t121).bind fun t122 => (if t122 < 0 then (some (-1)) else (some t122)))))) = some r := H; have A3 := Aside0.mk A30; clear A30
  by_cases c4 : t120 < 0
  · rw [if_pos c4] at H
    have c4b0 : decide (t120 < 0) = true := decide_eq_true c4; clear c4; obtain rfl := Option.some.inj H
    go_enter Try.func54, Try.ntmps54
    go_wp2_with (first | ((with_reducible refine gate_dst (N := 2) rfl ?_); refine box_e_ 2 #[.int .i64 a0_0, .int .i64 a0_1, .int .i64 a0_2, .int .i64 a0_3, .slice A0_4 l0_4.length c0_4, .slice A0_5 l0_5.length c0_5, .slice A0_6 l0_6.length c0_6, .slice A0_7 l0_7.length c0_7] 88 ?_; intro gb119 hg w5 hbox hb; have BK119 := Aside0.mk (hbox); have GW119 := (bs_ hg : Aside0 (w.heap.size ≤ _)); have GE119 := (bs_ hg : Aside0 (w.heap.size ≤ _)); replace HB := bw_ hb; clear hb hbox hg; obtain ⟨hcz6_0, hcz6_1, hcz6_2, hcz6_3, hcz6_4, hcz6_5, hcz6_6, hcz6_7, hfz6_0, hfz6_1, hfz6_2, hfz6_3, hfz6_4, hfz6_5, hfz6_6, hfz6_7⟩ := cf8_ BK119) | ((with_reducible refine gate_callee (f := 111) rfl ?_); refine goe_ (some 8) Try.func111 #[.agg #[.int .i64 a0_0, .int .i64 a0_1, .int .i64 a0_2, .int .i64 a0_3, .slice A0_4 l0_4.length c0_4, .slice A0_5 l0_5.length c0_5], .int .i64 a1] ?_; (with_reducible refine (laws_szSettings.calls a0_0 a0_1 a0_2 a0_3 _ _ l0_4 _ _ l0_5 a1 t120 _ ?side1 ?side2 ?side3 ?side4 A3.out).mono ?_); (case side1 => exact kc_ (Kd.C_below HR0_4.out HB.out)); (case side2 => exact HC0_4.out); (case side3 => exact kc_ (Kd.C_below HR0_5.out HB.out)); (case side4 => exact HC0_5.out); rintro e w7 ⟨rfl, hb⟩; refine ⟨_, rfl, ?_⟩; replace BK119 := bl_ BK119 hb; replace HB := bw_ hb; (try clear hb)))
    go_ret
    exact ⟨er_, bb_⟩
  · rw [if_neg c4] at H
    have c4b0 : decide (t120 < 0) = false := decide_eq_false c4; clear c4; replace H := Option.bind_eq_some_iff.mp H; obtain ⟨t121, A80, H⟩ := H; replace H : (if t121 < 0 then (some (-1)) else ((laws_szRouteS.f k l0_7 t121).bind fun t122 => (if t122 < 0 then (some (-1)) else (some t122)))) = some r := H; have A8 := Aside0.mk A80; clear A80
    by_cases c9 : t121 < 0
    · rw [if_pos c9] at H
      have c9b0 : decide (t121 < 0) = true := decide_eq_true c9; clear c9; obtain rfl := Option.some.inj H
      go_enter Try.func54, Try.ntmps54
      go_wp2_with (first | ((with_reducible refine gate_dst (N := 2) rfl ?_); refine box_e_ 2 #[.int .i64 a0_0, .int .i64 a0_1, .int .i64 a0_2, .int .i64 a0_3, .slice A0_4 l0_4.length c0_4, .slice A0_5 l0_5.length c0_5, .slice A0_6 l0_6.length c0_6, .slice A0_7 l0_7.length c0_7] 88 ?_; intro gb119 hg w10 hbox hb; have BK119 := Aside0.mk (hbox); have GW119 := (bs_ hg : Aside0 (w.heap.size ≤ _)); have GE119 := (bs_ hg : Aside0 (w.heap.size ≤ _)); replace HB := bw_ hb; clear hb hbox hg; obtain ⟨hcz11_0, hcz11_1, hcz11_2, hcz11_3, hcz11_4, hcz11_5, hcz11_6, hcz11_7, hfz11_0, hfz11_1, hfz11_2, hfz11_3, hfz11_4, hfz11_5, hfz11_6, hfz11_7⟩ := cf8_ BK119) | ((with_reducible refine gate_callee (f := 111) rfl ?_); refine goe_ (some 8) Try.func111 #[.agg #[.int .i64 a0_0, .int .i64 a0_1, .int .i64 a0_2, .int .i64 a0_3, .slice A0_4 l0_4.length c0_4, .slice A0_5 l0_5.length c0_5], .int .i64 a1] ?_; (with_reducible refine (laws_szSettings.calls a0_0 a0_1 a0_2 a0_3 _ _ l0_4 _ _ l0_5 a1 t120 _ ?side1 ?side2 ?side3 ?side4 A3.out).mono ?_); (case side1 => exact kc_ (Kd.C_below HR0_4.out HB.out)); (case side2 => exact HC0_4.out); (case side3 => exact kc_ (Kd.C_below HR0_5.out HB.out)); (case side4 => exact HC0_5.out); rintro e w12 ⟨rfl, hb⟩; refine ⟨_, rfl, ?_⟩; replace BK119 := bl_ BK119 hb; replace HB := bw_ hb; (try clear hb); obtain ⟨hcz13_0, hcz13_1, hcz13_2, hcz13_3, hcz13_4, hcz13_5, hcz13_6, hcz13_7, hfz13_0, hfz13_1, hfz13_2, hfz13_3, hfz13_4, hfz13_5, hfz13_6, hfz13_7⟩ := cf8_ BK119) | ((with_reducible refine gate_callee (f := 112) rfl ?_); refine goe_ (some 14) Try.func112 #[.slice A0_6 l0_6.length c0_6, .int .i64 t120] ?_; (with_reducible refine (laws_szLinkS.calls k _ _ l0_6 t120 t121 _ ?side1 ?side2 A8.out).mono ?_); (case side1 => exact kc_ (Kd.C_below HR0_6.out HB.out)); (case side2 => exact HC0_6.out); rintro e w14 ⟨rfl, hb⟩; refine ⟨_, rfl, ?_⟩; replace BK119 := bl_ BK119 hb; replace HB := bw_ hb; (try clear hb)))
      go_ret
      exact ⟨er_, bb_⟩
    · rw [if_neg c9] at H
      have c9b0 : decide (t121 < 0) = false := decide_eq_false c9; clear c9; replace H := Option.bind_eq_some_iff.mp H; obtain ⟨t122, A150, H⟩ := H; replace H : (if t122 < 0 then (some (-1)) else (some t122)) = some r := H; have A15 := Aside0.mk A150; clear A150
      by_cases c16 : t122 < 0
      · rw [if_pos c16] at H
        have c16b0 : decide (t122 < 0) = true := decide_eq_true c16; clear c16; obtain rfl := Option.some.inj H
        go_enter Try.func54, Try.ntmps54
        go_wp2_with (first | ((with_reducible refine gate_dst (N := 2) rfl ?_); refine box_e_ 2 #[.int .i64 a0_0, .int .i64 a0_1, .int .i64 a0_2, .int .i64 a0_3, .slice A0_4 l0_4.length c0_4, .slice A0_5 l0_5.length c0_5, .slice A0_6 l0_6.length c0_6, .slice A0_7 l0_7.length c0_7] 88 ?_; intro gb119 hg w17 hbox hb; have BK119 := Aside0.mk (hbox); have GW119 := (bs_ hg : Aside0 (w.heap.size ≤ _)); have GE119 := (bs_ hg : Aside0 (w.heap.size ≤ _)); replace HB := bw_ hb; clear hb hbox hg; obtain ⟨hcz18_0, hcz18_1, hcz18_2, hcz18_3, hcz18_4, hcz18_5, hcz18_6, hcz18_7, hfz18_0, hfz18_1, hfz18_2, hfz18_3, hfz18_4, hfz18_5, hfz18_6, hfz18_7⟩ := cf8_ BK119) | ((with_reducible refine gate_callee (f := 111) rfl ?_); refine goe_ (some 8) Try.func111 #[.agg #[.int .i64 a0_0, .int .i64 a0_1, .int .i64 a0_2, .int .i64 a0_3, .slice A0_4 l0_4.length c0_4, .slice A0_5 l0_5.length c0_5], .int .i64 a1] ?_; (with_reducible refine (laws_szSettings.calls a0_0 a0_1 a0_2 a0_3 _ _ l0_4 _ _ l0_5 a1 t120 _ ?side1 ?side2 ?side3 ?side4 A3.out).mono ?_); (case side1 => exact kc_ (Kd.C_below HR0_4.out HB.out)); (case side2 => exact HC0_4.out); (case side3 => exact kc_ (Kd.C_below HR0_5.out HB.out)); (case side4 => exact HC0_5.out); rintro e w19 ⟨rfl, hb⟩; refine ⟨_, rfl, ?_⟩; replace BK119 := bl_ BK119 hb; replace HB := bw_ hb; (try clear hb); obtain ⟨hcz20_0, hcz20_1, hcz20_2, hcz20_3, hcz20_4, hcz20_5, hcz20_6, hcz20_7, hfz20_0, hfz20_1, hfz20_2, hfz20_3, hfz20_4, hfz20_5, hfz20_6, hfz20_7⟩ := cf8_ BK119) | ((with_reducible refine gate_callee (f := 112) rfl ?_); refine goe_ (some 14) Try.func112 #[.slice A0_6 l0_6.length c0_6, .int .i64 t120] ?_; (with_reducible refine (laws_szLinkS.calls k _ _ l0_6 t120 t121 _ ?side1 ?side2 A8.out).mono ?_); (case side1 => exact kc_ (Kd.C_below HR0_6.out HB.out)); (case side2 => exact HC0_6.out); rintro e w21 ⟨rfl, hb⟩; refine ⟨_, rfl, ?_⟩; replace BK119 := bl_ BK119 hb; replace HB := bw_ hb; (try clear hb); obtain ⟨hcz22_0, hcz22_1, hcz22_2, hcz22_3, hcz22_4, hcz22_5, hcz22_6, hcz22_7, hfz22_0, hfz22_1, hfz22_2, hfz22_3, hfz22_4, hfz22_5, hfz22_6, hfz22_7⟩ := cf8_ BK119) | ((with_reducible refine gate_callee (f := 113) rfl ?_); refine goe_ (some 20) Try.func113 #[.slice A0_7 l0_7.length c0_7, .int .i64 t121] ?_; (with_reducible refine (laws_szRouteS.calls k _ _ l0_7 t121 t122 _ ?side1 ?side2 A15.out).mono ?_); (case side1 => exact kc_ (Kd.C_below HR0_7.out HB.out)); (case side2 => exact HC0_7.out); rintro e w23 ⟨rfl, hb⟩; refine ⟨_, rfl, ?_⟩; replace BK119 := bl_ BK119 hb; replace HB := bw_ hb; (try clear hb)))
        go_ret
        exact ⟨er_, bb_⟩
      · rw [if_neg c16] at H
        have c16b0 : decide (t122 < 0) = false := decide_eq_false c16; clear c16; obtain rfl := Option.some.inj H
        go_enter Try.func54, Try.ntmps54
        go_wp2_with (first | ((with_reducible refine gate_dst (N := 2) rfl ?_); refine box_e_ 2 #[.int .i64 a0_0, .int .i64 a0_1, .int .i64 a0_2, .int .i64 a0_3, .slice A0_4 l0_4.length c0_4, .slice A0_5 l0_5.length c0_5, .slice A0_6 l0_6.length c0_6, .slice A0_7 l0_7.length c0_7] 88 ?_; intro gb119 hg w24 hbox hb; have BK119 := Aside0.mk (hbox); have GW119 := (bs_ hg : Aside0 (w.heap.size ≤ _)); have GE119 := (bs_ hg : Aside0 (w.heap.size ≤ _)); replace HB := bw_ hb; clear hb hbox hg; obtain ⟨hcz25_0, hcz25_1, hcz25_2, hcz25_3, hcz25_4, hcz25_5, hcz25_6, hcz25_7, hfz25_0, hfz25_1, hfz25_2, hfz25_3, hfz25_4, hfz25_5, hfz25_6, hfz25_7⟩ := cf8_ BK119) | ((with_reducible refine gate_callee (f := 111) rfl ?_); refine goe_ (some 8) Try.func111 #[.agg #[.int .i64 a0_0, .int .i64 a0_1, .int .i64 a0_2, .int .i64 a0_3, .slice A0_4 l0_4.length c0_4, .slice A0_5 l0_5.length c0_5], .int .i64 a1] ?_; (with_reducible refine (laws_szSettings.calls a0_0 a0_1 a0_2 a0_3 _ _ l0_4 _ _ l0_5 a1 t120 _ ?side1 ?side2 ?side3 ?side4 A3.out).mono ?_); (case side1 => exact kc_ (Kd.C_below HR0_4.out HB.out)); (case side2 => exact HC0_4.out); (case side3 => exact kc_ (Kd.C_below HR0_5.out HB.out)); (case side4 => exact HC0_5.out); rintro e w26 ⟨rfl, hb⟩; refine ⟨_, rfl, ?_⟩; replace BK119 := bl_ BK119 hb; replace HB := bw_ hb; (try clear hb); obtain ⟨hcz27_0, hcz27_1, hcz27_2, hcz27_3, hcz27_4, hcz27_5, hcz27_6, hcz27_7, hfz27_0, hfz27_1, hfz27_2, hfz27_3, hfz27_4, hfz27_5, hfz27_6, hfz27_7⟩ := cf8_ BK119) | ((with_reducible refine gate_callee (f := 112) rfl ?_); refine goe_ (some 14) Try.func112 #[.slice A0_6 l0_6.length c0_6, .int .i64 t120] ?_; (with_reducible refine (laws_szLinkS.calls k _ _ l0_6 t120 t121 _ ?side1 ?side2 A8.out).mono ?_); (case side1 => exact kc_ (Kd.C_below HR0_6.out HB.out)); (case side2 => exact HC0_6.out); rintro e w28 ⟨rfl, hb⟩; refine ⟨_, rfl, ?_⟩; replace BK119 := bl_ BK119 hb; replace HB := bw_ hb; (try clear hb); obtain ⟨hcz29_0, hcz29_1, hcz29_2, hcz29_3, hcz29_4, hcz29_5, hcz29_6, hcz29_7, hfz29_0, hfz29_1, hfz29_2, hfz29_3, hfz29_4, hfz29_5, hfz29_6, hfz29_7⟩ := cf8_ BK119) | ((with_reducible refine gate_callee (f := 113) rfl ?_); refine goe_ (some 20) Try.func113 #[.slice A0_7 l0_7.length c0_7, .int .i64 t121] ?_; (with_reducible refine (laws_szRouteS.calls k _ _ l0_7 t121 t122 _ ?side1 ?side2 A15.out).mono ?_); (case side1 => exact kc_ (Kd.C_below HR0_7.out HB.out)); (case side2 => exact HC0_7.out); rintro e w30 ⟨rfl, hb⟩; refine ⟨_, rfl, ?_⟩; replace BK119 := bl_ BK119 hb; replace HB := bw_ hb; (try clear hb)))
        go_ret
        exact ⟨er_, bb_⟩
def spec_l9Rules.l0 : Nat → List (S212) → List (S212) → Int → Option (Bool)
  | 0, _, _, _ => none
  | k + 1, x0, x1, x5 => if x5 < (x0.length : Int) then (if 0 ≤ x5 then (if x5 < (x1.length : Int) then (if ((!(((rd_T212 x0 x5).f0.f0) == ((rd_T212 x1 x5).f0.f0)) || (!(((rd_T212 x0 x5).f0.f1) == ((rd_T212 x1 x5).f0.f1)))) || (!(((rd_T212 x0 x5).f1) == ((rd_T212 x1 x5).f1)) || (!(((rd_T212 x0 x5).f2) == ((rd_T212 x1 x5).f2)) || (!(((rd_T212 x0 x5).f3) == ((rd_T212 x1 x5).f3)) || (!(((rd_T212 x0 x5).f4) == ((rd_T212 x1 x5).f4)) || (!(((rd_T212 x0 x5).f5) == ((rd_T212 x1 x5).f5)) || (!(((rd_T212 x0 x5).f6) == ((rd_T212 x1 x5).f6))))))))) = true then (some false) else (spec_l9Rules.l0 k x0 x1 (wrap64 (x5 + 1)))) else (none)) else (none)) else (some true)
def spec_l9Rules.f (k : Nat) (l0 : List (S212)) (l1 : List (S212)) : Option (Bool) := if (l0.length : Int) = (l1.length : Int) then (spec_l9Rules.l0 k l0 l1 0) else (some false)
theorem spec_l9Rules.mono_l : ∀ k, (∀ y0 y1 y2, LeO (spec_l9Rules.l0 k y0 y1 y2) (spec_l9Rules.l0 (k + 1) y0 y1 y2))
  | 0 => fun _ _ _ r h => by simp [spec_l9Rules.l0] at h
  | k + 1 => by
    have ih0 := spec_l9Rules.mono_l k
    · intro y0 y1 y2
      unfold spec_l9Rules.l0
      repeat' first
      | (with_reducible exact ih0 _ _ _)
      | (with_reducible exact LeO.refl _)
      | (with_reducible exact LeO.none _)
      | (with_reducible refine LeO.ite ?_ ?_)
      | (with_reducible refine LeO.bind ?_ (fun _ => ?_))
      | exact ih0 _ _ _
      | exact LeO.none _
      | refine LeO.ite ?_ ?_
      | refine LeO.bind ?_ (fun _ => ?_)
theorem spec_l9Rules.mono : ∀ a0 a1 k, LeO (spec_l9Rules.f k a0 a1) (spec_l9Rules.f (k + 1) a0 a1) := by
  intro a0 a1 k; have ih0 := spec_l9Rules.mono_l k; unfold spec_l9Rules.f
  repeat' first
      | (with_reducible exact ih0 _ _ _)
      | (with_reducible exact LeO.refl _)
      | (with_reducible exact LeO.none _)
      | (with_reducible refine LeO.ite ?_ ?_)
      | (with_reducible refine LeO.bind ?_ (fun _ => ?_))
      | exact ih0 _ _ _
      | exact LeO.none _
      | refine LeO.ite ?_ ?_
      | refine LeO.bind ?_ (fun _ => ?_)
set_option maxHeartbeats 8000000 in
set_option maxRecDepth 100000 in
theorem spec_l9Rules.calls (k : Nat) (A0 : Option Addr) (c0 : Nat) (l0 : List (S212)) (A1 : Option Addr) (c1 : Nat) (l1 : List (S212)) (r : Bool) (w : World) (hr0 : Kd.C k212 w A0 l0.length l0) (hc0 : l0.length ≤ c0) (hr1 : Kd.C k212 w A1 l1.length l1) (hc1 : l1.length ≤ c1) (h : spec_l9Rules.f k l0 l1 = some r) :
    Calls Try.prog 114 #[.slice A0 l0.length c0, .slice A1 l1.length c1] w fun e w' => e = .returned (.bool r) ∧ Drawn0 w w' := by
  have hu212 := Try.underlying212; have HR0 := Aside0.mk hr0; have HC0 := Aside0.mk hc0; clear hr0 hc0; have HR1 := Aside0.mk hr1; have HC1 := Aside0.mk hc1; clear hr1 hc1; have H : (if (l0.length : Int) = (l1.length : Int) then (spec_l9Rules.l0 k l0 l1 0) else (some false)) = some r := h; clear h
  by_cases c3 : (l0.length : Int) = (l1.length : Int)
  · rw [if_pos c3] at H
    have c3b0 : ((l0.length : Int) == (l1.length : Int)) = true := beq_iff_eq.mpr c3; have c3b1 : ((l0.length : Int) != (l1.length : Int)) = false := bne_eq_false_iff_eq.mpr c3; have c3b2 : (l0.length == l1.length) = true := by first | simpa using c3 | (simp at c3 ⊢; omega)
    clear c3; have H' := Aside0.mk H; clear H
    go_enter Try.func114, Try.ntmps114
    go_wp2
    repeat (go_quiet (fail); try go_wp2)
    go_loopg [5] k (fun kq v5 w' => ∃ (x5_1 : Int), v5 = .int .i64 x5_1 ∧ Aside0 (spec_l9Rules.l0 kq l0 l1 x5_1 = some r) ∧ Aside0 (kq ≤ k) ∧ Drawn0 w w')
    case atStart => exact ⟨(0), sd_, H', ⟨Nat.le_refl _⟩, by repeat (first | exact Drawn0.refl _ | apply Drawn0.step)⟩
    case round =>
      clear H'; try clear c1
      try clear p2
      try clear c3
      try clear c3b0
      try clear c3b1
      try clear c3b2
      obtain ⟨x5_1, rfl, HA, HK1, ⟨m1, rfl⟩⟩ := hrel
      cases gk with
      | zero => exact absurd HA.out (by simp [spec_l9Rules.l0])
      | succ k1 =>
        have H := HA.out; clear HA; simp only [spec_l9Rules.l0] at H
        by_cases c4 : x5_1 < (l0.length : Int)
        · rw [if_pos c4] at H
          have c4b0 : decide (x5_1 < (l0.length : Int)) = true := decide_eq_true c4; clear c4
          by_cases c5 : 0 ≤ x5_1
          · rw [if_pos c5] at H
            have c5b0 : decide (0 ≤ x5_1) = true := decide_eq_true c5; clear c5
            by_cases c6 : x5_1 < (l1.length : Int)
            · rw [if_pos c6] at H
              have c6b0 : decide (x5_1 < (l1.length : Int)) = true := decide_eq_true c6; clear c6
              by_cases c7 : ((!(((rd_T212 l0 x5_1).f0.f0) == ((rd_T212 l1 x5_1).f0.f0)) || (!(((rd_T212 l0 x5_1).f0.f1) == ((rd_T212 l1 x5_1).f0.f1)))) || (!(((rd_T212 l0 x5_1).f1) == ((rd_T212 l1 x5_1).f1)) || (!(((rd_T212 l0 x5_1).f2) == ((rd_T212 l1 x5_1).f2)) || (!(((rd_T212 l0 x5_1).f3) == ((rd_T212 l1 x5_1).f3)) || (!(((rd_T212 l0 x5_1).f4) == ((rd_T212 l1 x5_1).f4)) || (!(((rd_T212 l0 x5_1).f5) == ((rd_T212 l1 x5_1).f5)) || (!(((rd_T212 l0 x5_1).f6) == ((rd_T212 l1 x5_1).f6))))))))) = true
              · rw [if_pos c7] at H
                have c7b0 : ((!(((rd_T212 l0 x5_1).f0.f0) == ((rd_T212 l1 x5_1).f0.f0)) || (!(((rd_T212 l0 x5_1).f0.f1) == ((rd_T212 l1 x5_1).f0.f1)))) || (!(((rd_T212 l0 x5_1).f1) == ((rd_T212 l1 x5_1).f1)) || (!(((rd_T212 l0 x5_1).f2) == ((rd_T212 l1 x5_1).f2)) || (!(((rd_T212 l0 x5_1).f3) == ((rd_T212 l1 x5_1).f3)) || (!(((rd_T212 l0 x5_1).f4) == ((rd_T212 l1 x5_1).f4)) || (!(((rd_T212 l0 x5_1).f5) == ((rd_T212 l1 x5_1).f5)) || (!(((rd_T212 l0 x5_1).f6) == ((rd_T212 l1 x5_1).f6))))))))) = true := c7; clear c7; obtain rfl := Option.some.inj H; have p123 : 0 ≤ (x5_1 : Int) := of_decide_eq_true as_; have q123 : x5_1 < (l0.length : Int) := of_decide_eq_true as_; obtain ⟨ad123, e123, hx123_0, hx123_1, hx123_2, hx123_3, hx123_4, hx123_5, hx123_6, hx123_7⟩ := at_T212 HR0.out x5_1 p123 q123
                cases e123
                replace p123 := eq_true p123; replace q123 := eq_true q123; have p124 : 0 ≤ (x5_1 : Int) := of_decide_eq_true as_; have q124 : x5_1 < (l1.length : Int) := of_decide_eq_true as_; obtain ⟨ad124, e124, hx124_0, hx124_1, hx124_2, hx124_3, hx124_4, hx124_5, hx124_6, hx124_7⟩ := at_T212 HR1.out x5_1 p124 q124
                cases e124
                replace p124 := eq_true p124; replace q124 := eq_true q124; go_wp2
                repeat (go_quiet (fail); try go_wp2)
                go_ret
                exact ⟨sd_, by repeat (first | exact Drawn0.refl _ | apply Drawn0.step)⟩
              · rw [if_neg c7] at H
                have c7b0 : ((!(((rd_T212 l0 x5_1).f0.f0) == ((rd_T212 l1 x5_1).f0.f0)) || (!(((rd_T212 l0 x5_1).f0.f1) == ((rd_T212 l1 x5_1).f0.f1)))) || (!(((rd_T212 l0 x5_1).f1) == ((rd_T212 l1 x5_1).f1)) || (!(((rd_T212 l0 x5_1).f2) == ((rd_T212 l1 x5_1).f2)) || (!(((rd_T212 l0 x5_1).f3) == ((rd_T212 l1 x5_1).f3)) || (!(((rd_T212 l0 x5_1).f4) == ((rd_T212 l1 x5_1).f4)) || (!(((rd_T212 l0 x5_1).f5) == ((rd_T212 l1 x5_1).f5)) || (!(((rd_T212 l0 x5_1).f6) == ((rd_T212 l1 x5_1).f6))))))))) = false := by simpa using c7
                clear c7; have H' := Aside0.mk H; clear H; have p123 : 0 ≤ (x5_1 : Int) := of_decide_eq_true as_; have q123 : x5_1 < (l0.length : Int) := of_decide_eq_true as_; obtain ⟨ad123, e123, hx123_0, hx123_1, hx123_2, hx123_3, hx123_4, hx123_5, hx123_6, hx123_7⟩ := at_T212 HR0.out x5_1 p123 q123
                cases e123
                replace p123 := eq_true p123; replace q123 := eq_true q123; have p124 : 0 ≤ (x5_1 : Int) := of_decide_eq_true as_; have q124 : x5_1 < (l1.length : Int) := of_decide_eq_true as_; obtain ⟨ad124, e124, hx124_0, hx124_1, hx124_2, hx124_3, hx124_4, hx124_5, hx124_6, hx124_7⟩ := at_T212 HR1.out x5_1 p124 q124
                cases e124
                replace p124 := eq_true p124; replace q124 := eq_true q124; go_wp2
                repeat (go_quiet (fail); try go_wp2)
                go_roundg k1
                case measure => have := HK1.out; omega
                case rel => exact ⟨(wrap64 (x5_1 + 1)), sd_, H', ⟨by have := HK1.out; omega⟩, by repeat (first | exact Drawn0.refl _ | apply Drawn0.step)⟩
            · rw [if_neg c6] at H
              exact absurd H (by simp)
          · rw [if_neg c5] at H
            exact absurd H (by simp)
        · rw [if_neg c4] at H
          have c4b0 : decide (x5_1 < (l0.length : Int)) = false := decide_eq_false c4; clear c4; obtain rfl := Option.some.inj H; go_wp2
          repeat (go_quiet (fail); try go_wp2)
          go_ret
          exact ⟨sd_, by repeat (first | exact Drawn0.refl _ | apply Drawn0.step)⟩
  · rw [if_neg c3] at H
    have c3b0 : ((l0.length : Int) == (l1.length : Int)) = false := beq_eq_false_iff_ne.mpr c3; have c3b1 : ((l0.length : Int) != (l1.length : Int)) = true := bne_iff_ne.mpr c3; have c3b2 : (l0.length == l1.length) = false := by first | simpa using c3 | (simp at c3 ⊢; omega)
    obtain rfl := Option.some.inj H
    go_enter Try.func114, Try.ntmps114
    go_wp2
    repeat (go_quiet (fail); try go_wp2)
    go_ret
    exact ⟨sd_, by repeat (first | exact Drawn0.refl _ | apply Drawn0.step)⟩
end Go.Proofs.Ythmkjapmnlhflaa.PFnExactSameRouters
