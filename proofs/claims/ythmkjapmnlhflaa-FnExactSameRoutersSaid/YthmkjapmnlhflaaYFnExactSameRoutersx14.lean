/- The functions that the law FnExactSameRouters reaches: each as a plain Lean function, with the proof that the call does what it says. -/
import Derived.Test.YthmkjapmnlhflaaYFnExactSameRoutersx0
import Derived.Test.YthmkjapmnlhflaaYFnExactSameRoutersx2
import Derived.Test.YthmkjapmnlhflaaYFnExactSameRoutersx4
import Derived.Test.YthmkjapmnlhflaaYFnExactSameRoutersx13
namespace Go.Proofs.Ythmkjapmnlhflaa.PFnExactSameRouters
open Go.RowKit Go.Proofs.YthmkjapmnlhflaaW.PrintWords Go.Proofs.YthmkjapmnlhflaaW.PrintLast Go.Proofs.YthmkjapmnlhflaaW.PrintMore
attribute [local go_sem] max2_int min2_int max_two min_two max_three min_three max_four min_four
set_option linter.unusedVariables false
set_option linter.unusedSimpArgs false
attribute [local go_sem high] eqA47 eqA212
def impl_Rule.l0 : Nat → List (S212) → List (S212) → Int → Int → Option (Bool)
  | 0, _, _, _, _ => none
  | k + 1, x0, x1, x12, x13 => if x13 < x12 then (if 0 ≤ x13 then (if x13 < (x0.length : Int) then (if x13 < (x1.length : Int) then (if ((!(((rd_T212 x0 x13).f0.f0) == ((rd_T212 x1 x13).f0.f0)) || (!(((rd_T212 x0 x13).f0.f1) == ((rd_T212 x1 x13).f0.f1)))) || (!(((rd_T212 x0 x13).f1) == ((rd_T212 x1 x13).f1)) || (!(((rd_T212 x0 x13).f2) == ((rd_T212 x1 x13).f2)) || (!(((rd_T212 x0 x13).f3) == ((rd_T212 x1 x13).f3)) || (!(((rd_T212 x0 x13).f4) == ((rd_T212 x1 x13).f4)) || (!(((rd_T212 x0 x13).f5) == ((rd_T212 x1 x13).f5)) || (!(((rd_T212 x0 x13).f6) == ((rd_T212 x1 x13).f6))))))))) = true then (some false) else (impl_Rule.l0 k x0 x1 x12 (wrap64 (x13 + 1)))) else (none)) else (none)) else (none)) else (some true)
def impl_Rule.f (k : Nat) (l0 : List (S212)) (l1 : List (S212)) : Option (Bool) := if (l0.length : Int) = (l1.length : Int) then (impl_Rule.l0 k l0 l1 (l0.length : Int) 0) else (some false)
theorem impl_Rule.mono_l : ∀ k, (∀ y0 y1 y2 y3, LeO (impl_Rule.l0 k y0 y1 y2 y3) (impl_Rule.l0 (k + 1) y0 y1 y2 y3))
  | 0 => fun _ _ _ _ r h => by simp [impl_Rule.l0] at h
  | k + 1 => by
    have ih0 := impl_Rule.mono_l k
    · intro y0 y1 y2 y3
      unfold impl_Rule.l0
      repeat' first
      | (with_reducible exact ih0 _ _ _ _)
      | (with_reducible exact LeO.refl _)
      | (with_reducible exact LeO.none _)
      | (with_reducible refine LeO.ite ?_ ?_)
      | (with_reducible refine LeO.bind ?_ (fun _ => ?_))
      | exact ih0 _ _ _ _
      | exact LeO.none _
      | refine LeO.ite ?_ ?_
      | refine LeO.bind ?_ (fun _ => ?_)
theorem impl_Rule.mono : ∀ a0 a1 k, LeO (impl_Rule.f k a0 a1) (impl_Rule.f (k + 1) a0 a1) := by
  intro a0 a1 k; have ih0 := impl_Rule.mono_l k; unfold impl_Rule.f
  repeat' first
      | (with_reducible exact ih0 _ _ _ _)
      | (with_reducible exact LeO.refl _)
      | (with_reducible exact LeO.none _)
      | (with_reducible refine LeO.ite ?_ ?_)
      | (with_reducible refine LeO.bind ?_ (fun _ => ?_))
      | exact ih0 _ _ _ _
      | exact LeO.none _
      | refine LeO.ite ?_ ?_
      | refine LeO.bind ?_ (fun _ => ?_)
set_option maxHeartbeats 8000000 in
set_option maxRecDepth 100000 in
theorem impl_Rule.calls (k : Nat) (A0 : Option Addr) (c0 : Nat) (l0 : List (S212)) (A1 : Option Addr) (c1 : Nat) (l1 : List (S212)) (r : Bool) (w : World) (hr0 : Kd.C k212 w A0 l0.length l0) (hc0 : l0.length ≤ c0) (hr1 : Kd.C k212 w A1 l1.length l1) (hc1 : l1.length ≤ c1) (h : impl_Rule.f k l0 l1 = some r) :
    Calls Try.prog 200 #[.slice A0 l0.length c0, .slice A1 l1.length c1] w fun e w' => e = .returned (.bool r) ∧ Drawn0 w w' := by
  have hu212 := Try.underlying212; have HR0 := Aside0.mk hr0; have HC0 := Aside0.mk hc0; clear hr0 hc0; have HR1 := Aside0.mk hr1; have HC1 := Aside0.mk hc1; clear hr1 hc1; have H : (if (l0.length : Int) = (l1.length : Int) then (impl_Rule.l0 k l0 l1 (l0.length : Int) 0) else (some false)) = some r := h; clear h
  by_cases c3 : (l0.length : Int) = (l1.length : Int)
  · rw [if_pos c3] at H
    have c3b0 : ((l0.length : Int) == (l1.length : Int)) = true := beq_iff_eq.mpr c3; have c3b1 : ((l0.length : Int) != (l1.length : Int)) = false := bne_eq_false_iff_eq.mpr c3; have c3b2 : (l0.length == l1.length) = true := by first | simpa using c3 | (simp at c3 ⊢; omega)
    clear c3; have H' := Aside0.mk H; clear H
    go_enter Try.func200, Try.ntmps200
    go_wp2
    repeat (go_quiet (fail); try go_wp2)
    go_loopg [13] k (fun kq v13 w' => ∃ (x13_1 : Int), v13 = .int .i64 x13_1 ∧ Aside0 (impl_Rule.l0 kq l0 l1 (l0.length : Int) x13_1 = some r) ∧ Aside0 (kq ≤ k) ∧ Drawn0 w w')
    case atStart => exact ⟨(0), sd_, H', ⟨Nat.le_refl _⟩, by repeat (first | exact Drawn0.refl _ | apply Drawn0.step)⟩
    case round =>
      clear H'; try clear c1
      try clear c2
      try clear p2
      try clear c3
      try clear c3b0
      try clear c3b1
      try clear c3b2
      obtain ⟨x13_1, rfl, HA, HK1, ⟨m1, rfl⟩⟩ := hrel
      cases gk with
      | zero => exact absurd HA.out (by simp [impl_Rule.l0])
      | succ k1 =>
        have H := HA.out; clear HA; simp only [impl_Rule.l0] at H
        by_cases c4 : x13_1 < (l0.length : Int)
        · rw [if_pos c4] at H
          have c4b0 : decide (x13_1 < (l0.length : Int)) = true := decide_eq_true c4; clear c4
          by_cases c5 : 0 ≤ x13_1
          · rw [if_pos c5] at H
            have c5b0 : decide (0 ≤ x13_1) = true := decide_eq_true c5; clear c5
            by_cases c6 : x13_1 < (l0.length : Int)
            · rw [if_pos c6] at H
              have c6b0 : decide (x13_1 < (l0.length : Int)) = true := decide_eq_true c6; clear c6
              by_cases c7 : x13_1 < (l1.length : Int)
              · rw [if_pos c7] at H
                have c7b0 : decide (x13_1 < (l1.length : Int)) = true := decide_eq_true c7; clear c7
                by_cases c8 : ((!(((rd_T212 l0 x13_1).f0.f0) == ((rd_T212 l1 x13_1).f0.f0)) || (!(((rd_T212 l0 x13_1).f0.f1) == ((rd_T212 l1 x13_1).f0.f1)))) || (!(((rd_T212 l0 x13_1).f1) == ((rd_T212 l1 x13_1).f1)) || (!(((rd_T212 l0 x13_1).f2) == ((rd_T212 l1 x13_1).f2)) || (!(((rd_T212 l0 x13_1).f3) == ((rd_T212 l1 x13_1).f3)) || (!(((rd_T212 l0 x13_1).f4) == ((rd_T212 l1 x13_1).f4)) || (!(((rd_T212 l0 x13_1).f5) == ((rd_T212 l1 x13_1).f5)) || (!(((rd_T212 l0 x13_1).f6) == ((rd_T212 l1 x13_1).f6))))))))) = true
                · rw [if_pos c8] at H
                  have c8b0 : ((!(((rd_T212 l0 x13_1).f0.f0) == ((rd_T212 l1 x13_1).f0.f0)) || (!(((rd_T212 l0 x13_1).f0.f1) == ((rd_T212 l1 x13_1).f0.f1)))) || (!(((rd_T212 l0 x13_1).f1) == ((rd_T212 l1 x13_1).f1)) || (!(((rd_T212 l0 x13_1).f2) == ((rd_T212 l1 x13_1).f2)) || (!(((rd_T212 l0 x13_1).f3) == ((rd_T212 l1 x13_1).f3)) || (!(((rd_T212 l0 x13_1).f4) == ((rd_T212 l1 x13_1).f4)) || (!(((rd_T212 l0 x13_1).f5) == ((rd_T212 l1 x13_1).f5)) || (!(((rd_T212 l0 x13_1).f6) == ((rd_T212 l1 x13_1).f6))))))))) = true := c8; clear c8; obtain rfl := Option.some.inj H; have p340 : 0 ≤ (x13_1 : Int) := of_decide_eq_true as_; have q340 : x13_1 < (l0.length : Int) := of_decide_eq_true as_; obtain ⟨ad340, e340, hx340_0, hx340_1, hx340_2, hx340_3, hx340_4, hx340_5, hx340_6, hx340_7⟩ := at_T212 HR0.out x13_1 p340 q340
                  cases e340
                  replace p340 := eq_true p340; replace q340 := eq_true q340; have p341 : 0 ≤ (x13_1 : Int) := of_decide_eq_true as_; have q341 : x13_1 < (l1.length : Int) := of_decide_eq_true as_; obtain ⟨ad341, e341, hx341_0, hx341_1, hx341_2, hx341_3, hx341_4, hx341_5, hx341_6, hx341_7⟩ := at_T212 HR1.out x13_1 p341 q341
                  cases e341
                  replace p341 := eq_true p341; replace q341 := eq_true q341; go_wp2
                  repeat (go_quiet (fail); try go_wp2)
                  go_ret
                  exact ⟨sd_, by repeat (first | exact Drawn0.refl _ | apply Drawn0.step)⟩
                · rw [if_neg c8] at H
                  have c8b0 : ((!(((rd_T212 l0 x13_1).f0.f0) == ((rd_T212 l1 x13_1).f0.f0)) || (!(((rd_T212 l0 x13_1).f0.f1) == ((rd_T212 l1 x13_1).f0.f1)))) || (!(((rd_T212 l0 x13_1).f1) == ((rd_T212 l1 x13_1).f1)) || (!(((rd_T212 l0 x13_1).f2) == ((rd_T212 l1 x13_1).f2)) || (!(((rd_T212 l0 x13_1).f3) == ((rd_T212 l1 x13_1).f3)) || (!(((rd_T212 l0 x13_1).f4) == ((rd_T212 l1 x13_1).f4)) || (!(((rd_T212 l0 x13_1).f5) == ((rd_T212 l1 x13_1).f5)) || (!(((rd_T212 l0 x13_1).f6) == ((rd_T212 l1 x13_1).f6))))))))) = false := by simpa using c8
                  clear c8; have H' := Aside0.mk H; clear H; have p340 : 0 ≤ (x13_1 : Int) := of_decide_eq_true as_; have q340 : x13_1 < (l0.length : Int) := of_decide_eq_true as_; obtain ⟨ad340, e340, hx340_0, hx340_1, hx340_2, hx340_3, hx340_4, hx340_5, hx340_6, hx340_7⟩ := at_T212 HR0.out x13_1 p340 q340
                  cases e340
                  replace p340 := eq_true p340; replace q340 := eq_true q340; have p341 : 0 ≤ (x13_1 : Int) := of_decide_eq_true as_; have q341 : x13_1 < (l1.length : Int) := of_decide_eq_true as_; obtain ⟨ad341, e341, hx341_0, hx341_1, hx341_2, hx341_3, hx341_4, hx341_5, hx341_6, hx341_7⟩ := at_T212 HR1.out x13_1 p341 q341
                  cases e341
                  replace p341 := eq_true p341; replace q341 := eq_true q341; go_wp2
                  repeat (go_quiet (fail); try go_wp2)
                  go_roundg k1
                  case measure => have := HK1.out; omega
                  case rel => exact ⟨(wrap64 (x13_1 + 1)), sd_, H', ⟨by have := HK1.out; omega⟩, by repeat (first | exact Drawn0.refl _ | apply Drawn0.step)⟩
              · rw [if_neg c7] at H
                exact absurd H (by simp)
            · rw [if_neg c6] at H
              exact absurd H (by simp)
          · rw [if_neg c5] at H
            exact absurd H (by simp)
        · rw [if_neg c4] at H
          have c4b0 : decide (x13_1 < (l0.length : Int)) = false := decide_eq_false c4; clear c4; obtain rfl := Option.some.inj H; go_wp2
          repeat (go_quiet (fail); try go_wp2)
          go_ret
          exact ⟨sd_, by repeat (first | exact Drawn0.refl _ | apply Drawn0.step)⟩
  · rw [if_neg c3] at H
    have c3b0 : ((l0.length : Int) == (l1.length : Int)) = false := beq_eq_false_iff_ne.mpr c3; have c3b1 : ((l0.length : Int) != (l1.length : Int)) = true := bne_iff_ne.mpr c3; have c3b2 : (l0.length == l1.length) = false := by first | simpa using c3 | (simp at c3 ⊢; omega)
    obtain rfl := Option.some.inj H
    go_enter Try.func200, Try.ntmps200
    go_wp2
    repeat (go_quiet (fail); try go_wp2)
    go_ret
    exact ⟨sd_, by repeat (first | exact Drawn0.refl _ | apply Drawn0.step)⟩
def impl_sameSettings.f (k : Nat) (a0_0 : Int) (a0_1 : Int) (a0_2 : Int) (a0_3 : Int) (l0_4 : List (S212)) (l0_5 : List (S212)) (a1_0 : Int) (a1_1 : Int) (a1_2 : Int) (a1_3 : Int) (l1_4 : List (S212)) (l1_5 : List (S212)) : Option (Bool) := if (a0_0 == a1_0 && (a0_1 == a1_1 && (a0_2 == a1_2))) = true then (if a0_3 = a1_3 then ((impl_Rule.f k l0_4 l1_4).bind fun t344 => (if t344 = true then ((impl_Rule.f k l0_5 l1_5).bind fun t345 => (some t345)) else (some false))) else (some false)) else (some false)
theorem impl_sameSettings.mono : ∀ a0 a1 a2 a3 a4 a5 a6 a7 a8 a9 a10 a11 k, LeO (impl_sameSettings.f k a0 a1 a2 a3 a4 a5 a6 a7 a8 a9 a10 a11) (impl_sameSettings.f (k + 1) a0 a1 a2 a3 a4 a5 a6 a7 a8 a9 a10 a11) := by
  intro a0 a1 a2 a3 a4 a5 a6 a7 a8 a9 a10 a11 k; unfold impl_sameSettings.f
  repeat' first
      | (with_reducible exact impl_Rule.mono _ _ _)
      | (with_reducible exact LeO.refl _)
      | (with_reducible exact LeO.none _)
      | (with_reducible refine LeO.ite ?_ ?_)
      | (with_reducible refine LeO.bind ?_ (fun _ => ?_))
      | exact impl_Rule.mono _ _ _
      | exact LeO.none _
      | refine LeO.ite ?_ ?_
      | refine LeO.bind ?_ (fun _ => ?_)
set_option maxHeartbeats 8000000 in
set_option maxRecDepth 100000 in
theorem impl_sameSettings.calls (k : Nat) (a0_0 : Int) (a0_1 : Int) (a0_2 : Int) (a0_3 : Int) (A0_4 : Option Addr) (c0_4 : Nat) (l0_4 : List (S212)) (A0_5 : Option Addr) (c0_5 : Nat) (l0_5 : List (S212)) (a1_0 : Int) (a1_1 : Int) (a1_2 : Int) (a1_3 : Int) (A1_4 : Option Addr) (c1_4 : Nat) (l1_4 : List (S212)) (A1_5 : Option Addr) (c1_5 : Nat) (l1_5 : List (S212)) (r : Bool) (w : World) (hr0_4 : Kd.C k212 w A0_4 l0_4.length l0_4) (hc0_4 : l0_4.length ≤ c0_4) (hr0_5 : Kd.C k212 w A0_5 l0_5.length l0_5) (hc0_5 : l0_5.length ≤ c0_5) (hr1_4 : Kd.C k212 w A1_4 l1_4.length l1_4) (hc1_4 : l1_4.length ≤ c1_4) (hr1_5 : Kd.C k212 w A1_5 l1_5.length l1_5) (hc1_5 : l1_5.length ≤ c1_5) (h : impl_sameSettings.f k a0_0 a0_1 a0_2 a0_3 l0_4 l0_5 a1_0 a1_1 a1_2 a1_3 l1_4 l1_5 = some r) :
    Calls Try.prog 170 #[.agg #[.int .i64 a0_0, .int .i64 a0_1, .int .i64 a0_2, .int .i64 a0_3, .slice A0_4 l0_4.length c0_4, .slice A0_5 l0_5.length c0_5], .agg #[.int .i64 a1_0, .int .i64 a1_1, .int .i64 a1_2, .int .i64 a1_3, .slice A1_4 l1_4.length c1_4, .slice A1_5 l1_5.length c1_5]] w fun e w' => e = .returned (.bool r) ∧ Below w.heap.size w w' := by
  have hu93 := Try.underlying93; have hu47 := Try.underlying47; have HR0_4 := Aside0.mk hr0_4; have HC0_4 := Aside0.mk hc0_4; clear hr0_4 hc0_4; have HR0_5 := Aside0.mk hr0_5; have HC0_5 := Aside0.mk hc0_5; clear hr0_5 hc0_5; have HR1_4 := Aside0.mk hr1_4; have HC1_4 := Aside0.mk hc1_4; clear hr1_4 hc1_4; have HR1_5 := Aside0.mk hr1_5; have HC1_5 := Aside0.mk hc1_5; clear hr1_5 hc1_5; have HB := Aside0.mk (Below.refl w.heap.size w); have H : (if (a0_0 == a1_0 && (a0_1 == a1_1 && (a0_2 == a1_2))) = true then (if a0_3 = a1_3 then ((impl_Rule.f k l0_4 l1_4).bind fun t344 => (if t344 = true then ((impl_Rule.f k l0_5 l1_5).bind fun t345 => (some t345)) else (some false))) else (some false)) else (some false)) = some r := h; clear h
  by_cases c3 : (a0_0 == a1_0 && (a0_1 == a1_1 && (a0_2 == a1_2))) = true
  · rw [if_pos c3] at H
    have c3b0 : (a0_0 == a1_0 && (a0_1 == a1_1 && (a0_2 == a1_2))) = true := c3; (try (have c3b1 : decide (a0_0 = a1_0 && (a0_1 == a1_1 && (a0_2 == a1_2))) = true := by simpa using c3)); (try (have c3b2 : (a0_0 == a1_0 && (a0_1 == a1_1 && (a0_2 == a1_2))) = true := by simpa using c3)); clear c3
    by_cases c4 : a0_3 = a1_3
    · rw [if_pos c4] at H
      have c4b0 : (a0_3 == a1_3) = true := beq_iff_eq.mpr c4; have c4b1 : (a0_3 != a1_3) = false := bne_eq_false_iff_eq.mpr c4; clear c4; replace H := Option.bind_eq_some_iff.mp H; obtain ⟨t344, A50, H⟩ := H; replace H : (if t344 = true then ((impl_Rule.f k l0_5 l1_5).bind fun t345 => (some t345)) else (some false)) = some r := H; have A5 := Aside0.mk A50; clear A50
      by_cases c6 : t344 = true
      · subst c6
        have H1 : ((impl_Rule.f k l0_5 l1_5).bind fun t345 => (some t345)) = some r := by rw [if_pos rfl] at H; exact H
        clear H; have H := H1; clear H1; replace H := Option.bind_eq_some_iff.mp H; obtain ⟨t345, A70, H⟩ := H; replace H : (some t345) = some r := H; have A7 := Aside0.mk A70; clear A70; obtain rfl := Option.some.inj H
        go_enter Try.func170, Try.ntmps170
        go_wp2_with (first | ((with_reducible refine gate_dst (N := 2) rfl ?_); refine box_e_ 2 #[.int .i64 a0_0, .int .i64 a0_1, .int .i64 a0_2, .int .i64 a0_3, .slice A0_4 l0_4.length c0_4, .slice A0_5 l0_5.length c0_5] 93 ?_; intro gb342 hg w8 hbox hb; have BK342 := Aside0.mk (hbox); have GW342 := (bs_ hg : Aside0 (w.heap.size ≤ _)); have GE342 := (bs_ hg : Aside0 (w.heap.size ≤ _)); replace HB := bw_ hb; clear hb hbox hg) | ((with_reducible refine gate_dst (N := 3) rfl ?_); refine box_e_ 3 #[.int .i64 a1_0, .int .i64 a1_1, .int .i64 a1_2, .int .i64 a1_3, .slice A1_4 l1_4.length c1_4, .slice A1_5 l1_5.length c1_5] 93 ?_; intro gb343 hg w9 hbox hb; have BK343 := Aside0.mk (hbox); have GW343 := (bs_ hg : Aside0 (w.heap.size ≤ _)); have GE343 := (bs_ hg : Aside0 (w.heap.size ≤ _)); replace HB := bw_ hb; have NB342_343 := (nl_ hg BK342 : Aside0 (gb342 ≠ gb343)); have NB343_342 := (nr_ hg BK342 : Aside0 (gb343 ≠ gb342)); replace BK342 := bl_ BK342 hb; clear hb hbox hg; have hnb10 := NB342_343.out; have hnc10 := NB343_342.out; obtain ⟨hcz11_0, hcz11_1, hcz11_2, hcz11_3, hcz11_4, hcz11_5, hfz11_0, hfz11_1, hfz11_2, hfz11_3, hfz11_4, hfz11_5⟩ := cf6_ BK342; obtain ⟨hcz12_0, hcz12_1, hcz12_2, hcz12_3, hcz12_4, hcz12_5, hfz12_0, hfz12_1, hfz12_2, hfz12_3, hfz12_4, hfz12_5⟩ := cf6_ BK343) | (go_at_call 200; (with_reducible refine (impl_Rule.calls k _ _ l0_4 _ _ l1_4 true _ ?side1 ?side2 ?side3 ?side4 A5.out).mono ?_); (case side1 => exact kc_ (Kd.C_below HR0_4.out HB.out)); (case side2 => exact HC0_4.out); (case side3 => exact kc_ (Kd.C_below HR1_4.out HB.out)); (case side4 => exact HC1_4.out); rintro e w' ⟨rfl, ⟨nd, rfl⟩⟩) | (go_at_call 200; (with_reducible refine (impl_Rule.calls k _ _ l0_5 _ _ l1_5 t345 _ ?side1 ?side2 ?side3 ?side4 A7.out).mono ?_); (case side1 => exact kc_ (Kd.C_below HR0_5.out bb_)); (case side2 => exact HC0_5.out); (case side3 => exact kc_ (Kd.C_below HR1_5.out bb_)); (case side4 => exact HC1_5.out); rintro e w' ⟨rfl, ⟨nd, rfl⟩⟩))
        go_ret
        exact ⟨er_, bb_⟩
      · replace c6 := Bool.eq_false_iff.mpr c6
        subst c6; have H1 : (some false) = some r := by rw [if_neg (show ¬ (false = true) by decide)] at H; exact H
        clear H; have H := H1; clear H1; obtain rfl := Option.some.inj H
        go_enter Try.func170, Try.ntmps170
        go_wp2_with (first | ((with_reducible refine gate_dst (N := 2) rfl ?_); refine box_e_ 2 #[.int .i64 a0_0, .int .i64 a0_1, .int .i64 a0_2, .int .i64 a0_3, .slice A0_4 l0_4.length c0_4, .slice A0_5 l0_5.length c0_5] 93 ?_; intro gb342 hg w13 hbox hb; have BK342 := Aside0.mk (hbox); have GW342 := (bs_ hg : Aside0 (w.heap.size ≤ _)); have GE342 := (bs_ hg : Aside0 (w.heap.size ≤ _)); replace HB := bw_ hb; clear hb hbox hg) | ((with_reducible refine gate_dst (N := 3) rfl ?_); refine box_e_ 3 #[.int .i64 a1_0, .int .i64 a1_1, .int .i64 a1_2, .int .i64 a1_3, .slice A1_4 l1_4.length c1_4, .slice A1_5 l1_5.length c1_5] 93 ?_; intro gb343 hg w14 hbox hb; have BK343 := Aside0.mk (hbox); have GW343 := (bs_ hg : Aside0 (w.heap.size ≤ _)); have GE343 := (bs_ hg : Aside0 (w.heap.size ≤ _)); replace HB := bw_ hb; have NB342_343 := (nl_ hg BK342 : Aside0 (gb342 ≠ gb343)); have NB343_342 := (nr_ hg BK342 : Aside0 (gb343 ≠ gb342)); replace BK342 := bl_ BK342 hb; clear hb hbox hg; have hnb15 := NB342_343.out; have hnc15 := NB343_342.out; obtain ⟨hcz16_0, hcz16_1, hcz16_2, hcz16_3, hcz16_4, hcz16_5, hfz16_0, hfz16_1, hfz16_2, hfz16_3, hfz16_4, hfz16_5⟩ := cf6_ BK342; obtain ⟨hcz17_0, hcz17_1, hcz17_2, hcz17_3, hcz17_4, hcz17_5, hfz17_0, hfz17_1, hfz17_2, hfz17_3, hfz17_4, hfz17_5⟩ := cf6_ BK343) | (go_at_call 200; (with_reducible refine (impl_Rule.calls k _ _ l0_4 _ _ l1_4 false _ ?side1 ?side2 ?side3 ?side4 A5.out).mono ?_); (case side1 => exact kc_ (Kd.C_below HR0_4.out HB.out)); (case side2 => exact HC0_4.out); (case side3 => exact kc_ (Kd.C_below HR1_4.out HB.out)); (case side4 => exact HC1_4.out); rintro e w' ⟨rfl, ⟨nd, rfl⟩⟩))
        go_ret
        exact ⟨er_, bb_⟩
    · rw [if_neg c4] at H
      have c4b0 : (a0_3 == a1_3) = false := beq_eq_false_iff_ne.mpr c4; have c4b1 : (a0_3 != a1_3) = true := bne_iff_ne.mpr c4; obtain rfl := Option.some.inj H
      go_enter Try.func170, Try.ntmps170
      go_wp2_with (first | ((with_reducible refine gate_dst (N := 2) rfl ?_); refine box_e_ 2 #[.int .i64 a0_0, .int .i64 a0_1, .int .i64 a0_2, .int .i64 a0_3, .slice A0_4 l0_4.length c0_4, .slice A0_5 l0_5.length c0_5] 93 ?_; intro gb342 hg w18 hbox hb; have BK342 := Aside0.mk (hbox); have GW342 := (bs_ hg : Aside0 (w.heap.size ≤ _)); have GE342 := (bs_ hg : Aside0 (w.heap.size ≤ _)); replace HB := bw_ hb; clear hb hbox hg) | ((with_reducible refine gate_dst (N := 3) rfl ?_); refine box_e_ 3 #[.int .i64 a1_0, .int .i64 a1_1, .int .i64 a1_2, .int .i64 a1_3, .slice A1_4 l1_4.length c1_4, .slice A1_5 l1_5.length c1_5] 93 ?_; intro gb343 hg w19 hbox hb; have BK343 := Aside0.mk (hbox); have GW343 := (bs_ hg : Aside0 (w.heap.size ≤ _)); have GE343 := (bs_ hg : Aside0 (w.heap.size ≤ _)); replace HB := bw_ hb; have NB342_343 := (nl_ hg BK342 : Aside0 (gb342 ≠ gb343)); have NB343_342 := (nr_ hg BK342 : Aside0 (gb343 ≠ gb342)); replace BK342 := bl_ BK342 hb; clear hb hbox hg; have hnb20 := NB342_343.out; have hnc20 := NB343_342.out; obtain ⟨hcz21_0, hcz21_1, hcz21_2, hcz21_3, hcz21_4, hcz21_5, hfz21_0, hfz21_1, hfz21_2, hfz21_3, hfz21_4, hfz21_5⟩ := cf6_ BK342; obtain ⟨hcz22_0, hcz22_1, hcz22_2, hcz22_3, hcz22_4, hcz22_5, hfz22_0, hfz22_1, hfz22_2, hfz22_3, hfz22_4, hfz22_5⟩ := cf6_ BK343))
      go_ret
      exact ⟨er_, bb_⟩
  · rw [if_neg c3] at H
    have c3b0 : (a0_0 == a1_0 && (a0_1 == a1_1 && (a0_2 == a1_2))) = false := by simpa using c3
    (try (have c3b1 : decide (a0_0 = a1_0 && (a0_1 == a1_1 && (a0_2 == a1_2))) = false := by simpa using c3)); (try (have c3b2 : (a0_0 == a1_0 && (a0_1 == a1_1 && (a0_2 == a1_2))) = false := by simpa using c3)); (try (have c3b3 : ¬ (a0_0 = a1_0 && (a0_1 == a1_1 && (a0_2 == a1_2))) := by simpa using c3)); clear c3; obtain rfl := Option.some.inj H
    go_enter Try.func170, Try.ntmps170
    go_wp2_with (first | ((with_reducible refine gate_dst (N := 2) rfl ?_); refine box_e_ 2 #[.int .i64 a0_0, .int .i64 a0_1, .int .i64 a0_2, .int .i64 a0_3, .slice A0_4 l0_4.length c0_4, .slice A0_5 l0_5.length c0_5] 93 ?_; intro gb342 hg w23 hbox hb; have BK342 := Aside0.mk (hbox); have GW342 := (bs_ hg : Aside0 (w.heap.size ≤ _)); have GE342 := (bs_ hg : Aside0 (w.heap.size ≤ _)); replace HB := bw_ hb; clear hb hbox hg) | ((with_reducible refine gate_dst (N := 3) rfl ?_); refine box_e_ 3 #[.int .i64 a1_0, .int .i64 a1_1, .int .i64 a1_2, .int .i64 a1_3, .slice A1_4 l1_4.length c1_4, .slice A1_5 l1_5.length c1_5] 93 ?_; intro gb343 hg w24 hbox hb; have BK343 := Aside0.mk (hbox); have GW343 := (bs_ hg : Aside0 (w.heap.size ≤ _)); have GE343 := (bs_ hg : Aside0 (w.heap.size ≤ _)); replace HB := bw_ hb; have NB342_343 := (nl_ hg BK342 : Aside0 (gb342 ≠ gb343)); have NB343_342 := (nr_ hg BK342 : Aside0 (gb343 ≠ gb342)); replace BK342 := bl_ BK342 hb; clear hb hbox hg; have hnb25 := NB342_343.out; have hnc25 := NB343_342.out; obtain ⟨hcz26_0, hcz26_1, hcz26_2, hcz26_3, hcz26_4, hcz26_5, hfz26_0, hfz26_1, hfz26_2, hfz26_3, hfz26_4, hfz26_5⟩ := cf6_ BK342; obtain ⟨hcz27_0, hcz27_1, hcz27_2, hcz27_3, hcz27_4, hcz27_5, hfz27_0, hfz27_1, hfz27_2, hfz27_3, hfz27_4, hfz27_5⟩ := cf6_ BK343))
    go_ret
    exact ⟨er_, bb_⟩
def impl_sameRouters.f (k : Nat) (a0_0 : Int) (a0_1 : Int) (a0_2 : Int) (a0_3 : Int) (l0_4 : List (S212)) (l0_5 : List (S212)) (l0_6 : List (S164)) (l0_7 : List (S169)) (a1_0 : Int) (a1_1 : Int) (a1_2 : Int) (a1_3 : Int) (l1_4 : List (S212)) (l1_5 : List (S212)) (l1_6 : List (S164)) (l1_7 : List (S169)) : Option (Bool) := (impl_Link.f k l0_6 l1_6).bind fun t348 => ((impl_Route.f k l0_7 l1_7).bind fun t349 => (if t348 = true then (if t349 = true then ((impl_sameSettings.f k a0_0 a0_1 a0_2 a0_3 l0_4 l0_5 a1_0 a1_1 a1_2 a1_3 l1_4 l1_5).bind fun t350 => (some t350)) else (some false)) else (some false)))
theorem impl_sameRouters.mono : ∀ a0 a1 a2 a3 a4 a5 a6 a7 a8 a9 a10 a11 a12 a13 a14 a15 k, LeO (impl_sameRouters.f k a0 a1 a2 a3 a4 a5 a6 a7 a8 a9 a10 a11 a12 a13 a14 a15) (impl_sameRouters.f (k + 1) a0 a1 a2 a3 a4 a5 a6 a7 a8 a9 a10 a11 a12 a13 a14 a15) := by
  intro a0 a1 a2 a3 a4 a5 a6 a7 a8 a9 a10 a11 a12 a13 a14 a15 k; unfold impl_sameRouters.f
  repeat' first
      | (with_reducible exact impl_Link.mono _ _ _)
      | (with_reducible exact impl_Route.mono _ _ _)
      | (with_reducible exact impl_sameSettings.mono _ _ _ _ _ _ _ _ _ _ _ _ _)
      | (with_reducible exact LeO.refl _)
      | (with_reducible exact LeO.none _)
      | (with_reducible refine LeO.ite ?_ ?_)
      | (with_reducible refine LeO.bind ?_ (fun _ => ?_))
      | exact impl_Link.mono _ _ _
      | exact impl_Route.mono _ _ _
      | exact impl_sameSettings.mono _ _ _ _ _ _ _ _ _ _ _ _ _
      | exact LeO.none _
      | refine LeO.ite ?_ ?_
      | refine LeO.bind ?_ (fun _ => ?_)
set_option maxHeartbeats 8000000 in
set_option maxRecDepth 100000 in
theorem impl_sameRouters.calls (k : Nat) (a0_0 : Int) (a0_1 : Int) (a0_2 : Int) (a0_3 : Int) (A0_4 : Option Addr) (c0_4 : Nat) (l0_4 : List (S212)) (A0_5 : Option Addr) (c0_5 : Nat) (l0_5 : List (S212)) (A0_6 : Option Addr) (c0_6 : Nat) (l0_6 : List (S164)) (A0_7 : Option Addr) (c0_7 : Nat) (l0_7 : List (S169)) (a1_0 : Int) (a1_1 : Int) (a1_2 : Int) (a1_3 : Int) (A1_4 : Option Addr) (c1_4 : Nat) (l1_4 : List (S212)) (A1_5 : Option Addr) (c1_5 : Nat) (l1_5 : List (S212)) (A1_6 : Option Addr) (c1_6 : Nat) (l1_6 : List (S164)) (A1_7 : Option Addr) (c1_7 : Nat) (l1_7 : List (S169)) (r : Bool) (w : World) (hr0_4 : Kd.C k212 w A0_4 l0_4.length l0_4) (hc0_4 : l0_4.length ≤ c0_4) (hr0_5 : Kd.C k212 w A0_5 l0_5.length l0_5) (hc0_5 : l0_5.length ≤ c0_5) (hr0_6 : Kd.C k164 w A0_6 l0_6.length l0_6) (hc0_6 : l0_6.length ≤ c0_6) (hr0_7 : Kd.C k169 w A0_7 l0_7.length l0_7) (hc0_7 : l0_7.length ≤ c0_7) (hr1_4 : Kd.C k212 w A1_4 l1_4.length l1_4) (hc1_4 : l1_4.length ≤ c1_4) (hr1_5 : Kd.C k212 w A1_5 l1_5.length l1_5) (hc1_5 : l1_5.length ≤ c1_5) (hr1_6 : Kd.C k164 w A1_6 l1_6.length l1_6) (hc1_6 : l1_6.length ≤ c1_6) (hr1_7 : Kd.C k169 w A1_7 l1_7.length l1_7) (hc1_7 : l1_7.length ≤ c1_7) (h : impl_sameRouters.f k a0_0 a0_1 a0_2 a0_3 l0_4 l0_5 l0_6 l0_7 a1_0 a1_1 a1_2 a1_3 l1_4 l1_5 l1_6 l1_7 = some r) :
    Calls Try.prog 120 #[.agg #[.int .i64 a0_0, .int .i64 a0_1, .int .i64 a0_2, .int .i64 a0_3, .slice A0_4 l0_4.length c0_4, .slice A0_5 l0_5.length c0_5, .slice A0_6 l0_6.length c0_6, .slice A0_7 l0_7.length c0_7], .agg #[.int .i64 a1_0, .int .i64 a1_1, .int .i64 a1_2, .int .i64 a1_3, .slice A1_4 l1_4.length c1_4, .slice A1_5 l1_5.length c1_5, .slice A1_6 l1_6.length c1_6, .slice A1_7 l1_7.length c1_7]] w fun e w' => e = .returned (.bool r) ∧ Below w.heap.size w w' := by
  have hu97 := Try.underlying97; have hu93 := Try.underlying93; have HR0_4 := Aside0.mk hr0_4; have HC0_4 := Aside0.mk hc0_4; clear hr0_4 hc0_4; have HR0_5 := Aside0.mk hr0_5; have HC0_5 := Aside0.mk hc0_5; clear hr0_5 hc0_5; have HR0_6 := Aside0.mk hr0_6; have HC0_6 := Aside0.mk hc0_6; clear hr0_6 hc0_6; have HR0_7 := Aside0.mk hr0_7; have HC0_7 := Aside0.mk hc0_7; clear hr0_7 hc0_7; have HR1_4 := Aside0.mk hr1_4; have HC1_4 := Aside0.mk hc1_4; clear hr1_4 hc1_4; have HR1_5 := Aside0.mk hr1_5; have HC1_5 := Aside0.mk hc1_5; clear hr1_5 hc1_5; have HR1_6 := Aside0.mk hr1_6; have HC1_6 := Aside0.mk hc1_6; clear hr1_6 hc1_6; have HR1_7 := Aside0.mk hr1_7; have HC1_7 := Aside0.mk hc1_7; clear hr1_7 hc1_7; have HB := Aside0.mk (Below.refl w.heap.size w); have H : ((impl_Link.f k l0_6 l1_6).bind fun t348 => ((impl_Route.f k l0_7 l1_7).bind fun t349 => (if t348 = true then (if t349 = true then ((impl_sameSettings.f k a0_0 a0_1 a0_2 a0_3 l0_4 l0_5 a1_0 a1_1 a1_2 a1_3 l1_4 l1_5).bind fun t350 => (some t350)) else (some false)) else (some false)))) = some r := h; clear h; replace H := Option.bind_eq_some_iff.mp H; obtain ⟨t348, A30, H⟩ := H; replace H : ((impl_Route.f k l0_7 l1_7).bind fun t349 => (if t348 = true then (if t349 = true then ((impl_sameSettings.f k a0_0 a0_1 a0_2 a0_3 l0_4 l0_5 a1_0 a1_1 a1_2 a1_3 l1_4 l1_5).bind fun t350 => (some t350)) else (some false)) else (some false))) = some r := H; have A3 := Aside0.mk A30; clear A30; replace H := Option.bind_eq_some_iff.mp H; obtain ⟨t349, A40, H⟩ := H; replace H : (if t348 = true then (if t349 = true then ((impl_sameSettings.f k a0_0 a0_1 a0_2 a0_3 l0_4 l0_5 a1_0 a1_1 a1_2 a1_3 l1_4 l1_5).bind fun t350 => (some t350)) else (some false)) else (some false)) = some r := H; have A4 := Aside0.mk A40; clear A40
  by_cases c5 : t348 = true
  · subst c5
    have H1 : (if t349 = true then ((impl_sameSettings.f k a0_0 a0_1 a0_2 a0_3 l0_4 l0_5 a1_0 a1_1 a1_2 a1_3 l1_4 l1_5).bind fun t350 => (some t350)) else (some false)) = some r := by rw [if_pos rfl] at H; exact H
    clear H; have H := H1; clear H1
    by_cases c6 : t349 = true
    · subst c6
      have H1 : ((impl_sameSettings.f k a0_0 a0_1 a0_2 a0_3 l0_4 l0_5 a1_0 a1_1 a1_2 a1_3 l1_4 l1_5).bind fun t350 => (some t350)) = some r := by rw [if_pos rfl] at H; exact H
      clear H; have H := H1; clear H1; replace H := Option.bind_eq_some_iff.mp H; obtain ⟨t350, A70, H⟩ := H; replace H : (some t350) = some r := H; have A7 := Aside0.mk A70; clear A70; obtain rfl := Option.some.inj H
      go_enter Try.func120, Try.ntmps120
      go_wp2_with (first | ((with_reducible refine gate_dst (N := 2) rfl ?_); refine box_e_ 2 #[.int .i64 a0_0, .int .i64 a0_1, .int .i64 a0_2, .int .i64 a0_3, .slice A0_4 l0_4.length c0_4, .slice A0_5 l0_5.length c0_5, .slice A0_6 l0_6.length c0_6, .slice A0_7 l0_7.length c0_7] 97 ?_; intro gb346 hg w8 hbox hb; have BK346 := Aside0.mk (hbox); have GW346 := (bs_ hg : Aside0 (w.heap.size ≤ _)); have GE346 := (bs_ hg : Aside0 (w.heap.size ≤ _)); replace HB := bw_ hb; clear hb hbox hg) | ((with_reducible refine gate_dst (N := 3) rfl ?_); refine box_e_ 3 #[.int .i64 a1_0, .int .i64 a1_1, .int .i64 a1_2, .int .i64 a1_3, .slice A1_4 l1_4.length c1_4, .slice A1_5 l1_5.length c1_5, .slice A1_6 l1_6.length c1_6, .slice A1_7 l1_7.length c1_7] 97 ?_; intro gb347 hg w9 hbox hb; have BK347 := Aside0.mk (hbox); have GW347 := (bs_ hg : Aside0 (w.heap.size ≤ _)); have GE347 := (bs_ hg : Aside0 (w.heap.size ≤ _)); replace HB := bw_ hb; have NB346_347 := (nl_ hg BK346 : Aside0 (gb346 ≠ gb347)); have NB347_346 := (nr_ hg BK346 : Aside0 (gb347 ≠ gb346)); replace BK346 := bl_ BK346 hb; clear hb hbox hg; have hnb10 := NB346_347.out; have hnc10 := NB347_346.out; obtain ⟨hcz11_0, hcz11_1, hcz11_2, hcz11_3, hcz11_4, hcz11_5, hcz11_6, hcz11_7, hfz11_0, hfz11_1, hfz11_2, hfz11_3, hfz11_4, hfz11_5, hfz11_6, hfz11_7⟩ := cf8_ BK346; obtain ⟨hcz12_0, hcz12_1, hcz12_2, hcz12_3, hcz12_4, hcz12_5, hcz12_6, hcz12_7, hfz12_0, hfz12_1, hfz12_2, hfz12_3, hfz12_4, hfz12_5, hfz12_6, hfz12_7⟩ := cf8_ BK347) | ((with_reducible refine gate_callee (f := 163) rfl ?_); refine goe_ (some 11) Try.func163 #[.slice A0_6 l0_6.length c0_6, .slice A1_6 l1_6.length c1_6, .func (.func 164) #[] #[]] ?_; (with_reducible refine (impl_Link.calls k _ _ l0_6 _ _ l1_6 true _ ?side1 ?side2 ?side3 ?side4 A3.out).mono ?_); (case side1 => exact kc_ (Kd.C_below HR0_6.out HB.out)); (case side2 => exact HC0_6.out); (case side3 => exact kc_ (Kd.C_below HR1_6.out HB.out)); (case side4 => exact HC1_6.out); rintro e w13 ⟨rfl, hb⟩; refine ⟨_, rfl, ?_⟩; replace BK346 := bl_ BK346 hb; replace BK347 := bl_ BK347 hb; replace HB := bw_ hb; (try clear hb); obtain ⟨hcz14_0, hcz14_1, hcz14_2, hcz14_3, hcz14_4, hcz14_5, hcz14_6, hcz14_7, hfz14_0, hfz14_1, hfz14_2, hfz14_3, hfz14_4, hfz14_5, hfz14_6, hfz14_7⟩ := cf8_ BK346; obtain ⟨hcz15_0, hcz15_1, hcz15_2, hcz15_3, hcz15_4, hcz15_5, hcz15_6, hcz15_7, hfz15_0, hfz15_1, hfz15_2, hfz15_3, hfz15_4, hfz15_5, hfz15_6, hfz15_7⟩ := cf8_ BK347) | ((with_reducible refine gate_callee (f := 167) rfl ?_); refine goe_ (some 16) Try.func167 #[.slice A0_7 l0_7.length c0_7, .slice A1_7 l1_7.length c1_7, .func (.func 168) #[] #[]] ?_; (with_reducible refine (impl_Route.calls k _ _ l0_7 _ _ l1_7 true _ ?side1 ?side2 ?side3 ?side4 A4.out).mono ?_); (case side1 => exact kc_ (Kd.C_below HR0_7.out HB.out)); (case side2 => exact HC0_7.out); (case side3 => exact kc_ (Kd.C_below HR1_7.out HB.out)); (case side4 => exact HC1_7.out); rintro e w16 ⟨rfl, hb⟩; refine ⟨_, rfl, ?_⟩; replace BK346 := bl_ BK346 hb; replace BK347 := bl_ BK347 hb; replace HB := bw_ hb; (try clear hb); obtain ⟨hcz17_0, hcz17_1, hcz17_2, hcz17_3, hcz17_4, hcz17_5, hcz17_6, hcz17_7, hfz17_0, hfz17_1, hfz17_2, hfz17_3, hfz17_4, hfz17_5, hfz17_6, hfz17_7⟩ := cf8_ BK346; obtain ⟨hcz18_0, hcz18_1, hcz18_2, hcz18_3, hcz18_4, hcz18_5, hcz18_6, hcz18_7, hfz18_0, hfz18_1, hfz18_2, hfz18_3, hfz18_4, hfz18_5, hfz18_6, hfz18_7⟩ := cf8_ BK347) | (go_at_call 170; (with_reducible refine (impl_sameSettings.calls k a0_0 a0_1 a0_2 a0_3 _ _ l0_4 _ _ l0_5 a1_0 a1_1 a1_2 a1_3 _ _ l1_4 _ _ l1_5 t350 _ ?side1 ?side2 ?side3 ?side4 ?side5 ?side6 ?side7 ?side8 A7.out).mono ?_); (case side1 => exact kc_ (Kd.C_below HR0_4.out HB.out)); (case side2 => exact HC0_4.out); (case side3 => exact kc_ (Kd.C_below HR0_5.out HB.out)); (case side4 => exact HC0_5.out); (case side5 => exact kc_ (Kd.C_below HR1_4.out HB.out)); (case side6 => exact HC1_4.out); (case side7 => exact kc_ (Kd.C_below HR1_5.out HB.out)); (case side8 => exact HC1_5.out); rintro e w19 ⟨rfl, hb⟩; replace BK346 := bl_ BK346 hb; replace BK347 := bl_ BK347 hb; replace HB := bw_ hb; (try clear hb)))
      go_ret
      exact ⟨er_, bb_⟩
    · replace c6 := Bool.eq_false_iff.mpr c6
      subst c6; have H1 : (some false) = some r := by rw [if_neg (show ¬ (false = true) by decide)] at H; exact H
      clear H; have H := H1; clear H1; obtain rfl := Option.some.inj H
      go_enter Try.func120, Try.ntmps120
      go_wp2_with (first | ((with_reducible refine gate_dst (N := 2) rfl ?_); refine box_e_ 2 #[.int .i64 a0_0, .int .i64 a0_1, .int .i64 a0_2, .int .i64 a0_3, .slice A0_4 l0_4.length c0_4, .slice A0_5 l0_5.length c0_5, .slice A0_6 l0_6.length c0_6, .slice A0_7 l0_7.length c0_7] 97 ?_; intro gb346 hg w20 hbox hb; have BK346 := Aside0.mk (hbox); have GW346 := (bs_ hg : Aside0 (w.heap.size ≤ _)); have GE346 := (bs_ hg : Aside0 (w.heap.size ≤ _)); replace HB := bw_ hb; clear hb hbox hg) | ((with_reducible refine gate_dst (N := 3) rfl ?_); refine box_e_ 3 #[.int .i64 a1_0, .int .i64 a1_1, .int .i64 a1_2, .int .i64 a1_3, .slice A1_4 l1_4.length c1_4, .slice A1_5 l1_5.length c1_5, .slice A1_6 l1_6.length c1_6, .slice A1_7 l1_7.length c1_7] 97 ?_; intro gb347 hg w21 hbox hb; have BK347 := Aside0.mk (hbox); have GW347 := (bs_ hg : Aside0 (w.heap.size ≤ _)); have GE347 := (bs_ hg : Aside0 (w.heap.size ≤ _)); replace HB := bw_ hb; have NB346_347 := (nl_ hg BK346 : Aside0 (gb346 ≠ gb347)); have NB347_346 := (nr_ hg BK346 : Aside0 (gb347 ≠ gb346)); replace BK346 := bl_ BK346 hb; clear hb hbox hg; have hnb22 := NB346_347.out; have hnc22 := NB347_346.out; obtain ⟨hcz23_0, hcz23_1, hcz23_2, hcz23_3, hcz23_4, hcz23_5, hcz23_6, hcz23_7, hfz23_0, hfz23_1, hfz23_2, hfz23_3, hfz23_4, hfz23_5, hfz23_6, hfz23_7⟩ := cf8_ BK346; obtain ⟨hcz24_0, hcz24_1, hcz24_2, hcz24_3, hcz24_4, hcz24_5, hcz24_6, hcz24_7, hfz24_0, hfz24_1, hfz24_2, hfz24_3, hfz24_4, hfz24_5, hfz24_6, hfz24_7⟩ := cf8_ BK347) | ((with_reducible refine gate_callee (f := 163) rfl ?_); refine goe_ (some 11) Try.func163 #[.slice A0_6 l0_6.length c0_6, .slice A1_6 l1_6.length c1_6, .func (.func 164) #[] #[]] ?_; (with_reducible refine (impl_Link.calls k _ _ l0_6 _ _ l1_6 true _ ?side1 ?side2 ?side3 ?side4 A3.out).mono ?_); (case side1 => exact kc_ (Kd.C_below HR0_6.out HB.out)); (case side2 => exact HC0_6.out); (case side3 => exact kc_ (Kd.C_below HR1_6.out HB.out)); (case side4 => exact HC1_6.out); rintro e w25 ⟨rfl, hb⟩; refine ⟨_, rfl, ?_⟩; replace BK346 := bl_ BK346 hb; replace BK347 := bl_ BK347 hb; replace HB := bw_ hb; (try clear hb); obtain ⟨hcz26_0, hcz26_1, hcz26_2, hcz26_3, hcz26_4, hcz26_5, hcz26_6, hcz26_7, hfz26_0, hfz26_1, hfz26_2, hfz26_3, hfz26_4, hfz26_5, hfz26_6, hfz26_7⟩ := cf8_ BK346; obtain ⟨hcz27_0, hcz27_1, hcz27_2, hcz27_3, hcz27_4, hcz27_5, hcz27_6, hcz27_7, hfz27_0, hfz27_1, hfz27_2, hfz27_3, hfz27_4, hfz27_5, hfz27_6, hfz27_7⟩ := cf8_ BK347) | ((with_reducible refine gate_callee (f := 167) rfl ?_); refine goe_ (some 16) Try.func167 #[.slice A0_7 l0_7.length c0_7, .slice A1_7 l1_7.length c1_7, .func (.func 168) #[] #[]] ?_; (with_reducible refine (impl_Route.calls k _ _ l0_7 _ _ l1_7 false _ ?side1 ?side2 ?side3 ?side4 A4.out).mono ?_); (case side1 => exact kc_ (Kd.C_below HR0_7.out HB.out)); (case side2 => exact HC0_7.out); (case side3 => exact kc_ (Kd.C_below HR1_7.out HB.out)); (case side4 => exact HC1_7.out); rintro e w28 ⟨rfl, hb⟩; refine ⟨_, rfl, ?_⟩; replace BK346 := bl_ BK346 hb; replace BK347 := bl_ BK347 hb; replace HB := bw_ hb; (try clear hb)))
      go_ret
      exact ⟨er_, bb_⟩
  · replace c5 := Bool.eq_false_iff.mpr c5
    subst c5; have H1 : (some false) = some r := by rw [if_neg (show ¬ (false = true) by decide)] at H; exact H
    clear H; have H := H1; clear H1; obtain rfl := Option.some.inj H
    go_enter Try.func120, Try.ntmps120
    go_wp2_with (first | ((with_reducible refine gate_dst (N := 2) rfl ?_); refine box_e_ 2 #[.int .i64 a0_0, .int .i64 a0_1, .int .i64 a0_2, .int .i64 a0_3, .slice A0_4 l0_4.length c0_4, .slice A0_5 l0_5.length c0_5, .slice A0_6 l0_6.length c0_6, .slice A0_7 l0_7.length c0_7] 97 ?_; intro gb346 hg w29 hbox hb; have BK346 := Aside0.mk (hbox); have GW346 := (bs_ hg : Aside0 (w.heap.size ≤ _)); have GE346 := (bs_ hg : Aside0 (w.heap.size ≤ _)); replace HB := bw_ hb; clear hb hbox hg) | ((with_reducible refine gate_dst (N := 3) rfl ?_); refine box_e_ 3 #[.int .i64 a1_0, .int .i64 a1_1, .int .i64 a1_2, .int .i64 a1_3, .slice A1_4 l1_4.length c1_4, .slice A1_5 l1_5.length c1_5, .slice A1_6 l1_6.length c1_6, .slice A1_7 l1_7.length c1_7] 97 ?_; intro gb347 hg w30 hbox hb; have BK347 := Aside0.mk (hbox); have GW347 := (bs_ hg : Aside0 (w.heap.size ≤ _)); have GE347 := (bs_ hg : Aside0 (w.heap.size ≤ _)); replace HB := bw_ hb; have NB346_347 := (nl_ hg BK346 : Aside0 (gb346 ≠ gb347)); have NB347_346 := (nr_ hg BK346 : Aside0 (gb347 ≠ gb346)); replace BK346 := bl_ BK346 hb; clear hb hbox hg; have hnb31 := NB346_347.out; have hnc31 := NB347_346.out; obtain ⟨hcz32_0, hcz32_1, hcz32_2, hcz32_3, hcz32_4, hcz32_5, hcz32_6, hcz32_7, hfz32_0, hfz32_1, hfz32_2, hfz32_3, hfz32_4, hfz32_5, hfz32_6, hfz32_7⟩ := cf8_ BK346; obtain ⟨hcz33_0, hcz33_1, hcz33_2, hcz33_3, hcz33_4, hcz33_5, hcz33_6, hcz33_7, hfz33_0, hfz33_1, hfz33_2, hfz33_3, hfz33_4, hfz33_5, hfz33_6, hfz33_7⟩ := cf8_ BK347) | ((with_reducible refine gate_callee (f := 163) rfl ?_); refine goe_ (some 11) Try.func163 #[.slice A0_6 l0_6.length c0_6, .slice A1_6 l1_6.length c1_6, .func (.func 164) #[] #[]] ?_; (with_reducible refine (impl_Link.calls k _ _ l0_6 _ _ l1_6 false _ ?side1 ?side2 ?side3 ?side4 A3.out).mono ?_); (case side1 => exact kc_ (Kd.C_below HR0_6.out HB.out)); (case side2 => exact HC0_6.out); (case side3 => exact kc_ (Kd.C_below HR1_6.out HB.out)); (case side4 => exact HC1_6.out); rintro e w34 ⟨rfl, hb⟩; refine ⟨_, rfl, ?_⟩; replace BK346 := bl_ BK346 hb; replace BK347 := bl_ BK347 hb; replace HB := bw_ hb; (try clear hb); obtain ⟨hcz35_0, hcz35_1, hcz35_2, hcz35_3, hcz35_4, hcz35_5, hcz35_6, hcz35_7, hfz35_0, hfz35_1, hfz35_2, hfz35_3, hfz35_4, hfz35_5, hfz35_6, hfz35_7⟩ := cf8_ BK346; obtain ⟨hcz36_0, hcz36_1, hcz36_2, hcz36_3, hcz36_4, hcz36_5, hcz36_6, hcz36_7, hfz36_0, hfz36_1, hfz36_2, hfz36_3, hfz36_4, hfz36_5, hfz36_6, hfz36_7⟩ := cf8_ BK347) | ((with_reducible refine gate_callee (f := 167) rfl ?_); refine goe_ (some 16) Try.func167 #[.slice A0_7 l0_7.length c0_7, .slice A1_7 l1_7.length c1_7, .func (.func 168) #[] #[]] ?_; (with_reducible refine (impl_Route.calls k _ _ l0_7 _ _ l1_7 t349 _ ?side1 ?side2 ?side3 ?side4 A4.out).mono ?_); (case side1 => exact kc_ (Kd.C_below HR0_7.out HB.out)); (case side2 => exact HC0_7.out); (case side3 => exact kc_ (Kd.C_below HR1_7.out HB.out)); (case side4 => exact HC1_7.out); rintro e w37 ⟨rfl, hb⟩; refine ⟨_, rfl, ?_⟩; replace BK346 := bl_ BK346 hb; replace BK347 := bl_ BK347 hb; replace HB := bw_ hb; (try clear hb)))
    go_ret
    exact ⟨er_, bb_⟩
def impl_SameRouters.f (k : Nat) (a0_0 : Int) (a0_1 : Int) (a0_2 : Int) (a0_3 : Int) (l0_4 : List (S212)) (l0_5 : List (S212)) (l0_6 : List (S164)) (l0_7 : List (S169)) (a1_0 : Int) (a1_1 : Int) (a1_2 : Int) (a1_3 : Int) (l1_4 : List (S212)) (l1_5 : List (S212)) (l1_6 : List (S164)) (l1_7 : List (S169)) : Option (Bool) := (impl_sameRouters.f k a0_0 a0_1 a0_2 a0_3 l0_4 l0_5 l0_6 l0_7 a1_0 a1_1 a1_2 a1_3 l1_4 l1_5 l1_6 l1_7).bind fun t353 => (some t353)
theorem impl_SameRouters.mono : ∀ a0 a1 a2 a3 a4 a5 a6 a7 a8 a9 a10 a11 a12 a13 a14 a15 k, LeO (impl_SameRouters.f k a0 a1 a2 a3 a4 a5 a6 a7 a8 a9 a10 a11 a12 a13 a14 a15) (impl_SameRouters.f (k + 1) a0 a1 a2 a3 a4 a5 a6 a7 a8 a9 a10 a11 a12 a13 a14 a15) := by
  intro a0 a1 a2 a3 a4 a5 a6 a7 a8 a9 a10 a11 a12 a13 a14 a15 k; unfold impl_SameRouters.f
  repeat' first
      | (with_reducible exact impl_sameRouters.mono _ _ _ _ _ _ _ _ _ _ _ _ _ _ _ _ _)
      | (with_reducible exact LeO.refl _)
      | (with_reducible exact LeO.none _)
      | (with_reducible refine LeO.ite ?_ ?_)
      | (with_reducible refine LeO.bind ?_ (fun _ => ?_))
      | exact impl_sameRouters.mono _ _ _ _ _ _ _ _ _ _ _ _ _ _ _ _ _
      | exact LeO.none _
      | refine LeO.ite ?_ ?_
      | refine LeO.bind ?_ (fun _ => ?_)
set_option maxHeartbeats 8000000 in
set_option maxRecDepth 100000 in
theorem impl_SameRouters.calls (k : Nat) (a0_0 : Int) (a0_1 : Int) (a0_2 : Int) (a0_3 : Int) (A0_4 : Option Addr) (c0_4 : Nat) (l0_4 : List (S212)) (A0_5 : Option Addr) (c0_5 : Nat) (l0_5 : List (S212)) (A0_6 : Option Addr) (c0_6 : Nat) (l0_6 : List (S164)) (A0_7 : Option Addr) (c0_7 : Nat) (l0_7 : List (S169)) (a1_0 : Int) (a1_1 : Int) (a1_2 : Int) (a1_3 : Int) (A1_4 : Option Addr) (c1_4 : Nat) (l1_4 : List (S212)) (A1_5 : Option Addr) (c1_5 : Nat) (l1_5 : List (S212)) (A1_6 : Option Addr) (c1_6 : Nat) (l1_6 : List (S164)) (A1_7 : Option Addr) (c1_7 : Nat) (l1_7 : List (S169)) (r : Bool) (w : World) (hr0_4 : Kd.C k212 w A0_4 l0_4.length l0_4) (hc0_4 : l0_4.length ≤ c0_4) (hr0_5 : Kd.C k212 w A0_5 l0_5.length l0_5) (hc0_5 : l0_5.length ≤ c0_5) (hr0_6 : Kd.C k164 w A0_6 l0_6.length l0_6) (hc0_6 : l0_6.length ≤ c0_6) (hr0_7 : Kd.C k169 w A0_7 l0_7.length l0_7) (hc0_7 : l0_7.length ≤ c0_7) (hr1_4 : Kd.C k212 w A1_4 l1_4.length l1_4) (hc1_4 : l1_4.length ≤ c1_4) (hr1_5 : Kd.C k212 w A1_5 l1_5.length l1_5) (hc1_5 : l1_5.length ≤ c1_5) (hr1_6 : Kd.C k164 w A1_6 l1_6.length l1_6) (hc1_6 : l1_6.length ≤ c1_6) (hr1_7 : Kd.C k169 w A1_7 l1_7.length l1_7) (hc1_7 : l1_7.length ≤ c1_7) (h : impl_SameRouters.f k a0_0 a0_1 a0_2 a0_3 l0_4 l0_5 l0_6 l0_7 a1_0 a1_1 a1_2 a1_3 l1_4 l1_5 l1_6 l1_7 = some r) :
    Calls Try.prog 57 #[.agg #[.int .i64 a0_0, .int .i64 a0_1, .int .i64 a0_2, .int .i64 a0_3, .slice A0_4 l0_4.length c0_4, .slice A0_5 l0_5.length c0_5, .slice A0_6 l0_6.length c0_6, .slice A0_7 l0_7.length c0_7], .agg #[.int .i64 a1_0, .int .i64 a1_1, .int .i64 a1_2, .int .i64 a1_3, .slice A1_4 l1_4.length c1_4, .slice A1_5 l1_5.length c1_5, .slice A1_6 l1_6.length c1_6, .slice A1_7 l1_7.length c1_7]] w fun e w' => e = .returned (.bool r) ∧ Below w.heap.size w w' := by
  have hu97 := Try.underlying97; have HR0_4 := Aside0.mk hr0_4; have HC0_4 := Aside0.mk hc0_4; clear hr0_4 hc0_4; have HR0_5 := Aside0.mk hr0_5; have HC0_5 := Aside0.mk hc0_5; clear hr0_5 hc0_5; have HR0_6 := Aside0.mk hr0_6; have HC0_6 := Aside0.mk hc0_6; clear hr0_6 hc0_6; have HR0_7 := Aside0.mk hr0_7; have HC0_7 := Aside0.mk hc0_7; clear hr0_7 hc0_7; have HR1_4 := Aside0.mk hr1_4; have HC1_4 := Aside0.mk hc1_4; clear hr1_4 hc1_4; have HR1_5 := Aside0.mk hr1_5; have HC1_5 := Aside0.mk hc1_5; clear hr1_5 hc1_5; have HR1_6 := Aside0.mk hr1_6; have HC1_6 := Aside0.mk hc1_6; clear hr1_6 hc1_6; have HR1_7 := Aside0.mk hr1_7; have HC1_7 := Aside0.mk hc1_7; clear hr1_7 hc1_7; have HB := Aside0.mk (Below.refl w.heap.size w); have H : ((impl_sameRouters.f k a0_0 a0_1 a0_2 a0_3 l0_4 l0_5 l0_6 l0_7 a1_0 a1_1 a1_2 a1_3 l1_4 l1_5 l1_6 l1_7).bind fun t353 => (some t353)) = some r := h; clear h; replace H := Option.bind_eq_some_iff.mp H; obtain ⟨t353, A30, H⟩ := H; replace H : (some t353) = some r := H; have A3 := Aside0.mk A30; clear A30; obtain rfl := Option.some.inj H
  go_enter Try.func57, Try.ntmps57
  go_wp2_with (first | ((with_reducible refine gate_dst (N := 2) rfl ?_); refine box_e_ 2 #[.int .i64 a0_0, .int .i64 a0_1, .int .i64 a0_2, .int .i64 a0_3, .slice A0_4 l0_4.length c0_4, .slice A0_5 l0_5.length c0_5, .slice A0_6 l0_6.length c0_6, .slice A0_7 l0_7.length c0_7] 97 ?_; intro gb351 hg w4 hbox hb; have BK351 := Aside0.mk (hbox); have GW351 := (bs_ hg : Aside0 (w.heap.size ≤ _)); have GE351 := (bs_ hg : Aside0 (w.heap.size ≤ _)); replace HB := bw_ hb; clear hb hbox hg) | ((with_reducible refine gate_dst (N := 3) rfl ?_); refine box_e_ 3 #[.int .i64 a1_0, .int .i64 a1_1, .int .i64 a1_2, .int .i64 a1_3, .slice A1_4 l1_4.length c1_4, .slice A1_5 l1_5.length c1_5, .slice A1_6 l1_6.length c1_6, .slice A1_7 l1_7.length c1_7] 97 ?_; intro gb352 hg w5 hbox hb; have BK352 := Aside0.mk (hbox); have GW352 := (bs_ hg : Aside0 (w.heap.size ≤ _)); have GE352 := (bs_ hg : Aside0 (w.heap.size ≤ _)); replace HB := bw_ hb; have NB351_352 := (nl_ hg BK351 : Aside0 (gb351 ≠ gb352)); have NB352_351 := (nr_ hg BK351 : Aside0 (gb352 ≠ gb351)); replace BK351 := bl_ BK351 hb; clear hb hbox hg; have hnb6 := NB351_352.out; have hnc6 := NB352_351.out; obtain ⟨hcz7_0, hcz7_1, hcz7_2, hcz7_3, hcz7_4, hcz7_5, hcz7_6, hcz7_7, hfz7_0, hfz7_1, hfz7_2, hfz7_3, hfz7_4, hfz7_5, hfz7_6, hfz7_7⟩ := cf8_ BK351; obtain ⟨hcz8_0, hcz8_1, hcz8_2, hcz8_3, hcz8_4, hcz8_5, hcz8_6, hcz8_7, hfz8_0, hfz8_1, hfz8_2, hfz8_3, hfz8_4, hfz8_5, hfz8_6, hfz8_7⟩ := cf8_ BK352) | ((with_reducible refine gate_callee (f := 120) rfl ?_); refine goe_ (some 7) Try.func120 #[.agg #[.int .i64 a0_0, .int .i64 a0_1, .int .i64 a0_2, .int .i64 a0_3, .slice A0_4 l0_4.length c0_4, .slice A0_5 l0_5.length c0_5, .slice A0_6 l0_6.length c0_6, .slice A0_7 l0_7.length c0_7], .agg #[.int .i64 a1_0, .int .i64 a1_1, .int .i64 a1_2, .int .i64 a1_3, .slice A1_4 l1_4.length c1_4, .slice A1_5 l1_5.length c1_5, .slice A1_6 l1_6.length c1_6, .slice A1_7 l1_7.length c1_7]] ?_; (with_reducible refine (impl_sameRouters.calls k a0_0 a0_1 a0_2 a0_3 _ _ l0_4 _ _ l0_5 _ _ l0_6 _ _ l0_7 a1_0 a1_1 a1_2 a1_3 _ _ l1_4 _ _ l1_5 _ _ l1_6 _ _ l1_7 t353 _ ?side1 ?side2 ?side3 ?side4 ?side5 ?side6 ?side7 ?side8 ?side9 ?side10 ?side11 ?side12 ?side13 ?side14 ?side15 ?side16 A3.out).mono ?_); (case side1 => exact kc_ (Kd.C_below HR0_4.out HB.out)); (case side2 => exact HC0_4.out); (case side3 => exact kc_ (Kd.C_below HR0_5.out HB.out)); (case side4 => exact HC0_5.out); (case side5 => exact kc_ (Kd.C_below HR0_6.out HB.out)); (case side6 => exact HC0_6.out); (case side7 => exact kc_ (Kd.C_below HR0_7.out HB.out)); (case side8 => exact HC0_7.out); (case side9 => exact kc_ (Kd.C_below HR1_4.out HB.out)); (case side10 => exact HC1_4.out); (case side11 => exact kc_ (Kd.C_below HR1_5.out HB.out)); (case side12 => exact HC1_5.out); (case side13 => exact kc_ (Kd.C_below HR1_6.out HB.out)); (case side14 => exact HC1_6.out); (case side15 => exact kc_ (Kd.C_below HR1_7.out HB.out)); (case side16 => exact HC1_7.out); rintro e w9 ⟨rfl, hb⟩; refine ⟨_, rfl, ?_⟩; replace BK351 := bl_ BK351 hb; replace BK352 := bl_ BK352 hb; replace HB := bw_ hb; (try clear hb)))
  go_ret
  exact ⟨er_, bb_⟩
def laws_eqConfig.f (a0_0 : Int) (a0_1 : Int) (a0_2 : Int) (a1_0 : Int) (a1_1 : Int) (a1_2 : Int) : Option (Bool) := if a0_0 = a1_0 then (if a0_1 = a1_1 then (if a0_2 = a1_2 then (some true) else (some false)) else (some false)) else (some false)
set_option maxHeartbeats 8000000 in
set_option maxRecDepth 100000 in
theorem laws_eqConfig.calls (a0_0 : Int) (a0_1 : Int) (a0_2 : Int) (a1_0 : Int) (a1_1 : Int) (a1_2 : Int) (r : Bool) (w : World) (h : laws_eqConfig.f a0_0 a0_1 a0_2 a1_0 a1_1 a1_2 = some r) :
    Calls Try.prog 171 #[.agg #[.int .i64 a0_0, .int .i64 a0_1, .int .i64 a0_2], .agg #[.int .i64 a1_0, .int .i64 a1_1, .int .i64 a1_2]] w fun e w' => e = .returned (.bool r) ∧ Below w.heap.size w w' := by
  have hu47 := Try.underlying47; have HB := Aside0.mk (Below.refl w.heap.size w); have H : (if a0_0 = a1_0 then (if a0_1 = a1_1 then (if a0_2 = a1_2 then (some true) else (some false)) else (some false)) else (some false)) = some r := h; clear h
  by_cases c3 : a0_0 = a1_0
  · rw [if_pos c3] at H
    have c3b0 : (a0_0 == a1_0) = true := beq_iff_eq.mpr c3; have c3b1 : (a0_0 != a1_0) = false := bne_eq_false_iff_eq.mpr c3; clear c3
    by_cases c4 : a0_1 = a1_1
    · rw [if_pos c4] at H
      have c4b0 : (a0_1 == a1_1) = true := beq_iff_eq.mpr c4; have c4b1 : (a0_1 != a1_1) = false := bne_eq_false_iff_eq.mpr c4; clear c4
      by_cases c5 : a0_2 = a1_2
      · rw [if_pos c5] at H
        have c5b0 : (a0_2 == a1_2) = true := beq_iff_eq.mpr c5; have c5b1 : (a0_2 != a1_2) = false := bne_eq_false_iff_eq.mpr c5; clear c5; obtain rfl := Option.some.inj H
        go_enter Try.func171, Try.ntmps171
        go_wp2_with (first | ((with_reducible refine gate_dst (N := 2) rfl ?_); refine box_e_ 2 #[.int .i64 a0_0, .int .i64 a0_1, .int .i64 a0_2] 47 ?_; intro gb354 hg w6 hbox hb; have BK354 := Aside0.mk (hbox); have GW354 := (bs_ hg : Aside0 (w.heap.size ≤ _)); have GE354 := (bs_ hg : Aside0 (w.heap.size ≤ _)); replace HB := bw_ hb; clear hb hbox hg) | ((with_reducible refine gate_dst (N := 3) rfl ?_); refine box_e_ 3 #[.int .i64 a1_0, .int .i64 a1_1, .int .i64 a1_2] 47 ?_; intro gb355 hg w7 hbox hb; have BK355 := Aside0.mk (hbox); have GW355 := (bs_ hg : Aside0 (w.heap.size ≤ _)); have GE355 := (bs_ hg : Aside0 (w.heap.size ≤ _)); replace HB := bw_ hb; have NB354_355 := (nl_ hg BK354 : Aside0 (gb354 ≠ gb355)); have NB355_354 := (nr_ hg BK354 : Aside0 (gb355 ≠ gb354)); replace BK354 := bl_ BK354 hb; clear hb hbox hg; have hnb8 := NB354_355.out; have hnc8 := NB355_354.out; obtain ⟨hcz9_0, hcz9_1, hcz9_2, hfz9_0, hfz9_1, hfz9_2⟩ := cf3_ BK354; obtain ⟨hcz10_0, hcz10_1, hcz10_2, hfz10_0, hfz10_1, hfz10_2⟩ := cf3_ BK355))
        go_ret
        exact ⟨er_, bb_⟩
      · rw [if_neg c5] at H
        have c5b0 : (a0_2 == a1_2) = false := beq_eq_false_iff_ne.mpr c5; have c5b1 : (a0_2 != a1_2) = true := bne_iff_ne.mpr c5; obtain rfl := Option.some.inj H
        go_enter Try.func171, Try.ntmps171
        go_wp2_with (first | ((with_reducible refine gate_dst (N := 2) rfl ?_); refine box_e_ 2 #[.int .i64 a0_0, .int .i64 a0_1, .int .i64 a0_2] 47 ?_; intro gb354 hg w11 hbox hb; have BK354 := Aside0.mk (hbox); have GW354 := (bs_ hg : Aside0 (w.heap.size ≤ _)); have GE354 := (bs_ hg : Aside0 (w.heap.size ≤ _)); replace HB := bw_ hb; clear hb hbox hg) | ((with_reducible refine gate_dst (N := 3) rfl ?_); refine box_e_ 3 #[.int .i64 a1_0, .int .i64 a1_1, .int .i64 a1_2] 47 ?_; intro gb355 hg w12 hbox hb; have BK355 := Aside0.mk (hbox); have GW355 := (bs_ hg : Aside0 (w.heap.size ≤ _)); have GE355 := (bs_ hg : Aside0 (w.heap.size ≤ _)); replace HB := bw_ hb; have NB354_355 := (nl_ hg BK354 : Aside0 (gb354 ≠ gb355)); have NB355_354 := (nr_ hg BK354 : Aside0 (gb355 ≠ gb354)); replace BK354 := bl_ BK354 hb; clear hb hbox hg; have hnb13 := NB354_355.out; have hnc13 := NB355_354.out; obtain ⟨hcz14_0, hcz14_1, hcz14_2, hfz14_0, hfz14_1, hfz14_2⟩ := cf3_ BK354; obtain ⟨hcz15_0, hcz15_1, hcz15_2, hfz15_0, hfz15_1, hfz15_2⟩ := cf3_ BK355))
        go_ret
        exact ⟨er_, bb_⟩
    · rw [if_neg c4] at H
      have c4b0 : (a0_1 == a1_1) = false := beq_eq_false_iff_ne.mpr c4; have c4b1 : (a0_1 != a1_1) = true := bne_iff_ne.mpr c4; obtain rfl := Option.some.inj H
      go_enter Try.func171, Try.ntmps171
      go_wp2_with (first | ((with_reducible refine gate_dst (N := 2) rfl ?_); refine box_e_ 2 #[.int .i64 a0_0, .int .i64 a0_1, .int .i64 a0_2] 47 ?_; intro gb354 hg w16 hbox hb; have BK354 := Aside0.mk (hbox); have GW354 := (bs_ hg : Aside0 (w.heap.size ≤ _)); have GE354 := (bs_ hg : Aside0 (w.heap.size ≤ _)); replace HB := bw_ hb; clear hb hbox hg) | ((with_reducible refine gate_dst (N := 3) rfl ?_); refine box_e_ 3 #[.int .i64 a1_0, .int .i64 a1_1, .int .i64 a1_2] 47 ?_; intro gb355 hg w17 hbox hb; have BK355 := Aside0.mk (hbox); have GW355 := (bs_ hg : Aside0 (w.heap.size ≤ _)); have GE355 := (bs_ hg : Aside0 (w.heap.size ≤ _)); replace HB := bw_ hb; have NB354_355 := (nl_ hg BK354 : Aside0 (gb354 ≠ gb355)); have NB355_354 := (nr_ hg BK354 : Aside0 (gb355 ≠ gb354)); replace BK354 := bl_ BK354 hb; clear hb hbox hg; have hnb18 := NB354_355.out; have hnc18 := NB355_354.out; obtain ⟨hcz19_0, hcz19_1, hcz19_2, hfz19_0, hfz19_1, hfz19_2⟩ := cf3_ BK354; obtain ⟨hcz20_0, hcz20_1, hcz20_2, hfz20_0, hfz20_1, hfz20_2⟩ := cf3_ BK355))
      go_ret
      exact ⟨er_, bb_⟩
  · rw [if_neg c3] at H
    have c3b0 : (a0_0 == a1_0) = false := beq_eq_false_iff_ne.mpr c3; have c3b1 : (a0_0 != a1_0) = true := bne_iff_ne.mpr c3; obtain rfl := Option.some.inj H
    go_enter Try.func171, Try.ntmps171
    go_wp2_with (first | ((with_reducible refine gate_dst (N := 2) rfl ?_); refine box_e_ 2 #[.int .i64 a0_0, .int .i64 a0_1, .int .i64 a0_2] 47 ?_; intro gb354 hg w21 hbox hb; have BK354 := Aside0.mk (hbox); have GW354 := (bs_ hg : Aside0 (w.heap.size ≤ _)); have GE354 := (bs_ hg : Aside0 (w.heap.size ≤ _)); replace HB := bw_ hb; clear hb hbox hg) | ((with_reducible refine gate_dst (N := 3) rfl ?_); refine box_e_ 3 #[.int .i64 a1_0, .int .i64 a1_1, .int .i64 a1_2] 47 ?_; intro gb355 hg w22 hbox hb; have BK355 := Aside0.mk (hbox); have GW355 := (bs_ hg : Aside0 (w.heap.size ≤ _)); have GE355 := (bs_ hg : Aside0 (w.heap.size ≤ _)); replace HB := bw_ hb; have NB354_355 := (nl_ hg BK354 : Aside0 (gb354 ≠ gb355)); have NB355_354 := (nr_ hg BK354 : Aside0 (gb355 ≠ gb354)); replace BK354 := bl_ BK354 hb; clear hb hbox hg; have hnb23 := NB354_355.out; have hnc23 := NB355_354.out; obtain ⟨hcz24_0, hcz24_1, hcz24_2, hfz24_0, hfz24_1, hfz24_2⟩ := cf3_ BK354; obtain ⟨hcz25_0, hcz25_1, hcz25_2, hfz25_0, hfz25_1, hfz25_2⟩ := cf3_ BK355))
    go_ret
    exact ⟨er_, bb_⟩
def laws_eqPrefix.f (a0_0 : Int) (a0_1 : Int) (a1_0 : Int) (a1_1 : Int) : Option (Bool) := if a0_0 = a1_0 then (if a0_1 = a1_1 then (some true) else (some false)) else (some false)
set_option maxHeartbeats 8000000 in
set_option maxRecDepth 100000 in
theorem laws_eqPrefix.calls (a0_0 : Int) (a0_1 : Int) (a1_0 : Int) (a1_1 : Int) (r : Bool) (w : World) (h : laws_eqPrefix.f a0_0 a0_1 a1_0 a1_1 = some r) :
    Calls Try.prog 129 #[.agg #[.int .i64 a0_0, .int .i64 a0_1], .agg #[.int .i64 a1_0, .int .i64 a1_1]] w fun e w' => e = .returned (.bool r) ∧ Below w.heap.size w w' := by
  have hu167 := Try.underlying167; have HB := Aside0.mk (Below.refl w.heap.size w); have H : (if a0_0 = a1_0 then (if a0_1 = a1_1 then (some true) else (some false)) else (some false)) = some r := h; clear h
  by_cases c3 : a0_0 = a1_0
  · rw [if_pos c3] at H
    have c3b0 : (a0_0 == a1_0) = true := beq_iff_eq.mpr c3; have c3b1 : (a0_0 != a1_0) = false := bne_eq_false_iff_eq.mpr c3; clear c3
    by_cases c4 : a0_1 = a1_1
    · rw [if_pos c4] at H
      have c4b0 : (a0_1 == a1_1) = true := beq_iff_eq.mpr c4; have c4b1 : (a0_1 != a1_1) = false := bne_eq_false_iff_eq.mpr c4; clear c4; obtain rfl := Option.some.inj H
      go_enter Try.func129, Try.ntmps129
      go_wp2_with (first | ((with_reducible refine gate_dst (N := 2) rfl ?_); refine box_e_ 2 #[.int .i64 a0_0, .int .i64 a0_1] 167 ?_; intro gb356 hg w5 hbox hb; have BK356 := Aside0.mk (hbox); have GW356 := (bs_ hg : Aside0 (w.heap.size ≤ _)); have GE356 := (bs_ hg : Aside0 (w.heap.size ≤ _)); replace HB := bw_ hb; clear hb hbox hg) | ((with_reducible refine gate_dst (N := 3) rfl ?_); refine box_e_ 3 #[.int .i64 a1_0, .int .i64 a1_1] 167 ?_; intro gb357 hg w6 hbox hb; have BK357 := Aside0.mk (hbox); have GW357 := (bs_ hg : Aside0 (w.heap.size ≤ _)); have GE357 := (bs_ hg : Aside0 (w.heap.size ≤ _)); replace HB := bw_ hb; have NB356_357 := (nl_ hg BK356 : Aside0 (gb356 ≠ gb357)); have NB357_356 := (nr_ hg BK356 : Aside0 (gb357 ≠ gb356)); replace BK356 := bl_ BK356 hb; clear hb hbox hg; have hnb7 := NB356_357.out; have hnc7 := NB357_356.out; obtain ⟨hcz8_0, hcz8_1, hfz8_0, hfz8_1⟩ := cf2_ BK356; obtain ⟨hcz9_0, hcz9_1, hfz9_0, hfz9_1⟩ := cf2_ BK357))
      go_ret
      exact ⟨er_, bb_⟩
    · rw [if_neg c4] at H
      have c4b0 : (a0_1 == a1_1) = false := beq_eq_false_iff_ne.mpr c4; have c4b1 : (a0_1 != a1_1) = true := bne_iff_ne.mpr c4; obtain rfl := Option.some.inj H
      go_enter Try.func129, Try.ntmps129
      go_wp2_with (first | ((with_reducible refine gate_dst (N := 2) rfl ?_); refine box_e_ 2 #[.int .i64 a0_0, .int .i64 a0_1] 167 ?_; intro gb356 hg w10 hbox hb; have BK356 := Aside0.mk (hbox); have GW356 := (bs_ hg : Aside0 (w.heap.size ≤ _)); have GE356 := (bs_ hg : Aside0 (w.heap.size ≤ _)); replace HB := bw_ hb; clear hb hbox hg) | ((with_reducible refine gate_dst (N := 3) rfl ?_); refine box_e_ 3 #[.int .i64 a1_0, .int .i64 a1_1] 167 ?_; intro gb357 hg w11 hbox hb; have BK357 := Aside0.mk (hbox); have GW357 := (bs_ hg : Aside0 (w.heap.size ≤ _)); have GE357 := (bs_ hg : Aside0 (w.heap.size ≤ _)); replace HB := bw_ hb; have NB356_357 := (nl_ hg BK356 : Aside0 (gb356 ≠ gb357)); have NB357_356 := (nr_ hg BK356 : Aside0 (gb357 ≠ gb356)); replace BK356 := bl_ BK356 hb; clear hb hbox hg; have hnb12 := NB356_357.out; have hnc12 := NB357_356.out; obtain ⟨hcz13_0, hcz13_1, hfz13_0, hfz13_1⟩ := cf2_ BK356; obtain ⟨hcz14_0, hcz14_1, hfz14_0, hfz14_1⟩ := cf2_ BK357))
      go_ret
      exact ⟨er_, bb_⟩
  · rw [if_neg c3] at H
    have c3b0 : (a0_0 == a1_0) = false := beq_eq_false_iff_ne.mpr c3; have c3b1 : (a0_0 != a1_0) = true := bne_iff_ne.mpr c3; obtain rfl := Option.some.inj H
    go_enter Try.func129, Try.ntmps129
    go_wp2_with (first | ((with_reducible refine gate_dst (N := 2) rfl ?_); refine box_e_ 2 #[.int .i64 a0_0, .int .i64 a0_1] 167 ?_; intro gb356 hg w15 hbox hb; have BK356 := Aside0.mk (hbox); have GW356 := (bs_ hg : Aside0 (w.heap.size ≤ _)); have GE356 := (bs_ hg : Aside0 (w.heap.size ≤ _)); replace HB := bw_ hb; clear hb hbox hg) | ((with_reducible refine gate_dst (N := 3) rfl ?_); refine box_e_ 3 #[.int .i64 a1_0, .int .i64 a1_1] 167 ?_; intro gb357 hg w16 hbox hb; have BK357 := Aside0.mk (hbox); have GW357 := (bs_ hg : Aside0 (w.heap.size ≤ _)); have GE357 := (bs_ hg : Aside0 (w.heap.size ≤ _)); replace HB := bw_ hb; have NB356_357 := (nl_ hg BK356 : Aside0 (gb356 ≠ gb357)); have NB357_356 := (nr_ hg BK356 : Aside0 (gb357 ≠ gb356)); replace BK356 := bl_ BK356 hb; clear hb hbox hg; have hnb17 := NB356_357.out; have hnc17 := NB357_356.out; obtain ⟨hcz18_0, hcz18_1, hfz18_0, hfz18_1⟩ := cf2_ BK356; obtain ⟨hcz19_0, hcz19_1, hfz19_0, hfz19_1⟩ := cf2_ BK357))
    go_ret
    exact ⟨er_, bb_⟩
end Go.Proofs.Ythmkjapmnlhflaa.PFnExactSameRouters
