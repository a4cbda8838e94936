/- The functions that the law FnSplits reaches: each as a plain Lean function, with the proof that the call does what it says. -/
import Derived.Test.YtfbojdagjecjcaaYFnSplitsx0
import Derived.Test.YtfbojdagjecjcaaYFnSplitsx2
import Derived.Test.YtfbojdagjecjcaaYFnSplitsx5
import Derived.Test.YtfbojdagjecjcaaYFnSplitsx6
namespace Go.Proofs.Ytfbojdagjecjcaa.PFnSplits
open Go.RowKit Go.Proofs.YtfbojdagjecjcaaW.PrintWords Go.Proofs.YtfbojdagjecjcaaW.PrintLast Go.Proofs.YtfbojdagjecjcaaW.PrintMore
attribute [local go_sem] max2_int min2_int max_two min_two max_three min_three max_four min_four
set_option linter.unusedVariables false
set_option linter.unusedSimpArgs false
def spec_l1Turn.j0 : Nat → List Int → Bool → List Int → Int → Option (List Int × Int)
  | 0, _, _, _, _ => none
  | k + 1, x1, x13, x1000, x1001 => if x13 = true then (some (x1, x1001)) else ((spec_l1Next.f x1000 x1001 (x1.length : Int)).bind fun bt229 => ((spec_l1Next.f x1000 bt229.2 3).bind fun bt231 => (if bt231.1 = 0 then ((spec_l1Next.f x1000 bt231.2 256).bind fun bt233 => (if 0 ≤ bt229.1 then (if bt229.1 < (x1.length : Int) then (some ((x1.set (bt229.1 : Int).toNat ((bt233.1) % 256)), bt233.2)) else (none)) else (none))) else (if bt231.1 = 1 then (if 0 ≤ bt229.1 then (if bt229.1 ≤ (x1.length : Int) then (some ((x1.take (bt229.1 : Int).toNat), bt231.2)) else (none)) else (none)) else (if bt231.1 = 2 then ((spec_l1Pick.f x1000 bt231.2 (([0, 255] : List Int))).bind fun bt242 => (if x1.length < 140737488355328 then (some ((x1 ++ [(bt242.1) % 256]), bt242.2)) else (none))) else (some (x1, bt231.2)))))))
def spec_l1Turn.f (k : Nat) (s0_0 : List Int) (s0_1 : Int) (l1 : List Int) : Option (List Int × Int) := if (l1.length : Int) = 0 then (spec_l1Turn.j0 k l1 true s0_0 s0_1) else ((spec_l1Chance.f s0_0 s0_1 3).bind fun bt227 => (spec_l1Turn.j0 k l1 (!bt227.1) s0_0 bt227.2))
theorem spec_l1Turn.mono_l : ∀ k, (∀ y0 y1 y2 y3, LeO (spec_l1Turn.j0 k y0 y1 y2 y3) (spec_l1Turn.j0 (k + 1) y0 y1 y2 y3))
  | 0 => fun _ _ _ _ r h => by simp [spec_l1Turn.j0] at h
  | k + 1 => by
    have ih0 := spec_l1Turn.mono_l k
    · intro y0 y1 y2 y3
      unfold spec_l1Turn.j0
      repeat' first
      | (with_reducible exact ih0 _ _ _ _)
      | (with_reducible exact LeO.refl _)
      | (with_reducible exact LeO.none _)
      | (with_reducible refine LeO.ite ?_ ?_)
      | (with_reducible refine LeO.bind ?_ (fun _ => ?_))
      | exact ih0 _ _ _ _
      | exact LeO.none _
      | refine LeO.ite ?_ ?_
      | refine LeO.bind ?_ (fun _ => ?_)
theorem spec_l1Turn.mono : ∀ a0 a1 a2 k, LeO (spec_l1Turn.f k a0 a1 a2) (spec_l1Turn.f (k + 1) a0 a1 a2) := by
  intro a0 a1 a2 k
  have ih0 := spec_l1Turn.mono_l k
  unfold spec_l1Turn.f
  repeat' first
      | (with_reducible exact ih0 _ _ _ _)
      | (with_reducible exact LeO.refl _)
      | (with_reducible exact LeO.none _)
      | (with_reducible refine LeO.ite ?_ ?_)
      | (with_reducible refine LeO.bind ?_ (fun _ => ?_))
      | exact ih0 _ _ _ _
      | exact LeO.none _
      | refine LeO.ite ?_ ?_
      | refine LeO.bind ?_ (fun _ => ?_)
set_option maxHeartbeats 8000000 in
set_option maxRecDepth 100000 in
theorem spec_l1Turn.calls (k : Nat) (g : Nat) (s0_0 : List Int) (s0_1 : Int) (P1_ : Nat → Prop) (u9000_ : Value) (l1 : List Int) (r1 : List Int) (r2 : Int) (w0 w : World) (hI : IsS203 w0 w g s0_0 s0_1) (hB : Below w0.heap.size w0 w) (ho1 : Kd.R (Kd.int .u8) 5 w w0.heap.size P1_ u9000_ l1) (h : spec_l1Turn.f k s0_0 s0_1 l1 = some (r1, r2)) :
    Calls Try.prog 130 #[.pointer (some ⟨g, 0, none⟩), u9000_] w fun e w' => ∃ v0_ : Value, e = .returned (v0_) ∧ Kd.R (Kd.int .u8) 5 w' w0.heap.size (fun k_ => (P1_ k_ ∨ w.heap.size ≤ k_)) v0_ r1 ∧ IsS203 w0 w' g s0_0 r2 ∧ Below w0.heap.size w0 w' ∧ Kept w w' (fun k_ => (P1_ k_) ∨ k_ = g) := by
  have HO1 := Aside0.mk (show Kd.R (Kd.int .u8) 5 w w0.heap.size (fun k_ => (P1_ k_ ∨ w.heap.size ≤ k_)) u9000_ l1 from Kd.R_mono ho1 (fun k_ hk => (.inl hk)))
  have HI0 := Aside0.mk hI
  have HL := Aside0.mk hB.size
  clear hI
  have HK := Aside0.mk (Kept.refl w (fun k_ => (P1_ k_) ∨ k_ = g))
  have HW0 := Aside0.mk hB.size
  have HB := Aside0.mk hB
  clear hB
  have H : (if (l1.length : Int) = 0 then (spec_l1Turn.j0 k l1 true s0_0 s0_1) else ((spec_l1Chance.f s0_0 s0_1 3).bind fun bt227 => (spec_l1Turn.j0 k l1 (!bt227.1) s0_0 bt227.2))) = some (r1, r2) := h
  clear h
  have HC3 := Aside0.mk H
  clear H
  go_enter Try.func130, Try.ntmps130
  go_upto_region 1 with (fail)
  go_cut [13] (fun v13 wc => ∃ (kq : Nat) (x13_2 : Bool) (x1001_2 : Int), v13 = .bool x13_2 ∧ Aside0 (spec_l1Turn.j0 kq l1 x13_2 s0_0 x1001_2 = some (r1, r2)) ∧ Aside0 (kq ≤ k) ∧ Aside0 (Kd.R (Kd.int .u8) 5 wc w0.heap.size (fun k_ => (P1_ k_ ∨ w.heap.size ≤ k_)) u9000_ l1) ∧ Aside0 (IsS203 w0 wc g s0_0 x1001_2) ∧ Aside0 (Kept w wc (fun k_ => (P1_ k_) ∨ k_ = g)) ∧ Aside0 (Below w0.heap.size w0 wc))
  case first =>
    have H := HC3.out
    clear HC3
    by_cases c4 : (l1.length : Int) = 0
    · rw [if_pos c4] at H
      have c4b0 : ((l1.length : Int) == 0) = true := beq_iff_eq.mpr c4
      have c4b1 : ((l1.length : Int) != 0) = false := bne_eq_false_iff_eq.mpr c4
      clear c4
      (first | rw [c4b0] | (simp only [i64_w, i32_w]; rw [c4b0]) | skip)
      have H' := Aside0.mk H
      clear H
      obtain ⟨Ao5, co5, eo5⟩ := Kd.R_slice HO1.out
      subst eo5
      go_wp2
      go_meet
      case rel => exact ⟨_, (true), (s0_1), sd_, H', ⟨ol_⟩, ⟨kr_ HO1⟩, ⟨by repeat (first | (with_reducible first | exact HI0.out | apply IsS203.alloc | apply IsS203.drewN | apply IsS203.drew | apply IsS203.set_1) | exact HI0.out)⟩, ⟨by repeat (first | (with_reducible first | exact HK.out | apply Kept.alloc | apply Kept.drewN | apply Kept.drew | refine Kept.setCell ?_ (.inl (.inr rfl)) _) | exact HK.out)⟩, ⟨by repeat (first | (with_reducible first | exact HB.out | apply below_alloc | apply pw_below_drewN | apply below_drew1 | refine below_set ?_ (IsS203.ge HI0.out)) | exact HB.out)⟩⟩
    · rw [if_neg c4] at H
      have c4b0 : ((l1.length : Int) == 0) = false := beq_eq_false_iff_ne.mpr c4
      have c4b1 : ((l1.length : Int) != 0) = true := bne_iff_ne.mpr c4
      have c4b2 : ¬ (l1 = []) := fun h_ => c4 (by rw [h_]; rfl)
      (first | rw [c4b0] | (simp only [i64_w, i32_w]; rw [c4b0]) | skip)
      replace H := Option.bind_eq_some_iff.mp H
      obtain ⟨⟨t227, t228⟩, A60, H⟩ := H
      replace H : (spec_l1Turn.j0 k l1 (!t227) s0_0 t228) = some (r1, r2) := H
      have A6 := Aside0.mk A60
      clear A60
      have H' := Aside0.mk H
      clear H
      obtain ⟨Ao7, co7, eo7⟩ := Kd.R_slice HO1.out
      subst eo7
      go_wp2_with (first | (go_at_call 129; (with_reducible refine (spec_l1Chance.calls g s0_0 s0_1 3 t227 t228 w0 _ ?side1 ?side2 A6.out).mono ?_); (case side1 => repeat (first | (with_reducible first | exact HI0.out | apply IsS203.alloc | apply IsS203.drewN | apply IsS203.drew | apply IsS203.set_1) | exact HI0.out)); (case side2 => repeat (first | (with_reducible first | exact HB.out | apply below_alloc | apply pw_below_drewN | apply below_drew1 | refine below_set ?_ (IsS203.ge HI0.out)) | exact HB.out)); rintro e w8 ⟨rfl, hi, hb, hk⟩; replace HO1 := Aside0.mk (Kd.R_mono (Kd.R_keep (IsS203.apart (show IsS203 w0 _ g s0_0 s0_1 from by repeat (first | (with_reducible first | exact HI0.out | apply IsS203.alloc | apply IsS203.drewN | apply IsS203.drew | apply IsS203.set_1) | exact HI0.out)) (kr_ HO1) (by decide)) hk (fun _ h => h.2)) (fun _ h => h.1)); replace HK := Aside0.mk (Kept.of_keep (S := (fun k_ => (P1_ k_) ∨ k_ = g)) (by repeat (first | (with_reducible first | exact HK.out | apply Kept.alloc | apply Kept.drewN | apply Kept.drew | refine Kept.setCell ?_ (.inl (.inr rfl)) _) | exact HK.out)) hk (.inl (.inr rfl))); replace HB := Aside0.mk (hb); replace HI0 := Aside0.mk (hi); (try clear hb); (try clear hb2); (try clear hk); (try clear hi)))
      go_meet
      case rel => exact ⟨_, (!t227), (t228), sd_, H', ⟨ol_⟩, ⟨kr_ HO1⟩, ⟨by repeat (first | (with_reducible first | exact HI0.out | apply IsS203.alloc | apply IsS203.drewN | apply IsS203.drew | apply IsS203.set_1) | exact HI0.out)⟩, ⟨by repeat (first | (with_reducible first | exact HK.out | apply Kept.alloc | apply Kept.drewN | apply Kept.drew | refine Kept.setCell ?_ (.inl (.inr rfl)) _) | exact HK.out)⟩, ⟨by repeat (first | (with_reducible first | exact HB.out | apply below_alloc | apply pw_below_drewN | apply below_drew1 | refine below_set ?_ (IsS203.ge HI0.out)) | exact HB.out)⟩⟩
  case rest =>
    clear HC3
    try clear c1
    try clear p2
    try clear c4
    try clear c4b0
    try clear c4b1
    try clear c4b2
    obtain ⟨kq, x13_2, x1001_2, rfl, HA, HJ2, HO_1, HI0, HK, HB⟩ := hcut
    cases kq with
    | zero => exact absurd HA.out (by simp [spec_l1Turn.j0])
    | succ kj2 =>
      have H := HA.out
      clear HA
      simp only [spec_l1Turn.j0] at H
      by_cases c9 : x13_2 = true
      · subst c9
        have H1 : (some (l1, x1001_2)) = some (r1, r2) := by rw [if_pos rfl] at H; exact H
        clear H
        have H := H1
        clear H1
        simp only [Option.some.injEq, Prod.mk.injEq] at H
        obtain ⟨rfl, rfl⟩ := H
        go_wp2
        go_ret
        exact ⟨_, er_, kr_ HO_1, by repeat (first | (with_reducible first | exact HI0.out | apply IsS203.alloc | apply IsS203.drewN | apply IsS203.drew | apply IsS203.set_1) | exact HI0.out), by repeat (first | (with_reducible first | exact HB.out | apply below_alloc | apply pw_below_drewN | apply below_drew1 | refine below_set ?_ (IsS203.ge HI0.out)) | exact HB.out), by repeat (first | (with_reducible first | exact HK.out | apply Kept.alloc | apply Kept.drewN | apply Kept.drew | refine Kept.setCell ?_ (.inl (.inr rfl)) _) | exact HK.out)⟩
      · replace c9 := Bool.eq_false_iff.mpr c9
        subst c9
        have H1 : ((spec_l1Next.f s0_0 x1001_2 (l1.length : Int)).bind fun bt229 => ((spec_l1Next.f s0_0 bt229.2 3).bind fun bt231 => (if bt231.1 = 0 then ((spec_l1Next.f s0_0 bt231.2 256).bind fun bt233 => (if 0 ≤ bt229.1 then (if bt229.1 < (l1.length : Int) then (some ((l1.set (bt229.1 : Int).toNat ((bt233.1) % 256)), bt233.2)) else (none)) else (none))) else (if bt231.1 = 1 then (if 0 ≤ bt229.1 then (if bt229.1 ≤ (l1.length : Int) then (some ((l1.take (bt229.1 : Int).toNat), bt231.2)) else (none)) else (none)) else (if bt231.1 = 2 then ((spec_l1Pick.f s0_0 bt231.2 (([0, 255] : List Int))).bind fun bt242 => (if l1.length < 140737488355328 then (some ((l1 ++ [(bt242.1) % 256]), bt242.2)) else (none))) else (some (l1, bt231.2))))))) = some (r1, r2) := by rw [if_neg (show ¬ (false = true) by decide)] at H; exact H
        clear H
        have H := H1
        clear H1
        replace H := Option.bind_eq_some_iff.mp H
        obtain ⟨⟨t229, t230⟩, A100, H⟩ := H
        replace H : ((spec_l1Next.f s0_0 t230 3).bind fun bt231 => (if bt231.1 = 0 then ((spec_l1Next.f s0_0 bt231.2 256).bind fun bt233 => (if 0 ≤ t229 then (if t229 < (l1.length : Int) then (some ((l1.set (t229 : Int).toNat ((bt233.1) % 256)), bt233.2)) else (none)) else (none))) else (if bt231.1 = 1 then (if 0 ≤ t229 then (if t229 ≤ (l1.length : Int) then (some ((l1.take (t229 : Int).toNat), bt231.2)) else (none)) else (none)) else (if bt231.1 = 2 then ((spec_l1Pick.f s0_0 bt231.2 (([0, 255] : List Int))).bind fun bt242 => (if l1.length < 140737488355328 then (some ((l1 ++ [(bt242.1) % 256]), bt242.2)) else (none))) else (some (l1, bt231.2)))))) = some (r1, r2) := H
        have A10 := Aside0.mk A100
        clear A100
        replace H := Option.bind_eq_some_iff.mp H
        obtain ⟨⟨t231, t232⟩, A110, H⟩ := H
        replace H : (if t231 = 0 then ((spec_l1Next.f s0_0 t232 256).bind fun bt233 => (if 0 ≤ t229 then (if t229 < (l1.length : Int) then (some ((l1.set (t229 : Int).toNat ((bt233.1) % 256)), bt233.2)) else (none)) else (none))) else (if t231 = 1 then (if 0 ≤ t229 then (if t229 ≤ (l1.length : Int) then (some ((l1.take (t229 : Int).toNat), t232)) else (none)) else (none)) else (if t231 = 2 then ((spec_l1Pick.f s0_0 t232 (([0, 255] : List Int))).bind fun bt242 => (if l1.length < 140737488355328 then (some ((l1 ++ [(bt242.1) % 256]), bt242.2)) else (none))) else (some (l1, t232))))) = some (r1, r2) := H
        have A11 := Aside0.mk A110
        clear A110
        by_cases c12 : t231 = 0
        · rw [if_pos c12] at H
          have c12b0 : (t231 == 0) = true := beq_iff_eq.mpr c12
          have c12b1 : (t231 != 0) = false := bne_eq_false_iff_eq.mpr c12
          clear c12
          replace H := Option.bind_eq_some_iff.mp H
          obtain ⟨⟨t233, t234⟩, A130, H⟩ := H
          replace H : (if 0 ≤ t229 then (if t229 < (l1.length : Int) then (some ((l1.set (t229 : Int).toNat ((t233) % 256)), t234)) else (none)) else (none)) = some (r1, r2) := H
          have A13 := Aside0.mk A130
          clear A130
          by_cases c14 : 0 ≤ t229
          · rw [if_pos c14] at H
            have c14b0 : decide (0 ≤ t229) = true := decide_eq_true c14
            clear c14
            by_cases c15 : t229 < (l1.length : Int)
            · rw [if_pos c15] at H
              have c15b0 : decide (t229 < (l1.length : Int)) = true := decide_eq_true c15
              clear c15
              obtain ⟨y235, hy235⟩ : ∃ y_ : List Int, y_ = (l1.set (t229 : Int).toNat ((t233) % 256)) := ⟨_, rfl⟩
              replace H : (some (y235, t234)) = some (r1, r2) := by first | (rw [hy235]; with_reducible exact H) | (have H2_ := (Option.bind_some _ _).symm.trans H; rw [hy235]; with_reducible exact H2_) | (have H2_ := (Option.bind_some _ _).symm.trans H; with_reducible exact H2_) | with_reducible exact H | (rw [hy235]; exact H) | exact H
              have Ny235 := Aside0.mk hy235
              clear hy235
              simp only [Option.some.injEq, Prod.mk.injEq] at H
              obtain ⟨rfl, rfl⟩ := H
              obtain ⟨Ao17, co17, eo17⟩ := Kd.R_slice HO_1.out
              subst eo17
              go_wp2_with (first | ((with_reducible refine gate_callee (f := 125) rfl ?_); refine goe_ (some 18) Try.func125 #[.pointer (some ⟨g, 0, none⟩), .int .i64 (l1.length : Int)] ?_; (with_reducible refine (spec_l1Next.calls g s0_0 x1001_2 (l1.length : Int) t229 t230 w0 _ ?side1 ?side2 A10.out).mono ?_); (case side1 => repeat (first | (with_reducible first | exact HI0.out | apply IsS203.alloc | apply IsS203.drewN | apply IsS203.drew | apply IsS203.set_1) | exact HI0.out)); (case side2 => repeat (first | (with_reducible first | exact HB.out | apply below_alloc | apply pw_below_drewN | apply below_drew1 | refine below_set ?_ (IsS203.ge HI0.out)) | exact HB.out)); rintro e w18 ⟨rfl, hi, hb, hk⟩; refine ⟨_, rfl, ?_⟩; replace HO_1 := Aside0.mk (Kd.R_mono (Kd.R_keep (IsS203.apart (show IsS203 w0 _ g s0_0 x1001_2 from by repeat (first | (with_reducible first | exact HI0.out | apply IsS203.alloc | apply IsS203.drewN | apply IsS203.drew | apply IsS203.set_1) | exact HI0.out)) (kr_ HO_1) (by decide)) hk (fun _ h => h.2)) (fun _ h => h.1)); replace HK := Aside0.mk (Kept.of_keep (S := (fun k_ => (P1_ k_) ∨ k_ = g)) (by repeat (first | (with_reducible first | exact HK.out | apply Kept.alloc | apply Kept.drewN | apply Kept.drew | refine Kept.setCell ?_ (.inl (.inr rfl)) _) | exact HK.out)) hk (.inl (.inr rfl))); replace HB := Aside0.mk (hb); replace HI0 := Aside0.mk (hi); (try clear hb); (try clear hb2); (try clear hk); (try clear hi)) | ((with_reducible refine gate_callee (f := 125) rfl ?_); refine goe_ (some 20) Try.func125 #[.pointer (some ⟨g, 0, none⟩), .int .i64 3] ?_; (with_reducible refine (spec_l1Next.calls g s0_0 t230 3 t231 t232 w0 _ ?side1 ?side2 A11.out).mono ?_); (case side1 => repeat (first | (with_reducible first | exact HI0.out | apply IsS203.alloc | apply IsS203.drewN | apply IsS203.drew | apply IsS203.set_1) | exact HI0.out)); (case side2 => repeat (first | (with_reducible first | exact HB.out | apply below_alloc | apply pw_below_drewN | apply below_drew1 | refine below_set ?_ (IsS203.ge HI0.out)) | exact HB.out)); rintro e w19 ⟨rfl, hi, hb, hk⟩; refine ⟨_, rfl, ?_⟩; replace HO_1 := Aside0.mk (Kd.R_mono (Kd.R_keep (IsS203.apart (show IsS203 w0 _ g s0_0 t230 from by repeat (first | (with_reducible first | exact HI0.out | apply IsS203.alloc | apply IsS203.drewN | apply IsS203.drew | apply IsS203.set_1) | exact HI0.out)) (kr_ HO_1) (by decide)) hk (fun _ h => h.2)) (fun _ h => h.1)); replace HK := Aside0.mk (Kept.of_keep (S := (fun k_ => (P1_ k_) ∨ k_ = g)) (by repeat (first | (with_reducible first | exact HK.out | apply Kept.alloc | apply Kept.drewN | apply Kept.drew | refine Kept.setCell ?_ (.inl (.inr rfl)) _) | exact HK.out)) hk (.inl (.inr rfl))); replace HB := Aside0.mk (hb); replace HI0 := Aside0.mk (hi); (try clear hb); (try clear hb2); (try clear hk); (try clear hi)) | ((with_reducible refine gate_callee (f := 125) rfl ?_); refine goe_ (some 26) Try.func125 #[.pointer (some ⟨g, 0, none⟩), .int .i64 256] ?_; (with_reducible refine (spec_l1Next.calls g s0_0 t232 256 t233 t234 w0 _ ?side1 ?side2 A13.out).mono ?_); (case side1 => repeat (first | (with_reducible first | exact HI0.out | apply IsS203.alloc | apply IsS203.drewN | apply IsS203.drew | apply IsS203.set_1) | exact HI0.out)); (case side2 => repeat (first | (with_reducible first | exact HB.out | apply below_alloc | apply pw_below_drewN | apply below_drew1 | refine below_set ?_ (IsS203.ge HI0.out)) | exact HB.out)); rintro e w20 ⟨rfl, hi, hb, hk⟩; refine ⟨_, rfl, ?_⟩; replace HO_1 := Aside0.mk (Kd.R_mono (Kd.R_keep (IsS203.apart (show IsS203 w0 _ g s0_0 t232 from by repeat (first | (with_reducible first | exact HI0.out | apply IsS203.alloc | apply IsS203.drewN | apply IsS203.drew | apply IsS203.set_1) | exact HI0.out)) (kr_ HO_1) (by decide)) hk (fun _ h => h.2)) (fun _ h => h.1)); replace HK := Aside0.mk (Kept.of_keep (S := (fun k_ => (P1_ k_) ∨ k_ = g)) (by repeat (first | (with_reducible first | exact HK.out | apply Kept.alloc | apply Kept.drewN | apply Kept.drew | refine Kept.setCell ?_ (.inl (.inr rfl)) _) | exact HK.out)) hk (.inl (.inr rfl))); replace HB := Aside0.mk (hb); replace HI0 := Aside0.mk (hi); (try clear hb); (try clear hb2); (try clear hk); (try clear hi); have p16 : 0 ≤ (t229 : Int) := of_decide_eq_true as_; have q16 : (t229 : Int) < ((l1.length : Int) : Int) := of_decide_eq_true as_; obtain ⟨go16, co16, eo16, gb16, gl16, cl16, HG16⟩ := Kd.R_form HO_1.out (by omega); (first | cases eo16 | (injection eo16 with ea_ en_ ec_; (first | subst ea_ | (injection ea_ with ea_; subst ea_)); subst ec_; clear en_)); have GB16 := Aside0.mk gb16; have GG16 := Aside0.mk HG16; clear gb16 gl16 HG16; have HMgo16 := Aside0.mk (show (P1_ go16 ∨ w.heap.size ≤ go16) from (HO_1.out.1 _ rfl)); obtain ⟨hx16_0, hf16_0⟩ := Kd.R_celln 0 HO_1.out (t229 : Int) p16 q16; replace p16 := eq_true p16; replace q16 := eq_true q16; obtain ⟨hy21_, hz21_⟩ := Kd.R_celln 0 HO_1.out (t229 : Int) (of_decide_eq_true as_) (of_decide_eq_true as_); have HP21 := Kd.R_putg HO_1.out (t229 : Int) ((t233) % 256)) | ((with_reducible refine gate_store (t := 5) (p := 28) rfl ?_); refine store_event (t := 5) (p := 28) (v := ?vo_w22) (w1 := (w20.setCell ⟨go16, (t229 : Int).toNat, none⟩ (.int .u8 ((t233) % 256)))) ?hg ?ho ?hn ?hr ?_; (case ho => rfl); (case hg => rfl); (case hn => rfl); (case hr => first | (go_simp; done) | (go_simp; rfl)); intro w22 hw; have hg : w20.grownBy w22 (some go16) := (by rw [hw]; exact HP21.2); have hp_ : Kd.R (Kd.int .u8) 5 w22 w0.heap.size (fun k_ => (P1_ k_ ∨ w.heap.size ≤ k_)) (.slice (some ⟨go16, 0, none⟩) l1.length co17) y235 := (by rw [hw, Ny235.out]; exact HP21.1); clear HP21; replace HI0 := Aside0.mk (IsS203.grown (by repeat (first | (with_reducible first | exact HI0.out | apply IsS203.alloc | apply IsS203.drewN | apply IsS203.drew | apply IsS203.set_1) | exact HI0.out)) hg (IsS203.own_ne HI0.out HO_1.out (by decide))); replace HB := Aside0.mk ((by rw [hw]; exact below_set (HB.out) GB16.out : Below w0.heap.size w0 w22)); replace HK := Aside0.mk (Kept.of_grown (S := (fun k_ => (P1_ k_) ∨ k_ = g)) hg (by repeat (first | (with_reducible first | exact HK.out | apply Kept.alloc | apply Kept.drewN | apply Kept.drew | refine Kept.setCell ?_ (.inl (.inr rfl)) _) | exact HK.out)) (fun k_ e_ => Or.imp_left Or.inl ((HO_1.out.1 k_ e_)))); replace HO_1 := Aside0.mk (hp_); clear hg hw hp_))
              go_ret
              exact ⟨_, er_, kr_ HO_1, by repeat (first | (with_reducible first | exact HI0.out | apply IsS203.alloc | apply IsS203.drewN | apply IsS203.drew | apply IsS203.set_1) | exact HI0.out), by repeat (first | (with_reducible first | exact HB.out | apply below_alloc | apply pw_below_drewN | apply below_drew1 | refine below_set ?_ (IsS203.ge HI0.out)) | exact HB.out), by repeat (first | (with_reducible first | exact HK.out | apply Kept.alloc | apply Kept.drewN | apply Kept.drew | refine Kept.setCell ?_ (.inl (.inr rfl)) _) | exact HK.out)⟩
            · rw [if_neg c15] at H
              exact absurd H (by simp)
          · rw [if_neg c14] at H
            exact absurd H (by simp)
        · rw [if_neg c12] at H
          have c12b0 : (t231 == 0) = false := beq_eq_false_iff_ne.mpr c12
          have c12b1 : (t231 != 0) = true := bne_iff_ne.mpr c12
          by_cases c23 : t231 = 1
          · rw [if_pos c23] at H
            have c23b0 : (t231 == 1) = true := beq_iff_eq.mpr c23
            have c23b1 : (t231 != 1) = false := bne_eq_false_iff_eq.mpr c23
            clear c23
            by_cases c24 : 0 ≤ t229
            · rw [if_pos c24] at H
              have c24b0 := eq_true c24
              have c24b1 : decide (0 ≤ t229) = true := decide_eq_true c24
              clear c24
              by_cases c25 : t229 ≤ (l1.length : Int)
              · rw [if_pos c25] at H
                have c25b0 := eq_true c25
                have c25b1 : decide (t229 ≤ (l1.length : Int)) = true := decide_eq_true c25
                clear c25
                obtain ⟨y236, hy236⟩ : ∃ y_ : List Int, y_ = (l1.take (t229 : Int).toNat) := ⟨_, rfl⟩
                replace H : (some (y236, t232)) = some (r1, r2) := by first | (rw [hy236]; with_reducible exact H) | (have H2_ := (Option.bind_some _ _).symm.trans H; rw [hy236]; with_reducible exact H2_) | (have H2_ := (Option.bind_some _ _).symm.trans H; with_reducible exact H2_) | with_reducible exact H | (rw [hy236]; exact H) | exact H
                have Ny236 := Aside0.mk hy236
                clear hy236
                simp only [Option.some.injEq, Prod.mk.injEq] at H
                obtain ⟨rfl, rfl⟩ := H
                obtain ⟨Ao26, co26, eo26⟩ := Kd.R_slice HO_1.out
                subst eo26
                go_wp2_with (first | ((with_reducible refine gate_callee (f := 125) rfl ?_); refine goe_ (some 18) Try.func125 #[.pointer (some ⟨g, 0, none⟩), .int .i64 (l1.length : Int)] ?_; (with_reducible refine (spec_l1Next.calls g s0_0 x1001_2 (l1.length : Int) t229 t230 w0 _ ?side1 ?side2 A10.out).mono ?_); (case side1 => repeat (first | (with_reducible first | exact HI0.out | apply IsS203.alloc | apply IsS203.drewN | apply IsS203.drew | apply IsS203.set_1) | exact HI0.out)); (case side2 => repeat (first | (with_reducible first | exact HB.out | apply below_alloc | apply pw_below_drewN | apply below_drew1 | refine below_set ?_ (IsS203.ge HI0.out)) | exact HB.out)); rintro e w27 ⟨rfl, hi, hb, hk⟩; refine ⟨_, rfl, ?_⟩; replace HO_1 := Aside0.mk (Kd.R_mono (Kd.R_keep (IsS203.apart (show IsS203 w0 _ g s0_0 x1001_2 from by repeat (first | (with_reducible first | exact HI0.out | apply IsS203.alloc | apply IsS203.drewN | apply IsS203.drew | apply IsS203.set_1) | exact HI0.out)) (kr_ HO_1) (by decide)) hk (fun _ h => h.2)) (fun _ h => h.1)); replace HK := Aside0.mk (Kept.of_keep (S := (fun k_ => (P1_ k_) ∨ k_ = g)) (by repeat (first | (with_reducible first | exact HK.out | apply Kept.alloc | apply Kept.drewN | apply Kept.drew | refine Kept.setCell ?_ (.inl (.inr rfl)) _) | exact HK.out)) hk (.inl (.inr rfl))); replace HB := Aside0.mk (hb); replace HI0 := Aside0.mk (hi); (try clear hb); (try clear hb2); (try clear hk); (try clear hi)) | ((with_reducible refine gate_callee (f := 125) rfl ?_); refine goe_ (some 20) Try.func125 #[.pointer (some ⟨g, 0, none⟩), .int .i64 3] ?_; (with_reducible refine (spec_l1Next.calls g s0_0 t230 3 t231 t232 w0 _ ?side1 ?side2 A11.out).mono ?_); (case side1 => repeat (first | (with_reducible first | exact HI0.out | apply IsS203.alloc | apply IsS203.drewN | apply IsS203.drew | apply IsS203.set_1) | exact HI0.out)); (case side2 => repeat (first | (with_reducible first | exact HB.out | apply below_alloc | apply pw_below_drewN | apply below_drew1 | refine below_set ?_ (IsS203.ge HI0.out)) | exact HB.out)); rintro e w28 ⟨rfl, hi, hb, hk⟩; refine ⟨_, rfl, ?_⟩; replace HO_1 := Aside0.mk (Kd.R_mono (Kd.R_keep (IsS203.apart (show IsS203 w0 _ g s0_0 t230 from by repeat (first | (with_reducible first | exact HI0.out | apply IsS203.alloc | apply IsS203.drewN | apply IsS203.drew | apply IsS203.set_1) | exact HI0.out)) (kr_ HO_1) (by decide)) hk (fun _ h => h.2)) (fun _ h => h.1)); replace HK := Aside0.mk (Kept.of_keep (S := (fun k_ => (P1_ k_) ∨ k_ = g)) (by repeat (first | (with_reducible first | exact HK.out | apply Kept.alloc | apply Kept.drewN | apply Kept.drew | refine Kept.setCell ?_ (.inl (.inr rfl)) _) | exact HK.out)) hk (.inl (.inr rfl))); replace HB := Aside0.mk (hb); replace HI0 := Aside0.mk (hi); (try clear hb); (try clear hb2); (try clear hk); (try clear hi); have q29 : (t229 : Int) ≤ ((l1.length : Int) : Int) := of_decide_eq_true as_; obtain ⟨i029, hi029, _, hsz29, _⟩ := info_parts info5; have hcut29 := cut_to (P := Try.prog) 43 5 .i64 Try.underlying43 hi029 Ao26 l1.length co26 t229 (of_decide_eq_true as_) q29 (Kd.R_reads' HO_1.out).2.1; have hr29 := Kd.R_take (m := (t229 : Int).toNat) HO_1.out (by omega); have hy29 : y236.length = (t229 : Int).toNat := (by rw [Ny236.out, List.length_take]; omega); rw [← Ny236.out] at hr29; rw [← hy29] at hr29 hcut29; clear hy29 hi029 hsz29 HO_1; have HO238 := Aside0.mk hr29; clear hr29; replace q29 := eq_true q29))
                go_ret
                exact ⟨_, er_, kr_ HO238, by repeat (first | (with_reducible first | exact HI0.out | apply IsS203.alloc | apply IsS203.drewN | apply IsS203.drew | apply IsS203.set_1) | exact HI0.out), by repeat (first | (with_reducible first | exact HB.out | apply below_alloc | apply pw_below_drewN | apply below_drew1 | refine below_set ?_ (IsS203.ge HI0.out)) | exact HB.out), by repeat (first | (with_reducible first | exact HK.out | apply Kept.alloc | apply Kept.drewN | apply Kept.drew | refine Kept.setCell ?_ (.inl (.inr rfl)) _) | exact HK.out)⟩
              · rw [if_neg c25] at H
                exact absurd H (by simp)
            · rw [if_neg c24] at H
              exact absurd H (by simp)
          · rw [if_neg c23] at H
            have c23b0 : (t231 == 1) = false := beq_eq_false_iff_ne.mpr c23
            have c23b1 : (t231 != 1) = true := bne_iff_ne.mpr c23
            by_cases c30 : t231 = 2
            · rw [if_pos c30] at H
              have c30b0 : (t231 == 2) = true := beq_iff_eq.mpr c30
              have c30b1 : (t231 != 2) = false := bne_eq_false_iff_eq.mpr c30
              clear c30
              obtain ⟨y239, hy239⟩ : ∃ y_ : List Int, y_ = (([0, 255] : List Int)) := ⟨_, rfl⟩
              replace H : ((spec_l1Pick.f s0_0 t232 y239).bind fun bt242 => (if l1.length < 140737488355328 then (some ((l1 ++ [(bt242.1) % 256]), bt242.2)) else (none))) = some (r1, r2) := by first | (rw [hy239]; with_reducible exact H) | (have H2_ := (Option.bind_some _ _).symm.trans H; rw [hy239]; with_reducible exact H2_) | (have H2_ := (Option.bind_some _ _).symm.trans H; with_reducible exact H2_) | with_reducible exact H | (rw [hy239]; exact H) | exact H
              have Ny239 := Aside0.mk hy239
              clear hy239
              replace H := Option.bind_eq_some_iff.mp H
              obtain ⟨⟨t242, t243⟩, A310, H⟩ := H
              replace H : (if l1.length < 140737488355328 then (some ((l1 ++ [(t242) % 256]), t243)) else (none)) = some (r1, r2) := H
              have A31 := Aside0.mk A310
              clear A310
              by_cases c32 : l1.length < 140737488355328
              · rw [if_pos c32] at H
                have LMc32 := Aside0.mk c32
                clear c32
                obtain ⟨y244, hy244⟩ : ∃ y_ : List Int, y_ = (l1 ++ [(t242) % 256]) := ⟨_, rfl⟩
                replace H : (some (y244, t243)) = some (r1, r2) := by first | (rw [hy244]; with_reducible exact H) | (have H2_ := (Option.bind_some _ _).symm.trans H; rw [hy244]; with_reducible exact H2_) | (have H2_ := (Option.bind_some _ _).symm.trans H; with_reducible exact H2_) | with_reducible exact H | (rw [hy244]; exact H) | exact H
                have Ny244 := Aside0.mk hy244
                clear hy244
                simp only [Option.some.injEq, Prod.mk.injEq] at H
                obtain ⟨rfl, rfl⟩ := H
                obtain ⟨Ao33, co33, eo33⟩ := Kd.R_slice HO_1.out
                subst eo33
                go_wp2_with (first | ((with_reducible refine gate_callee (f := 125) rfl ?_); refine goe_ (some 18) Try.func125 #[.pointer (some ⟨g, 0, none⟩), .int .i64 (l1.length : Int)] ?_; (with_reducible refine (spec_l1Next.calls g s0_0 x1001_2 (l1.length : Int) t229 t230 w0 _ ?side1 ?side2 A10.out).mono ?_); (case side1 => repeat (first | (with_reducible first | exact HI0.out | apply IsS203.alloc | apply IsS203.drewN | apply IsS203.drew | apply IsS203.set_1) | exact HI0.out)); (case side2 => repeat (first | (with_reducible first | exact HB.out | apply below_alloc | apply pw_below_drewN | apply below_drew1 | refine below_set ?_ (IsS203.ge HI0.out)) | exact HB.out)); rintro e w34 ⟨rfl, hi, hb, hk⟩; refine ⟨_, rfl, ?_⟩; replace HO_1 := Aside0.mk (Kd.R_mono (Kd.R_keep (IsS203.apart (show IsS203 w0 _ g s0_0 x1001_2 from by repeat (first | (with_reducible first | exact HI0.out | apply IsS203.alloc | apply IsS203.drewN | apply IsS203.drew | apply IsS203.set_1) | exact HI0.out)) (kr_ HO_1) (by decide)) hk (fun _ h => h.2)) (fun _ h => h.1)); replace HK := Aside0.mk (Kept.of_keep (S := (fun k_ => (P1_ k_) ∨ k_ = g)) (by repeat (first | (with_reducible first | exact HK.out | apply Kept.alloc | apply Kept.drewN | apply Kept.drew | refine Kept.setCell ?_ (.inl (.inr rfl)) _) | exact HK.out)) hk (.inl (.inr rfl))); replace HB := Aside0.mk (hb); replace HI0 := Aside0.mk (hi); (try clear hb); (try clear hb2); (try clear hk); (try clear hi)) | ((with_reducible refine gate_callee (f := 125) rfl ?_); refine goe_ (some 20) Try.func125 #[.pointer (some ⟨g, 0, none⟩), .int .i64 3] ?_; (with_reducible refine (spec_l1Next.calls g s0_0 t230 3 t231 t232 w0 _ ?side1 ?side2 A11.out).mono ?_); (case side1 => repeat (first | (with_reducible first | exact HI0.out | apply IsS203.alloc | apply IsS203.drewN | apply IsS203.drew | apply IsS203.set_1) | exact HI0.out)); (case side2 => repeat (first | (with_reducible first | exact HB.out | apply below_alloc | apply pw_below_drewN | apply below_drew1 | refine below_set ?_ (IsS203.ge HI0.out)) | exact HB.out)); rintro e w35 ⟨rfl, hi, hb, hk⟩; refine ⟨_, rfl, ?_⟩; replace HO_1 := Aside0.mk (Kd.R_mono (Kd.R_keep (IsS203.apart (show IsS203 w0 _ g s0_0 t230 from by repeat (first | (with_reducible first | exact HI0.out | apply IsS203.alloc | apply IsS203.drewN | apply IsS203.drew | apply IsS203.set_1) | exact HI0.out)) (kr_ HO_1) (by decide)) hk (fun _ h => h.2)) (fun _ h => h.1)); replace HK := Aside0.mk (Kept.of_keep (S := (fun k_ => (P1_ k_) ∨ k_ = g)) (by repeat (first | (with_reducible first | exact HK.out | apply Kept.alloc | apply Kept.drewN | apply Kept.drew | refine Kept.setCell ?_ (.inl (.inr rfl)) _) | exact HK.out)) hk (.inl (.inr rfl))); replace HB := Aside0.mk (hb); replace HI0 := Aside0.mk (hi); (try clear hb); (try clear hb2); (try clear hk); (try clear hi)) | ((with_reducible refine gate_dst (N := 38) rfl ?_); refine Kd.R_lit (Kd.int .i64) _ 2 ?hg (N := 38) ?hd (xs := ([0, 255] : List Int)) (inner := [.int .i64 0, .int .i64 255]) (ok := fun _ => True) (okp := fun _ => True) ?hr ?hp (fun _ hk => hk) trivial (Below.refl _ _) (Nat.le_refl _) (by simp) ?_; (case hd => rfl); (case hg => rfl); (case hr => first | (go_simp; done) | (go_simp; rfl)); (case hp => exact (Reps.one (show Kd.M (Kd.int .i64) _ _ _ 0 [.int .i64 0] from rfl) (Reps.one (show Kd.M (Kd.int .i64) _ _ _ 255 [.int .i64 255] from rfl) (Reps.none _ _)))); intro v240 w36 ho37 hb hg_ hnew_; clear hg_ hnew_; (first | rw [← Ny239.out] at ho37 | (simp only [Int.reduceToNat] at ho37; rw [← Ny239.out] at ho37)); replace HO_1 := Aside0.mk (Kd.R_below (kr_ HO_1) hb); have HO241 := Aside0.mk (Kd.R_lower (Kd.R_newM (M := fun k_ => (P1_ k_ ∨ w.heap.size ≤ k_)) ho37 (by first | exact HK.out.1 | exact (show Kept w _ (fun k_ => (P1_ k_) ∨ k_ = g) from by repeat (first | (with_reducible first | exact HK.out | apply Kept.alloc | apply Kept.drewN | apply Kept.drew | refine Kept.setCell ?_ (.inl (.inr rfl)) _) | exact HK.out)).1) (fun k_ h_ => .inr h_)) (below_size (by repeat (first | (with_reducible first | exact HB.out | apply below_alloc | apply pw_below_drewN | apply below_drew1 | refine below_set ?_ (IsS203.ge HI0.out)) | exact HB.out)))); replace HK := Aside0.mk (Kept.below (S := (fun k_ => (P1_ k_) ∨ k_ = g)) (by repeat (first | (with_reducible first | exact HK.out | apply Kept.alloc | apply Kept.drewN | apply Kept.drew | refine Kept.setCell ?_ (.inl (.inr rfl)) _) | exact HK.out)) hb); replace HB := Aside0.mk (below_step (by repeat (first | (with_reducible first | exact HB.out | apply below_alloc | apply pw_below_drewN | apply below_drew1 | refine below_set ?_ (IsS203.ge HI0.out)) | exact HB.out)) hb); replace HI0 := Aside0.mk (IsS203.below (by repeat (first | (with_reducible first | exact HI0.out | apply IsS203.alloc | apply IsS203.drewN | apply IsS203.drew | apply IsS203.set_1) | exact HI0.out)) hb); clear hb ho37; obtain ⟨Ao38, co38, eo38⟩ := Kd.R_slice HO241.out; subst eo38) | ((with_reducible refine gate_callee (f := 181) rfl ?_); refine goe_ (some 39) Try.func181 #[.pointer (some ⟨g, 0, none⟩), .slice Ao38 y239.length co38] ?_; (with_reducible refine (spec_l1Pick.calls g s0_0 t232 _ _ y239 t242 t243 w0 _ ?side1 ?side2 ?side3 ?side4 ?side5 A31.out).mono ?_); (case side1 => repeat (first | (with_reducible first | exact HI0.out | apply IsS203.alloc | apply IsS203.drewN | apply IsS203.drew | apply IsS203.set_1) | exact HI0.out)); (case side2 => repeat (first | (with_reducible first | exact HB.out | apply below_alloc | apply pw_below_drewN | apply below_drew1 | refine below_set ?_ (IsS203.ge HI0.out)) | exact HB.out)); (case side3 => exact kc_ ((Kd.R_reads' HO241.out).2.2)); (case side4 => exact (Kd.R_reads' HO241.out).2.1); (case side5 => exact far_slice (IsS203.own_ne HI0.out HO241.out (by decide))); rintro e w39 ⟨rfl, hi, hb, hk⟩; refine ⟨_, rfl, ?_⟩; replace HO_1 := Aside0.mk (Kd.R_mono (Kd.R_keep (IsS203.apart (show IsS203 w0 _ g s0_0 t232 from by repeat (first | (with_reducible first | exact HI0.out | apply IsS203.alloc | apply IsS203.drewN | apply IsS203.drew | apply IsS203.set_1) | exact HI0.out)) (kr_ HO_1) (by decide)) hk (fun _ h => h.2)) (fun _ h => h.1)); replace HO241 := Aside0.mk (Kd.R_mono (Kd.R_keep (IsS203.apart (show IsS203 w0 _ g s0_0 t232 from by repeat (first | (with_reducible first | exact HI0.out | apply IsS203.alloc | apply IsS203.drewN | apply IsS203.drew | apply IsS203.set_1) | exact HI0.out)) (kr_ HO241) (by decide)) hk (fun _ h => h.2)) (fun _ h => h.1)); replace HK := Aside0.mk (Kept.of_keep (S := (fun k_ => (P1_ k_) ∨ k_ = g)) (by repeat (first | (with_reducible first | exact HK.out | apply Kept.alloc | apply Kept.drewN | apply Kept.drew | refine Kept.setCell ?_ (.inl (.inr rfl)) _) | exact HK.out)) hk (.inl (.inr rfl))); replace HB := Aside0.mk (hb); replace HI0 := Aside0.mk (hi); (try clear hb); (try clear hb2); (try clear hk); (try clear hi)) | ((with_reducible refine gate_builtin (b := .append) (xs := #[.tmp 36, .tmp 41]) rfl ?_); at_builtin; refine Kd.R_append (Kd.int .u8) (w0 := w0) w0.heap.size rfl (.tmp 36) (.tmp 41) 43 5 (.int .u8 0) 1 rfl Try.underlying43 info5 rfl (by decide) (by omega) (.slice Ao33 l1.length co33) l1 ((t242) % 256) [.int .u8 ((t242) % 256)] (fun k_ => (P1_ k_ ∨ w.heap.size ≤ k_)) (fun _ => False) rfl rfl ?aP (fun _ hk => hk.elim) ?aF ?aO ?aB ?aS ?aL ?_; (case aP => exact rfl); (case aB => exact (by repeat (first | (with_reducible first | exact HB.out | apply below_alloc | apply pw_below_drewN | apply below_drew1 | refine below_set ?_ (IsS203.ge HI0.out)) | exact HB.out))); (case aF => exact (fun k_ hk => (.inr (Nat.le_trans (by first | exact HK.out.1 | exact (show Kept w _ (fun k_ => (P1_ k_) ∨ k_ = g) from by repeat (first | (with_reducible first | exact HK.out | apply Kept.alloc | apply Kept.drewN | apply Kept.drew | refine Kept.setCell ?_ (.inl (.inr rfl)) _) | exact HK.out)).1) hk)))); (case aO => exact (kr_ HO_1)); (case aS => exact (below_size (by repeat (first | (with_reducible first | exact HB.out | apply below_alloc | apply pw_below_drewN | apply below_drew1 | refine below_set ?_ (IsS203.ge HI0.out)) | exact HB.out)))); (case aL => have := LMc32.out; omega); intro v245 w40 ho hb hg hat; rw [← Ny244.out] at ho; have n0_ := Aside0.mk (IsS203.grown (by repeat (first | (with_reducible first | exact HI0.out | apply IsS203.alloc | apply IsS203.drewN | apply IsS203.drew | apply IsS203.set_1) | exact HI0.out)) hg (IsS203.own_ne HI0.out HO_1.out (by decide))); have n1_ := Aside0.mk (Kd.R_over' (kr_ HO241) (Kd.R_typed (kr_ HO_1)) (by decide) hg); have n2_ := Aside0.mk (hb); have n3_ := Aside0.mk (Kept.of_grown (S := (fun k_ => (P1_ k_) ∨ k_ = g)) hg (by repeat (first | (with_reducible first | exact HK.out | apply Kept.alloc | apply Kept.drewN | apply Kept.drew | refine Kept.setCell ?_ (.inl (.inr rfl)) _) | exact HK.out)) (fun k_ e_ => Or.imp_left Or.inl ((HO_1.out.1 k_ e_)))); have n4_ := Aside0.mk (ho); clear HI0; clear HO241; clear HB; clear HK; clear HO_1; have HI0 := n0_; have HO241 := n1_; have HB := n2_; have HK := n3_; have HO246 := n4_; clear n0_ n1_ n2_ n3_ n4_; clear ho hb hg hat))
                go_ret
                exact ⟨_, er_, kr_ HO246, by repeat (first | (with_reducible first | exact HI0.out | apply IsS203.alloc | apply IsS203.drewN | apply IsS203.drew | apply IsS203.set_1) | exact HI0.out), by repeat (first | (with_reducible first | exact HB.out | apply below_alloc | apply pw_below_drewN | apply below_drew1 | refine below_set ?_ (IsS203.ge HI0.out)) | exact HB.out), by repeat (first | (with_reducible first | exact HK.out | apply Kept.alloc | apply Kept.drewN | apply Kept.drew | refine Kept.setCell ?_ (.inl (.inr rfl)) _) | exact HK.out)⟩
              · rw [if_neg c32] at H
                exact absurd H (by simp)
            · rw [if_neg c30] at H
              have c30b0 : (t231 == 2) = false := beq_eq_false_iff_ne.mpr c30
              have c30b1 : (t231 != 2) = true := bne_iff_ne.mpr c30
              simp only [Option.some.injEq, Prod.mk.injEq] at H
              obtain ⟨rfl, rfl⟩ := H
              obtain ⟨Ao41, co41, eo41⟩ := Kd.R_slice HO_1.out
              subst eo41
              go_wp2_with (first | ((with_reducible refine gate_callee (f := 125) rfl ?_); refine goe_ (some 18) Try.func125 #[.pointer (some ⟨g, 0, none⟩), .int .i64 (l1.length : Int)] ?_; (with_reducible refine (spec_l1Next.calls g s0_0 x1001_2 (l1.length : Int) t229 t230 w0 _ ?side1 ?side2 A10.out).mono ?_); (case side1 => repeat (first | (with_reducible first | exact HI0.out | apply IsS203.alloc | apply IsS203.drewN | apply IsS203.drew | apply IsS203.set_1) | exact HI0.out)); (case side2 => repeat (first | (with_reducible first | exact HB.out | apply below_alloc | apply pw_below_drewN | apply below_drew1 | refine below_set ?_ (IsS203.ge HI0.out)) | exact HB.out)); rintro e w42 ⟨rfl, hi, hb, hk⟩; refine ⟨_, rfl, ?_⟩; replace HO_1 := Aside0.mk (Kd.R_mono (Kd.R_keep (IsS203.apart (show IsS203 w0 _ g s0_0 x1001_2 from by repeat (first | (with_reducible first | exact HI0.out | apply IsS203.alloc | apply IsS203.drewN | apply IsS203.drew | apply IsS203.set_1) | exact HI0.out)) (kr_ HO_1) (by decide)) hk (fun _ h => h.2)) (fun _ h => h.1)); replace HK := Aside0.mk (Kept.of_keep (S := (fun k_ => (P1_ k_) ∨ k_ = g)) (by repeat (first | (with_reducible first | exact HK.out | apply Kept.alloc | apply Kept.drewN | apply Kept.drew | refine Kept.setCell ?_ (.inl (.inr rfl)) _) | exact HK.out)) hk (.inl (.inr rfl))); replace HB := Aside0.mk (hb); replace HI0 := Aside0.mk (hi); (try clear hb); (try clear hb2); (try clear hk); (try clear hi)) | ((with_reducible refine gate_callee (f := 125) rfl ?_); refine goe_ (some 20) Try.func125 #[.pointer (some ⟨g, 0, none⟩), .int .i64 3] ?_; (with_reducible refine (spec_l1Next.calls g s0_0 t230 3 t231 t232 w0 _ ?side1 ?side2 A11.out).mono ?_); (case side1 => repeat (first | (with_reducible first | exact HI0.out | apply IsS203.alloc | apply IsS203.drewN | apply IsS203.drew | apply IsS203.set_1) | exact HI0.out)); (case side2 => repeat (first | (with_reducible first | exact HB.out | apply below_alloc | apply pw_below_drewN | apply below_drew1 | refine below_set ?_ (IsS203.ge HI0.out)) | exact HB.out)); rintro e w43 ⟨rfl, hi, hb, hk⟩; refine ⟨_, rfl, ?_⟩; replace HO_1 := Aside0.mk (Kd.R_mono (Kd.R_keep (IsS203.apart (show IsS203 w0 _ g s0_0 t230 from by repeat (first | (with_reducible first | exact HI0.out | apply IsS203.alloc | apply IsS203.drewN | apply IsS203.drew | apply IsS203.set_1) | exact HI0.out)) (kr_ HO_1) (by decide)) hk (fun _ h => h.2)) (fun _ h => h.1)); replace HK := Aside0.mk (Kept.of_keep (S := (fun k_ => (P1_ k_) ∨ k_ = g)) (by repeat (first | (with_reducible first | exact HK.out | apply Kept.alloc | apply Kept.drewN | apply Kept.drew | refine Kept.setCell ?_ (.inl (.inr rfl)) _) | exact HK.out)) hk (.inl (.inr rfl))); replace HB := Aside0.mk (hb); replace HI0 := Aside0.mk (hi); (try clear hb); (try clear hb2); (try clear hk); (try clear hi)))
              go_ret
              exact ⟨_, er_, kr_ HO_1, by repeat (first | (with_reducible first | exact HI0.out | apply IsS203.alloc | apply IsS203.drewN | apply IsS203.drew | apply IsS203.set_1) | exact HI0.out), by repeat (first | (with_reducible first | exact HB.out | apply below_alloc | apply pw_below_drewN | apply below_drew1 | refine below_set ?_ (IsS203.ge HI0.out)) | exact HB.out), by repeat (first | (with_reducible first | exact HK.out | apply Kept.alloc | apply Kept.drewN | apply Kept.drew | refine Kept.setCell ?_ (.inl (.inr rfl)) _) | exact HK.out)⟩
def spec_DrawSplitFrames.l0 : Nat → List Int → Int → List Int → Int → Option (List Int)
  | 0, _, _, _, _ => none
  | k + 1, x4, x5, x250000, x250001 => if x5 > 0 then ((spec_l1Frame.f k x250000 x250001).bind fun bt255 => ((spec_FrameFault.f bt255.1 bt255.2.1).bind fun t261 => (if t261 = 0 then ((spec_l1Pack.f k bt255.1 bt255.2.1).bind fun t262 => (if x4.length + t262.length < 140737488355328 then (spec_DrawSplitFrames.l0 k (x4 ++ t262) (wrap64 (x5 - 1)) x250000 bt255.2.2) else (none))) else (spec_DrawSplitFrames.l0 k x4 (wrap64 (x5 - 1)) x250000 bt255.2.2)))) else ((spec_l1Chance.f x250000 x250001 30).bind fun bt268 => (if bt268.1 = true then (if 401 ≤ 281474976710656 then ((spec_l1Turn.f k x250000 bt268.2 (List.replicate 401 0)).bind fun bt273 => (some bt273.1)) else (none)) else ((spec_l1Turn.f k x250000 bt268.2 x4).bind fun bt277 => (some bt277.1))))
def spec_DrawSplitFrames.f (k : Nat) (l0 : List Int) : Option (List Int) := (spec_l1Source.f l0).bind fun bt247 => ((spec_l1Next.f bt247.1 bt247.2 4).bind fun bt253 => (spec_DrawSplitFrames.l0 k (([] : List Int)) bt253.1 bt247.1 bt253.2))
theorem spec_DrawSplitFrames.mono_l : ∀ k, (∀ y0 y1 y2 y3, LeO (spec_DrawSplitFrames.l0 k y0 y1 y2 y3) (spec_DrawSplitFrames.l0 (k + 1) y0 y1 y2 y3))
  | 0 => fun _ _ _ _ r h => by simp [spec_DrawSplitFrames.l0] at h
  | k + 1 => by
    have ih0 := spec_DrawSplitFrames.mono_l k
    · intro y0 y1 y2 y3
      unfold spec_DrawSplitFrames.l0
      repeat' first
      | (with_reducible exact ih0 _ _ _ _)
      | (with_reducible exact spec_l1Frame.mono _ _ _)
      | (with_reducible exact spec_l1Pack.mono _ _ _)
      | (with_reducible exact spec_l1Turn.mono _ _ _ _)
      | (with_reducible exact LeO.refl _)
      | (with_reducible exact LeO.none _)
      | (with_reducible refine LeO.ite ?_ ?_)
      | (with_reducible refine LeO.bind ?_ (fun _ => ?_))
      | exact ih0 _ _ _ _
      | exact spec_l1Frame.mono _ _ _
      | exact spec_l1Pack.mono _ _ _
      | exact spec_l1Turn.mono _ _ _ _
      | exact LeO.none _
      | refine LeO.ite ?_ ?_
      | refine LeO.bind ?_ (fun _ => ?_)
theorem spec_DrawSplitFrames.mono : ∀ a0 k, LeO (spec_DrawSplitFrames.f k a0) (spec_DrawSplitFrames.f (k + 1) a0) := by
  intro a0 k
  have ih0 := spec_DrawSplitFrames.mono_l k
  unfold spec_DrawSplitFrames.f
  repeat' first
      | (with_reducible exact ih0 _ _ _ _)
      | (with_reducible exact spec_l1Frame.mono _ _ _)
      | (with_reducible exact spec_l1Pack.mono _ _ _)
      | (with_reducible exact spec_l1Turn.mono _ _ _ _)
      | (with_reducible exact LeO.refl _)
      | (with_reducible exact LeO.none _)
      | (with_reducible refine LeO.ite ?_ ?_)
      | (with_reducible refine LeO.bind ?_ (fun _ => ?_))
      | exact ih0 _ _ _ _
      | exact spec_l1Frame.mono _ _ _
      | exact spec_l1Pack.mono _ _ _
      | exact spec_l1Turn.mono _ _ _ _
      | exact LeO.none _
      | refine LeO.ite ?_ ?_
      | refine LeO.bind ?_ (fun _ => ?_)
set_option maxHeartbeats 8000000 in
set_option maxRecDepth 100000 in
theorem spec_DrawSplitFrames.calls (k : Nat) (A0 : Option Addr) (c0 : Nat) (l0 : List Int) (r : List Int) (w : World) (hr0 : Kd.C (Kd.int .u8) w A0 l0.length l0) (hc0 : l0.length ≤ c0) (h : spec_DrawSplitFrames.f k l0 = some r) :
    Calls Try.prog 56 #[.slice A0 l0.length c0] w fun e w' => ∃ v0_ : Value, e = .returned (v0_) ∧ Kd.R (Kd.int .u8) 5 w' w.heap.size (fun _ => True) v0_ r ∧ Below w.heap.size w w' := by
  have hu91 := Try.underlying91
  have HR0 := Aside0.mk hr0
  have HC0 := Aside0.mk hc0
  clear hr0 hc0
  have HB := Aside0.mk (Below.refl w.heap.size w)
  have H : ((spec_l1Source.f l0).bind fun bt247 => ((spec_l1Next.f bt247.1 bt247.2 4).bind fun bt253 => (spec_DrawSplitFrames.l0 k (([] : List Int)) bt253.1 bt247.1 bt253.2))) = some r := h
  clear h
  replace H := Option.bind_eq_some_iff.mp H
  obtain ⟨⟨t247, t248⟩, A20, H⟩ := H
  replace H : ((spec_l1Next.f t247 t248 4).bind fun bt253 => (spec_DrawSplitFrames.l0 k (([] : List Int)) bt253.1 t247 bt253.2)) = some r := H
  have A2 := Aside0.mk A20
  clear A20
  obtain ⟨y250, hy250⟩ : ∃ y_ : List Int, y_ = (([] : List Int)) := ⟨_, rfl⟩
  replace H : ((spec_l1Next.f t247 t248 4).bind fun bt253 => (spec_DrawSplitFrames.l0 k y250 bt253.1 t247 bt253.2)) = some r := by first | (rw [hy250]; with_reducible exact H) | (have H2_ := (Option.bind_some _ _).symm.trans H; rw [hy250]; with_reducible exact H2_) | (have H2_ := (Option.bind_some _ _).symm.trans H; with_reducible exact H2_) | with_reducible exact H | (rw [hy250]; exact H) | exact H
  have Ny250 := Aside0.mk hy250
  clear hy250
  replace H := Option.bind_eq_some_iff.mp H
  obtain ⟨⟨t253, t254⟩, A30, H⟩ := H
  replace H : (spec_DrawSplitFrames.l0 k y250 t253 t247 t254) = some r := H
  have A3 := Aside0.mk A30
  clear A30
  have H' := Aside0.mk H
  clear H
  go_enter Try.func56, Try.ntmps56
  go_wp2_with (first | ((with_reducible refine gate_callee (f := 124) rfl ?_); refine goe_ (some 8) Try.func124 #[.slice A0 l0.length c0] ?_; (with_reducible refine (spec_l1Source.calls _ _ l0 t247 t248 w _ ?side1 ?side2 ?side3 A2.out).mono ?_); (case side1 => exact bb_); (case side2 => exact HR0.out); (case side3 => exact HC0.out); rintro e w4 ⟨g249, rfl, hi, hb, hb2⟩; refine ⟨_, rfl, ?_⟩; replace HB := Aside0.mk (hb); have HI249 := Aside0.mk (hi); (try clear hb); (try clear hb2); (try clear hk); (try clear hi)) | ((with_reducible refine gate_dst (N := 9) rfl ?_); refine Kd.R_lit (Kd.int .u8) _ 5 ?hg (N := 9) ?hd (xs := ([] : List Int)) (inner := []) (ok := fun _ => True) (okp := fun _ => True) ?hr ?hp (fun _ hk => hk) trivial (Below.refl _ _) (Nat.le_refl _) (by simp) ?_; (case hd => rfl); (case hg => rfl); (case hr => first | (go_simp; done) | (go_simp; rfl)); (case hp => exact (Reps.none _ _)); intro v251 w5 ho6 hb hg_ hnew_; clear hg_ hnew_; (first | rw [← Ny250.out] at ho6 | (simp only [Int.reduceToNat] at ho6; rw [← Ny250.out] at ho6)); have HO252 := Aside0.mk (Kd.R_lower ho6 (below_size (by repeat (first | (with_reducible first | exact HB.out | apply below_alloc | apply pw_below_drewN | apply below_drew1 | refine below_set ?_ (IsS203.ge HI249.out)) | exact HB.out)))); replace HB := Aside0.mk (below_step (by repeat (first | (with_reducible first | exact HB.out | apply below_alloc | apply pw_below_drewN | apply below_drew1 | refine below_set ?_ (IsS203.ge HI249.out)) | exact HB.out)) hb); replace HI249 := Aside0.mk (IsS203.below (by repeat (first | (with_reducible first | exact HI249.out | apply IsS203.alloc | apply IsS203.drewN | apply IsS203.drew | apply IsS203.set_1) | exact HI249.out)) hb); clear hb ho6) | ((with_reducible refine gate_callee (f := 125) rfl ?_); refine goe_ (some 11) Try.func125 #[.pointer (some ⟨g249, 0, none⟩), .int .i64 4] ?_; (with_reducible refine (spec_l1Next.calls g249 t247 t248 4 t253 t254 w _ ?side1 ?side2 A3.out).mono ?_); (case side1 => repeat (first | (with_reducible first | exact HI249.out | apply IsS203.alloc | apply IsS203.drewN | apply IsS203.drew | apply IsS203.set_1) | exact HI249.out)); (case side2 => repeat (first | (with_reducible first | exact HB.out | apply below_alloc | apply pw_below_drewN | apply below_drew1 | refine below_set ?_ (IsS203.ge HI249.out)) | exact HB.out)); rintro e w7 ⟨rfl, hi, hb, hk⟩; refine ⟨_, rfl, ?_⟩; replace HO252 := Aside0.mk (Kd.R_mono (Kd.R_keep (IsS203.apart (show IsS203 w _ g249 t247 t248 from by repeat (first | (with_reducible first | exact HI249.out | apply IsS203.alloc | apply IsS203.drewN | apply IsS203.drew | apply IsS203.set_1) | exact HI249.out)) (kr_ HO252) (by decide)) hk (fun _ h => h.2)) (fun _ h => h.1)); replace HB := Aside0.mk (hb); replace HI249 := Aside0.mk (hi); (try clear hb); (try clear hb2); (try clear hk); (try clear hi)))
  go_loopg [4, 5] k (fun kq v4 v5 w' => ∃ (x4_1 : List Int) (x5_1 : Int) (x250001_1 : Int), v5 = .int .i64 x5_1 ∧ Aside0 (spec_DrawSplitFrames.l0 kq x4_1 x5_1 t247 x250001_1 = some r) ∧ Aside0 (kq ≤ k) ∧ Aside0 (Kd.R (Kd.int .u8) 5 w' w.heap.size (fun _ => True) v4 x4_1) ∧ Aside0 (IsS203 w w' g249 t247 x250001_1) ∧ Aside0 (Below w.heap.size w w'))
  case atStart => exact ⟨(y250), (t253), (t254), sd_, H', ⟨Nat.le_refl _⟩, ⟨kr_ HO252⟩, ⟨by repeat (first | (with_reducible first | exact HI249.out | apply IsS203.alloc | apply IsS203.drewN | apply IsS203.drew | apply IsS203.set_1) | exact HI249.out)⟩, ⟨by repeat (first | (with_reducible first | exact HB.out | apply below_alloc | apply pw_below_drewN | apply below_drew1 | refine below_set ?_ (IsS203.ge HI249.out)) | exact HB.out)⟩⟩
  case round =>
    clear H'
    try clear c1
    try clear p2
    try clear c5
    obtain ⟨x4_1, x5_1, x250001_1, rfl, HA, HK1, HO_4, HI249, HB⟩ := hrel
    cases gk with
    | zero => exact absurd HA.out (by simp [spec_DrawSplitFrames.l0])
    | succ k1 =>
      have H := HA.out
      clear HA
      simp only [spec_DrawSplitFrames.l0] at H
      by_cases c8 : x5_1 > 0
      · rw [if_pos c8] at H
        have c8b0 : decide (0 < x5_1) = true := decide_eq_true c8
        clear c8
        replace H := Option.bind_eq_some_iff.mp H
        obtain ⟨⟨t255, t256, t259⟩, A90, H⟩ := H
        replace H : ((spec_FrameFault.f t255 t256).bind fun t261 => (if t261 = 0 then ((spec_l1Pack.f k1 t255 t256).bind fun t262 => (if x4_1.length + t262.length < 140737488355328 then (spec_DrawSplitFrames.l0 k1 (x4_1 ++ t262) (wrap64 (x5_1 - 1)) t247 t259) else (none))) else (spec_DrawSplitFrames.l0 k1 x4_1 (wrap64 (x5_1 - 1)) t247 t259))) = some r := H
        have A9 := Aside0.mk A90
        clear A90
        replace H := Option.bind_eq_some_iff.mp H
        obtain ⟨t261, A100, H⟩ := H
        replace H : (if t261 = 0 then ((spec_l1Pack.f k1 t255 t256).bind fun t262 => (if x4_1.length + t262.length < 140737488355328 then (spec_DrawSplitFrames.l0 k1 (x4_1 ++ t262) (wrap64 (x5_1 - 1)) t247 t259) else (none))) else (spec_DrawSplitFrames.l0 k1 x4_1 (wrap64 (x5_1 - 1)) t247 t259)) = some r := H
        have A10 := Aside0.mk A100
        clear A100
        by_cases c11 : t261 = 0
        · rw [if_pos c11] at H
          have c11b0 : (t261 == 0) = true := beq_iff_eq.mpr c11
          have c11b1 : (t261 != 0) = false := bne_eq_false_iff_eq.mpr c11
          clear c11
          replace H := Option.bind_eq_some_iff.mp H
          obtain ⟨t262, A120, H⟩ := H
          replace H : (if x4_1.length + t262.length < 140737488355328 then (spec_DrawSplitFrames.l0 k1 (x4_1 ++ t262) (wrap64 (x5_1 - 1)) t247 t259) else (none)) = some r := H
          have A12 := Aside0.mk A120
          clear A120
          by_cases c13 : x4_1.length + t262.length < 140737488355328
          · rw [if_pos c13] at H
            have LMc13 := Aside0.mk c13
            clear c13
            obtain ⟨y265, hy265⟩ : ∃ y_ : List Int, y_ = (x4_1 ++ t262) := ⟨_, rfl⟩
            replace H : (spec_DrawSplitFrames.l0 k1 y265 (wrap64 (x5_1 - 1)) t247 t259) = some r := by first | (rw [hy265]; with_reducible exact H) | (have H2_ := (Option.bind_some _ _).symm.trans H; rw [hy265]; with_reducible exact H2_) | (have H2_ := (Option.bind_some _ _).symm.trans H; with_reducible exact H2_) | with_reducible exact H | (rw [hy265]; exact H) | exact H
            have Ny265 := Aside0.mk hy265
            clear hy265
            have H' := Aside0.mk H
            clear H
            go_wp2_with (first | ((with_reducible refine gate_callee (f := 126) rfl ?_); refine goe_ (some 17) Try.func126 #[.pointer (some ⟨g249, 0, none⟩)] ?_; (with_reducible refine (spec_l1Frame.calls k1 g249 t247 x250001_1 t255 t256 t259 w _ ?side1 ?side2 A9.out).mono ?_); (case side1 => repeat (first | (with_reducible first | exact HI249.out | apply IsS203.alloc | apply IsS203.drewN | apply IsS203.drew | apply IsS203.set_1) | exact HI249.out)); (case side2 => repeat (first | (with_reducible first | exact HB.out | apply below_alloc | apply pw_below_drewN | apply below_drew1 | refine below_set ?_ (IsS203.ge HI249.out)) | exact HB.out)); rintro e w14 ⟨v257, rfl, ho0, hi, hb, hk⟩; refine ⟨_, rfl, ?_⟩; have HO258 := Aside0.mk (Kd.R_lower (Kd.R_new' ho0 (Kd.R_lt (kr_ HO_4))) (below_size (by repeat (first | (with_reducible first | exact HB.out | apply below_alloc | apply pw_below_drewN | apply below_drew1 | refine below_set ?_ (IsS203.ge HI249.out)) | exact HB.out)))); replace HO_4 := Aside0.mk (Kd.R_mono (Kd.R_told (Kd.R_oldK (IsS203.apart (show IsS203 w _ g249 t247 x250001_1 from by repeat (first | (with_reducible first | exact HI249.out | apply IsS203.alloc | apply IsS203.drewN | apply IsS203.drew | apply IsS203.set_1) | exact HI249.out)) (kr_ HO_4) (by decide)) hk) (Kd.R_base ho0)) (fun _ h_ => h_.1)); replace HB := Aside0.mk (hb); replace HI249 := Aside0.mk (hi); (try clear hb); (try clear hb2); (try clear hk); (try clear hi); (try clear ho0)) | ((with_reducible refine gate_dst (N := 6) rfl ?_); refine box_e_ 6 #[.int .i64 0, .slice none 0 0] 91 ?_; intro gb260 hg w15 hbox hb; replace HO_4 := Aside0.mk (Kd.R_below (kr_ HO_4) hb); replace HO258 := Aside0.mk (Kd.R_below (kr_ HO258) hb); have BK260 := Aside0.mk (hbox); have GW260 := Aside0.mk ((by rw [hg]; exact (below_size (by repeat (first | (with_reducible first | exact HB.out | apply below_alloc | apply pw_below_drewN | apply below_drew1 | refine below_set ?_ (IsS203.ge HI249.out)) | exact HB.out))) : w.heap.size ≤ gb260)); have GE260 := Aside0.mk ((by rw [hg]; exact (below_size (by repeat (first | (with_reducible first | exact HB.out | apply below_alloc | apply pw_below_drewN | apply below_drew1 | refine below_set ?_ (IsS203.ge HI249.out)) | exact HB.out))) : w.heap.size ≤ gb260)); replace HB := Aside0.mk (below_step (by repeat (first | (with_reducible first | exact HB.out | apply below_alloc | apply pw_below_drewN | apply below_drew1 | refine below_set ?_ (IsS203.ge HI249.out)) | exact HB.out)) hb); have NB249_260 := Aside0.mk ((by rw [hg]; exact Nat.ne_of_lt (IsS203.lt (show IsS203 w _ g249 t247 t259 from by repeat (first | (with_reducible first | exact HI249.out | apply IsS203.alloc | apply IsS203.drewN | apply IsS203.drew | apply IsS203.set_1) | exact HI249.out))) : g249 ≠ gb260)); have NB260_249 := Aside0.mk ((by rw [hg]; exact Nat.ne_of_gt (IsS203.lt (show IsS203 w _ g249 t247 t259 from by repeat (first | (with_reducible first | exact HI249.out | apply IsS203.alloc | apply IsS203.drewN | apply IsS203.drew | apply IsS203.set_1) | exact HI249.out))) : gb260 ≠ g249)); replace HI249 := Aside0.mk (IsS203.below (by repeat (first | (with_reducible first | exact HI249.out | apply IsS203.alloc | apply IsS203.drewN | apply IsS203.drew | apply IsS203.set_1) | exact HI249.out)) hb); clear hb hbox hg; have hnb16 := NB260_249.out; have hnc16 := NB249_260.out; obtain ⟨hcz17_0, hcz17_1, hfz17_0, hfz17_1⟩ := cf2_ BK260; obtain ⟨Ao18, co18, eo18⟩ := Kd.R_slice HO258.out; subst eo18) | ((with_reducible refine gate_callee (f := 127) rfl ?_); refine goe_ (some 19) Try.func127 #[.agg #[.int .i64 t255, .slice Ao18 t256.length co18]] ?_; (with_reducible refine (spec_FrameFault.calls t255 _ _ t256 t261 _ ?side1 ?side2 A10.out).mono ?_); (case side1 => refine (Kd.R_reads' (e := 5) (base := w.heap.size) (ok := fun k_ => (True ∧ some k_ ≠ (u4 : Value).ownBlock)) (n := t256.length) (c := co18) ?_).2.2; exact (by (with_reducible repeat (first | apply Kd.R_alloc | apply Kd.R_drewN | apply Kd.R_drew)); exact (Kd.R_mono (Kd.R_far (p := ⟨gb260, 1, none⟩) (Kd.R_far (p := ⟨gb260, 0, none⟩) (Kd.R_types HO258.out BK260.out (by decide)) (fun _ hk => hk.2) (.int .i64 t255)) (fun _ hk => hk.2) (.slice Ao18 t256.length co18)) (fun _ h_ => h_.1)))); (case side2 => exact (Kd.R_reads' HO258.out).2.1); rintro e w19 ⟨rfl, hb⟩; refine ⟨_, rfl, ?_⟩; replace HO_4 := Aside0.mk (Kd.R_below (by (with_reducible repeat (first | apply Kd.R_alloc | apply Kd.R_drewN | apply Kd.R_drew)); exact (Kd.R_mono (Kd.R_far (p := ⟨gb260, 1, none⟩) (Kd.R_far (p := ⟨gb260, 0, none⟩) (Kd.R_types HO_4.out BK260.out (by decide)) (fun _ hk => hk.2) (.int .i64 t255)) (fun _ hk => hk.2) (.slice Ao18 t256.length co18)) (fun _ h_ => h_.1))) hb); replace HO258 := Aside0.mk (Kd.R_below (by (with_reducible repeat (first | apply Kd.R_alloc | apply Kd.R_drewN | apply Kd.R_drew)); exact (Kd.R_mono (Kd.R_far (p := ⟨gb260, 1, none⟩) (Kd.R_far (p := ⟨gb260, 0, none⟩) (Kd.R_types HO258.out BK260.out (by decide)) (fun _ hk => hk.2) (.int .i64 t255)) (fun _ hk => hk.2) (.slice Ao18 t256.length co18)) (fun _ h_ => h_.1))) hb); replace BK260 := Aside0.mk (blk_below (g := gb260) (o := .cells #[.int .i64 t255, .slice Ao18 t256.length co18] 91 (0, 0)) (by (with_reducible repeat (first | refine blk_drewN ?_ _ | refine blk_drew ?_ | refine blk_alloc ?_ _)); refine blk_put (cs := #[.int .i64 t255, .slice none 0 0]) ?_ 1 _ rfl; (with_reducible repeat (first | refine blk_drewN ?_ _ | refine blk_drew ?_ | refine blk_alloc ?_ _)); refine blk_put (cs := #[.int .i64 0, .slice none 0 0]) ?_ 0 _ rfl; (with_reducible repeat (first | refine blk_drewN ?_ _ | refine blk_drew ?_ | refine blk_alloc ?_ _)); exact BK260.out) hb); replace HB := Aside0.mk (below_step (by repeat (first | (with_reducible first | exact HB.out | apply below_alloc | apply pw_below_drewN | apply below_drew1 | refine below_set ?_ (IsS203.ge HI249.out) | refine below_set ?_ GE260.out) | exact HB.out)) hb); replace HI249 := Aside0.mk (IsS203.below (show IsS203 w ((w15.setCell ⟨gb260, 0, none⟩ (.int .i64 t255)).setCell ⟨gb260, 1, none⟩ (.slice Ao18 t256.length co18)) g249 t247 t259 from by repeat (first | (with_reducible first | exact HI249.out | apply IsS203.alloc | apply IsS203.drewN | apply IsS203.drew | apply IsS203.set_1 | refine IsS203.far ?_ NB249_260.out _) | exact HI249.out)) hb); (try clear hb); (try clear hb2); (try clear hk); (try clear hi); obtain ⟨hcz20_0, hcz20_1, hfz20_0, hfz20_1⟩ := cf2_ BK260) | ((with_reducible refine gate_callee (f := 128) rfl ?_); refine goe_ (some 23) Try.func128 #[.agg #[.int .i64 t255, .slice Ao18 t256.length co18]] ?_; (with_reducible refine (spec_l1Pack.calls k1 t255 _ _ t256 t262 _ ?side1 ?side2 A12.out).mono ?_); (case side1 => exact kc_ ((Kd.R_reads' HO258.out).2.2)); (case side2 => exact (Kd.R_reads' HO258.out).2.1); rintro e w21 ⟨v263, rfl, ho0, hb⟩; refine ⟨_, rfl, ?_⟩; have HO264 := Aside0.mk (Kd.R_lower (Kd.R_new' (Kd.R_new' ho0 (Kd.R_lt (kr_ HO_4))) (Kd.R_lt (kr_ HO258))) (below_size (by repeat (first | (with_reducible first | exact HB.out | apply below_alloc | apply pw_below_drewN | apply below_drew1 | refine below_set ?_ (IsS203.ge HI249.out) | refine below_set ?_ GE260.out) | exact HB.out)))); replace HO_4 := Aside0.mk (Kd.R_elder' (kr_ HO_4) (Kd.R_base ho0) hb); replace HO258 := Aside0.mk (Kd.R_elder' (kr_ HO258) (Kd.R_base ho0) hb); replace BK260 := Aside0.mk (blk_below (kb_ BK260) hb); replace HB := Aside0.mk (below_step (by repeat (first | (with_reducible first | exact HB.out | apply below_alloc | apply pw_below_drewN | apply below_drew1 | refine below_set ?_ (IsS203.ge HI249.out) | refine below_set ?_ GE260.out) | exact HB.out)) hb); replace HI249 := Aside0.mk (IsS203.below (by repeat (first | (with_reducible first | exact HI249.out | apply IsS203.alloc | apply IsS203.drewN | apply IsS203.drew | apply IsS203.set_1 | refine IsS203.far ?_ NB249_260.out _) | exact HI249.out)) hb); (try clear hb); (try clear hb2); (try clear hk); (try clear hi); (try clear ho0); obtain ⟨Ao23, co23, eo23⟩ := Kd.R_slice HO264.out; subst eo23) | ((with_reducible refine gate_builtin (b := .append) (xs := #[.tmp 21, .tmp 23]) rfl ?_); at_builtin; refine Kd.R_append_rows (Kd.int .u8) (w0 := w) w.heap.size rfl (.tmp 21) (.tmp 23) 43 5 (.int .u8 0) 1 rfl Try.underlying43 info5 rfl (by decide) (by omega) u4 x4_1 t262 _ _ _ (fun k_ => some k_ ≠ (.slice Ao18 t256.length co18 : Value).ownBlock ∧ some k_ ≠ (.slice Ao23 t262.length co23 : Value).ownBlock) (fun _ => False) rfl rfl ?aO ?aR (fun _ _ h => h) (fun _ h => h.elim) ?aF ?aB ?aS ?aL ?_; (case aR => repeat (first | exact (Kd.R_reads' HO264.out).2.2 | (with_reducible refine Kd.C_alloc ?_ _) | (with_reducible refine Kd.C_drewN ?_ _) | (with_reducible refine Kd.C_drew ?_))); (case aB => exact (by repeat (first | (with_reducible first | exact HB.out | apply below_alloc | apply pw_below_drewN | apply below_drew1 | refine below_set ?_ (IsS203.ge HI249.out) | refine below_set ?_ GE260.out) | exact HB.out))); (case aF => exact (fun k_ hk => ⟨Kd.fresh' (Kd.R_lt (kr_ HO258)) k_ hk, Kd.fresh' (Kd.R_lt (kr_ HO264)) k_ hk⟩)); (case aO => exact (by (with_reducible repeat (first | apply Kd.R_alloc | apply Kd.R_drewN | apply Kd.R_drew)); exact Kd.R_mono HO_4.out (fun _ hk => ⟨hk.1.2, hk.2⟩))); (case aS => exact (below_size (by repeat (first | (with_reducible first | exact HB.out | apply below_alloc | apply pw_below_drewN | apply below_drew1 | refine below_set ?_ (IsS203.ge HI249.out) | refine below_set ?_ GE260.out) | exact HB.out)))); (case aL => have := LMc13.out; omega); intro v266 w22 ho hb hg hat; rw [← Ny265.out] at ho; have n0_ := Aside0.mk (IsS203.grown (by repeat (first | (with_reducible first | exact HI249.out | apply IsS203.alloc | apply IsS203.drewN | apply IsS203.drew | apply IsS203.set_1 | refine IsS203.far ?_ NB249_260.out _) | exact HI249.out)) hg (IsS203.own_ne HI249.out HO_4.out (by decide))); have n1_ := Aside0.mk (Kd.R_after (ok := (fun k_ => some k_ ≠ (.slice Ao23 t262.length co23 : Value).ownBlock)) (by (with_reducible repeat (first | apply Kd.R_alloc | apply Kd.R_drewN | apply Kd.R_drew)); exact Kd.R_mono HO258.out (fun _ hk => ⟨hk.2, hk.1.2⟩)) hg hat); have n2_ := Aside0.mk (blk_grown (g := gb260) (o := .cells #[.int .i64 t255, .slice Ao18 t256.length co18] 91 (0, 0)) (by (with_reducible repeat (first | refine blk_drewN ?_ _ | refine blk_drew ?_ | refine blk_alloc ?_ _)); exact BK260.out) hg (Kd.R_ne HO_4.out BK260.out (by decide))); have n3_ := Aside0.mk (Kd.R_after (ok := (fun k_ => some k_ ≠ (.slice Ao18 t256.length co18 : Value).ownBlock)) (by (with_reducible repeat (first | apply Kd.R_alloc | apply Kd.R_drewN | apply Kd.R_drew)); exact Kd.R_mono HO264.out (fun _ hk => ⟨hk.2, hk.1.2⟩)) hg hat); have n4_ := Aside0.mk (hb); have n5_ := Aside0.mk (ho); clear HI249; clear HO258; clear BK260; clear HO264; clear HB; clear HO_4; have HI249 := n0_; have HO258 := n1_; have BK260 := n2_; have HO264 := n3_; have HB := n4_; have HO267 := n5_; clear n0_ n1_ n2_ n3_ n4_ n5_; clear ho hb hg hat))
            go_roundg k1
            case measure => have := HK1.out; omega
            case rel => exact ⟨(y265), (wrap64 (x5_1 - 1)), (t259), sd_, H', ⟨by have := HK1.out; omega⟩, ⟨by (with_reducible repeat (first | apply Kd.R_alloc | apply Kd.R_drewN | apply Kd.R_drew)); exact Kd.R_mono HO267.out (fun _ hk => trivial)⟩, ⟨by repeat (first | (with_reducible first | exact HI249.out | apply IsS203.alloc | apply IsS203.drewN | apply IsS203.drew | apply IsS203.set_1 | refine IsS203.far ?_ NB249_260.out _) | exact HI249.out)⟩, ⟨by repeat (first | (with_reducible first | exact HB.out | apply below_alloc | apply pw_below_drewN | apply below_drew1 | refine below_set ?_ (IsS203.ge HI249.out) | refine below_set ?_ GE260.out) | exact HB.out)⟩⟩
          · rw [if_neg c13] at H
            exact absurd H (by simp)
        · rw [if_neg c11] at H
          have c11b0 : (t261 == 0) = false := beq_eq_false_iff_ne.mpr c11
          have c11b1 : (t261 != 0) = true := bne_iff_ne.mpr c11
          have H' := Aside0.mk H
          clear H
          go_wp2_with (first | ((with_reducible refine gate_callee (f := 126) rfl ?_); refine goe_ (some 17) Try.func126 #[.pointer (some ⟨g249, 0, none⟩)] ?_; (with_reducible refine (spec_l1Frame.calls k1 g249 t247 x250001_1 t255 t256 t259 w _ ?side1 ?side2 A9.out).mono ?_); (case side1 => repeat (first | (with_reducible first | exact HI249.out | apply IsS203.alloc | apply IsS203.drewN | apply IsS203.drew | apply IsS203.set_1) | exact HI249.out)); (case side2 => repeat (first | (with_reducible first | exact HB.out | apply below_alloc | apply pw_below_drewN | apply below_drew1 | refine below_set ?_ (IsS203.ge HI249.out)) | exact HB.out)); rintro e w24 ⟨v257, rfl, ho0, hi, hb, hk⟩; refine ⟨_, rfl, ?_⟩; have HO258 := Aside0.mk (Kd.R_lower (Kd.R_new' ho0 (Kd.R_lt (kr_ HO_4))) (below_size (by repeat (first | (with_reducible first | exact HB.out | apply below_alloc | apply pw_below_drewN | apply below_drew1 | refine below_set ?_ (IsS203.ge HI249.out)) | exact HB.out)))); replace HO_4 := Aside0.mk (Kd.R_mono (Kd.R_told (Kd.R_oldK (IsS203.apart (show IsS203 w _ g249 t247 x250001_1 from by repeat (first | (with_reducible first | exact HI249.out | apply IsS203.alloc | apply IsS203.drewN | apply IsS203.drew | apply IsS203.set_1) | exact HI249.out)) (kr_ HO_4) (by decide)) hk) (Kd.R_base ho0)) (fun _ h_ => h_.1)); replace HB := Aside0.mk (hb); replace HI249 := Aside0.mk (hi); (try clear hb); (try clear hb2); (try clear hk); (try clear hi); (try clear ho0)) | ((with_reducible refine gate_dst (N := 6) rfl ?_); refine box_e_ 6 #[.int .i64 0, .slice none 0 0] 91 ?_; intro gb260 hg w25 hbox hb; replace HO_4 := Aside0.mk (Kd.R_below (kr_ HO_4) hb); replace HO258 := Aside0.mk (Kd.R_below (kr_ HO258) hb); have BK260 := Aside0.mk (hbox); have GW260 := Aside0.mk ((by rw [hg]; exact (below_size (by repeat (first | (with_reducible first | exact HB.out | apply below_alloc | apply pw_below_drewN | apply below_drew1 | refine below_set ?_ (IsS203.ge HI249.out)) | exact HB.out))) : w.heap.size ≤ gb260)); have GE260 := Aside0.mk ((by rw [hg]; exact (below_size (by repeat (first | (with_reducible first | exact HB.out | apply below_alloc | apply pw_below_drewN | apply below_drew1 | refine below_set ?_ (IsS203.ge HI249.out)) | exact HB.out))) : w.heap.size ≤ gb260)); replace HB := Aside0.mk (below_step (by repeat (first | (with_reducible first | exact HB.out | apply below_alloc | apply pw_below_drewN | apply below_drew1 | refine below_set ?_ (IsS203.ge HI249.out)) | exact HB.out)) hb); have NB249_260 := Aside0.mk ((by rw [hg]; exact Nat.ne_of_lt (IsS203.lt (show IsS203 w _ g249 t247 t259 from by repeat (first | (with_reducible first | exact HI249.out | apply IsS203.alloc | apply IsS203.drewN | apply IsS203.drew | apply IsS203.set_1) | exact HI249.out))) : g249 ≠ gb260)); have NB260_249 := Aside0.mk ((by rw [hg]; exact Nat.ne_of_gt (IsS203.lt (show IsS203 w _ g249 t247 t259 from by repeat (first | (with_reducible first | exact HI249.out | apply IsS203.alloc | apply IsS203.drewN | apply IsS203.drew | apply IsS203.set_1) | exact HI249.out))) : gb260 ≠ g249)); replace HI249 := Aside0.mk (IsS203.below (by repeat (first | (with_reducible first | exact HI249.out | apply IsS203.alloc | apply IsS203.drewN | apply IsS203.drew | apply IsS203.set_1) | exact HI249.out)) hb); clear hb hbox hg; have hnb26 := NB260_249.out; have hnc26 := NB249_260.out; obtain ⟨hcz27_0, hcz27_1, hfz27_0, hfz27_1⟩ := cf2_ BK260; obtain ⟨Ao28, co28, eo28⟩ := Kd.R_slice HO258.out; subst eo28) | ((with_reducible refine gate_callee (f := 127) rfl ?_); refine goe_ (some 19) Try.func127 #[.agg #[.int .i64 t255, .slice Ao28 t256.length co28]] ?_; (with_reducible refine (spec_FrameFault.calls t255 _ _ t256 t261 _ ?side1 ?side2 A10.out).mono ?_); (case side1 => refine (Kd.R_reads' (e := 5) (base := w.heap.size) (ok := fun k_ => (True ∧ some k_ ≠ (u4 : Value).ownBlock)) (n := t256.length) (c := co28) ?_).2.2; exact (by (with_reducible repeat (first | apply Kd.R_alloc | apply Kd.R_drewN | apply Kd.R_drew)); exact (Kd.R_mono (Kd.R_far (p := ⟨gb260, 1, none⟩) (Kd.R_far (p := ⟨gb260, 0, none⟩) (Kd.R_types HO258.out BK260.out (by decide)) (fun _ hk => hk.2) (.int .i64 t255)) (fun _ hk => hk.2) (.slice Ao28 t256.length co28)) (fun _ h_ => h_.1)))); (case side2 => exact (Kd.R_reads' HO258.out).2.1); rintro e w29 ⟨rfl, hb⟩; refine ⟨_, rfl, ?_⟩; replace HO_4 := Aside0.mk (Kd.R_below (by (with_reducible repeat (first | apply Kd.R_alloc | apply Kd.R_drewN | apply Kd.R_drew)); exact (Kd.R_mono (Kd.R_far (p := ⟨gb260, 1, none⟩) (Kd.R_far (p := ⟨gb260, 0, none⟩) (Kd.R_types HO_4.out BK260.out (by decide)) (fun _ hk => hk.2) (.int .i64 t255)) (fun _ hk => hk.2) (.slice Ao28 t256.length co28)) (fun _ h_ => h_.1))) hb); replace HO258 := Aside0.mk (Kd.R_below (by (with_reducible repeat (first | apply Kd.R_alloc | apply Kd.R_drewN | apply Kd.R_drew)); exact (Kd.R_mono (Kd.R_far (p := ⟨gb260, 1, none⟩) (Kd.R_far (p := ⟨gb260, 0, none⟩) (Kd.R_types HO258.out BK260.out (by decide)) (fun _ hk => hk.2) (.int .i64 t255)) (fun _ hk => hk.2) (.slice Ao28 t256.length co28)) (fun _ h_ => h_.1))) hb); replace BK260 := Aside0.mk (blk_below (g := gb260) (o := .cells #[.int .i64 t255, .slice Ao28 t256.length co28] 91 (0, 0)) (by (with_reducible repeat (first | refine blk_drewN ?_ _ | refine blk_drew ?_ | refine blk_alloc ?_ _)); refine blk_put (cs := #[.int .i64 t255, .slice none 0 0]) ?_ 1 _ rfl; (with_reducible repeat (first | refine blk_drewN ?_ _ | refine blk_drew ?_ | refine blk_alloc ?_ _)); refine blk_put (cs := #[.int .i64 0, .slice none 0 0]) ?_ 0 _ rfl; (with_reducible repeat (first | refine blk_drewN ?_ _ | refine blk_drew ?_ | refine blk_alloc ?_ _)); exact BK260.out) hb); replace HB := Aside0.mk (below_step (by repeat (first | (with_reducible first | exact HB.out | apply below_alloc | apply pw_below_drewN | apply below_drew1 | refine below_set ?_ (IsS203.ge HI249.out) | refine below_set ?_ GE260.out) | exact HB.out)) hb); replace HI249 := Aside0.mk (IsS203.below (show IsS203 w ((w25.setCell ⟨gb260, 0, none⟩ (.int .i64 t255)).setCell ⟨gb260, 1, none⟩ (.slice Ao28 t256.length co28)) g249 t247 t259 from by repeat (first | (with_reducible first | exact HI249.out | apply IsS203.alloc | apply IsS203.drewN | apply IsS203.drew | apply IsS203.set_1 | refine IsS203.far ?_ NB249_260.out _) | exact HI249.out)) hb); (try clear hb); (try clear hb2); (try clear hk); (try clear hi)))
          go_roundg k1
          case measure => have := HK1.out; omega
          case rel => exact ⟨(x4_1), (wrap64 (x5_1 - 1)), (t259), sd_, H', ⟨by have := HK1.out; omega⟩, ⟨by (with_reducible repeat (first | apply Kd.R_alloc | apply Kd.R_drewN | apply Kd.R_drew)); exact Kd.R_mono HO_4.out (fun _ hk => trivial)⟩, ⟨by repeat (first | (with_reducible first | exact HI249.out | apply IsS203.alloc | apply IsS203.drewN | apply IsS203.drew | apply IsS203.set_1 | refine IsS203.far ?_ NB249_260.out _) | exact HI249.out)⟩, ⟨by repeat (first | (with_reducible first | exact HB.out | apply below_alloc | apply pw_below_drewN | apply below_drew1 | refine below_set ?_ (IsS203.ge HI249.out) | refine below_set ?_ GE260.out) | exact HB.out)⟩⟩
      · rw [if_neg c8] at H
        have c8b0 : decide (0 < x5_1) = false := decide_eq_false c8
        clear c8
        replace H := Option.bind_eq_some_iff.mp H
        obtain ⟨⟨t268, t269⟩, A300, H⟩ := H
        replace H : (if t268 = true then (if 401 ≤ 281474976710656 then ((spec_l1Turn.f k1 t247 t269 (List.replicate 401 0)).bind fun bt273 => (some bt273.1)) else (none)) else ((spec_l1Turn.f k1 t247 t269 x4_1).bind fun bt277 => (some bt277.1))) = some r := H
        have A30 := Aside0.mk A300
        clear A300
        by_cases c31 : t268 = true
        · subst c31
          have H1 : (if 401 ≤ 281474976710656 then ((spec_l1Turn.f k1 t247 t269 (List.replicate 401 0)).bind fun bt273 => (some bt273.1)) else (none)) = some r := by rw [if_pos rfl] at H; exact H
          clear H
          have H := H1
          clear H1
          by_cases c32 : 401 ≤ 281474976710656
          · rw [if_pos c32] at H
            have c32b0 := eq_true c32
            have c32b1 : decide (401 ≤ 281474976710656) = true := decide_eq_true c32
            clear c32
            obtain ⟨y270, hy270⟩ : ∃ y_ : List Int, y_ = (List.replicate 401 0) := ⟨_, rfl⟩
            replace H : ((spec_l1Turn.f k1 t247 t269 y270).bind fun bt273 => (some bt273.1)) = some r := by first | (rw [hy270]; with_reducible exact H) | (have H2_ := (Option.bind_some _ _).symm.trans H; rw [hy270]; with_reducible exact H2_) | (have H2_ := (Option.bind_some _ _).symm.trans H; with_reducible exact H2_) | with_reducible exact H | (rw [hy270]; exact H) | exact H
            have Ny270 := Aside0.mk hy270
            clear hy270
            replace H := Option.bind_eq_some_iff.mp H
            obtain ⟨⟨t273, t276⟩, A330, H⟩ := H
            replace H : (some t273) = some r := H
            have A33 := Aside0.mk A330
            clear A330
            obtain rfl := Option.some.inj H
            go_wp2_with (first | ((with_reducible refine gate_callee (f := 129) rfl ?_); refine goe_ (some 26) Try.func129 #[.pointer (some ⟨g249, 0, none⟩), .int .i64 30] ?_; (with_reducible refine (spec_l1Chance.calls g249 t247 x250001_1 30 true t269 w _ ?side1 ?side2 A30.out).mono ?_); (case side1 => repeat (first | (with_reducible first | exact HI249.out | apply IsS203.alloc | apply IsS203.drewN | apply IsS203.drew | apply IsS203.set_1) | exact HI249.out)); (case side2 => repeat (first | (with_reducible first | exact HB.out | apply below_alloc | apply pw_below_drewN | apply below_drew1 | refine below_set ?_ (IsS203.ge HI249.out)) | exact HB.out)); rintro e w34 ⟨rfl, hi, hb, hk⟩; refine ⟨_, rfl, ?_⟩; replace HO_4 := Aside0.mk (Kd.R_mono (Kd.R_keep (IsS203.apart (show IsS203 w _ g249 t247 x250001_1 from by repeat (first | (with_reducible first | exact HI249.out | apply IsS203.alloc | apply IsS203.drewN | apply IsS203.drew | apply IsS203.set_1) | exact HI249.out)) (kr_ HO_4) (by decide)) hk (fun _ h => h.2)) (fun _ h => h.1)); replace HB := Aside0.mk (hb); replace HI249 := Aside0.mk (hi); (try clear hb); (try clear hb2); (try clear hk); (try clear hi)) | ((with_reducible refine gate_dst (N := 27) rfl ?_); refine Kd.R_make (Kd.int .u8) _ 5 rfl (N := 27) rfl 43 _ _ rfl 401 rfl rfl Try.underlying43 (.int .u8 0) 1 info5 rfl (by decide) (by omega) 0 (ok := fun _ => True) (okp := fun _ => True) rfl (fun _ hk => hk) trivial (by omega) (by omega) (Below.refl _ _) (Nat.le_refl _) ?_; intro v271 w35 ho36 hb hg_ hnew_; clear hg_ hnew_; (first | rw [← Ny270.out] at ho36 | (simp only [Int.reduceToNat] at ho36; rw [← Ny270.out] at ho36)); have HO272 := Aside0.mk (Kd.R_lower (Kd.R_new' ho36 (Kd.R_lt (kr_ HO_4))) (below_size (by repeat (first | (with_reducible first | exact HB.out | apply below_alloc | apply pw_below_drewN | apply below_drew1 | refine below_set ?_ (IsS203.ge HI249.out)) | exact HB.out)))); replace HO_4 := Aside0.mk (Kd.R_elder' (kr_ HO_4) (Kd.R_base ho36) hb); replace HB := Aside0.mk (below_step (by repeat (first | (with_reducible first | exact HB.out | apply below_alloc | apply pw_below_drewN | apply below_drew1 | refine below_set ?_ (IsS203.ge HI249.out)) | exact HB.out)) hb); replace HI249 := Aside0.mk (IsS203.below (by repeat (first | (with_reducible first | exact HI249.out | apply IsS203.alloc | apply IsS203.drewN | apply IsS203.drew | apply IsS203.set_1) | exact HI249.out)) hb); clear hb ho36; obtain ⟨Ao37, co37, eo37⟩ := Kd.R_slice HO272.out; subst eo37) | ((with_reducible refine gate_callee (f := 130) rfl ?_); refine goe_ (some 30) Try.func130 #[.pointer (some ⟨g249, 0, none⟩), .slice Ao37 y270.length co37] ?_; (with_reducible refine (spec_l1Turn.calls k1 g249 t247 t269 (fun k_ => some k_ = (.slice Ao37 y270.length co37 : Value).ownBlock) (.slice Ao37 y270.length co37) y270 t273 t276 w _ ?side1 ?side2 ?side3 A33.out).mono ?_); (case side1 => repeat (first | (with_reducible first | exact HI249.out | apply IsS203.alloc | apply IsS203.drewN | apply IsS203.drew | apply IsS203.set_1) | exact HI249.out)); (case side2 => repeat (first | (with_reducible first | exact HB.out | apply below_alloc | apply pw_below_drewN | apply below_drew1 | refine below_set ?_ (IsS203.ge HI249.out)) | exact HB.out)); (case side3 => exact Kd.R_tight rfl HO272.out); rintro e w38 ⟨v274, rfl, ho0, hi, hb, hkp⟩; refine ⟨_, rfl, ?_⟩; have n0_ := Aside0.mk (Kd.R_mono (ok' := fun k_ => some k_ ≠ (v274 : Value).ownBlock) (Kd.R_keptB ((IsS203.apart HI249.out HO_4.out (by decide))) hkp (fun k_ hk_ hs_ => Or.elim hs_ (fun hs_ => (hk_.1.2) hs_) (fun e_ => (hk_.2) e_))) (fun k_ hk_ => fun e_ => Or.elim (ho0.1 k_ e_.symm) (fun hs_ => hk_.2.1 (by first | exact hs_ | exact Or.inl hs_)) (fun hn_ => Nat.not_le.2 hk_.2.2 hn_))); have n1_ := Aside0.mk (hi); have n2_ := Aside0.mk (Kd.R_mono (ok' := fun k_ => some k_ ≠ (u4 : Value).ownBlock) ho0 (fun k_ hk_ => Or.elim hk_ (fun hs_ => fun e_ => ((((IsS203.apart HI249.out HO_4.out (by decide))).1 k_ e_.symm).1.2) hs_) (fun hn_ => (Kd.fresh' (Kd.R_lt (kr_ HO_4)) k_ hn_)))); have n3_ := Aside0.mk (hb); clear HO_4; clear HI249; clear HB; clear HO272; have HO_4 := n0_; have HI249 := n1_; have HO275 := n2_; have HB := n3_; clear n0_ n1_ n2_ n3_; (try clear hb); (try clear hkp); (try clear ho0)))
            go_ret
            exact ⟨_, er_, by (with_reducible repeat (first | apply Kd.R_alloc | apply Kd.R_drewN | apply Kd.R_drew)); exact Kd.R_mono HO275.out (fun _ hk => trivial), by repeat (first | (with_reducible first | exact HB.out | apply below_alloc | apply pw_below_drewN | apply below_drew1 | refine below_set ?_ (IsS203.ge HI249.out)) | exact HB.out)⟩
          · rw [if_neg c32] at H
            exact absurd H (by simp)
        · replace c31 := Bool.eq_false_iff.mpr c31
          subst c31
          have H1 : ((spec_l1Turn.f k1 t247 t269 x4_1).bind fun bt277 => (some bt277.1)) = some r := by rw [if_neg (show ¬ (false = true) by decide)] at H; exact H
          clear H
          have H := H1
          clear H1
          replace H := Option.bind_eq_some_iff.mp H
          obtain ⟨⟨t277, t280⟩, A390, H⟩ := H
          replace H : (some t277) = some r := H
          have A39 := Aside0.mk A390
          clear A390
          obtain rfl := Option.some.inj H
          go_wp2_with (first | ((with_reducible refine gate_callee (f := 129) rfl ?_); refine goe_ (some 26) Try.func129 #[.pointer (some ⟨g249, 0, none⟩), .int .i64 30] ?_; (with_reducible refine (spec_l1Chance.calls g249 t247 x250001_1 30 false t269 w _ ?side1 ?side2 A30.out).mono ?_); (case side1 => repeat (first | (with_reducible first | exact HI249.out | apply IsS203.alloc | apply IsS203.drewN | apply IsS203.drew | apply IsS203.set_1) | exact HI249.out)); (case side2 => repeat (first | (with_reducible first | exact HB.out | apply below_alloc | apply pw_below_drewN | apply below_drew1 | refine below_set ?_ (IsS203.ge HI249.out)) | exact HB.out)); rintro e w40 ⟨rfl, hi, hb, hk⟩; refine ⟨_, rfl, ?_⟩; replace HO_4 := Aside0.mk (Kd.R_mono (Kd.R_keep (IsS203.apart (show IsS203 w _ g249 t247 x250001_1 from by repeat (first | (with_reducible first | exact HI249.out | apply IsS203.alloc | apply IsS203.drewN | apply IsS203.drew | apply IsS203.set_1) | exact HI249.out)) (kr_ HO_4) (by decide)) hk (fun _ h => h.2)) (fun _ h => h.1)); replace HB := Aside0.mk (hb); replace HI249 := Aside0.mk (hi); (try clear hb); (try clear hb2); (try clear hk); (try clear hi); obtain ⟨Ao41, co41, eo41⟩ := Kd.R_slice HO_4.out; subst eo41) | ((with_reducible refine gate_callee (f := 130) rfl ?_); refine goe_ (some 30) Try.func130 #[.pointer (some ⟨g249, 0, none⟩), .slice Ao41 x4_1.length co41] ?_; (with_reducible refine (spec_l1Turn.calls k1 g249 t247 t269 (fun k_ => some k_ = (.slice Ao41 x4_1.length co41 : Value).ownBlock) (.slice Ao41 x4_1.length co41) x4_1 t277 t280 w _ ?side1 ?side2 ?side3 A39.out).mono ?_); (case side1 => repeat (first | (with_reducible first | exact HI249.out | apply IsS203.alloc | apply IsS203.drewN | apply IsS203.drew | apply IsS203.set_1) | exact HI249.out)); (case side2 => repeat (first | (with_reducible first | exact HB.out | apply below_alloc | apply pw_below_drewN | apply below_drew1 | refine below_set ?_ (IsS203.ge HI249.out)) | exact HB.out)); (case side3 => exact Kd.R_tight rfl HO_4.out); rintro e w42 ⟨v278, rfl, ho0, hi, hb, hkp⟩; refine ⟨_, rfl, ?_⟩; have n0_ := Aside0.mk (hi); have n1_ := Aside0.mk (Kd.R_mono (ok' := fun k_ => True) ho0 (fun k_ hk_ => trivial)); have n2_ := Aside0.mk (hb); clear HI249; clear HB; clear HO_4; have HI249 := n0_; have HO279 := n1_; have HB := n2_; clear n0_ n1_ n2_; (try clear hb); (try clear hkp); (try clear ho0)))
          go_ret
          exact ⟨_, er_, kr_ HO279, by repeat (first | (with_reducible first | exact HB.out | apply below_alloc | apply pw_below_drewN | apply below_drew1 | refine below_set ?_ (IsS203.ge HI249.out)) | exact HB.out)⟩
def impl_FrameFault.f (a0_0 : Int) (l0_1 : List Int) : Option (Int) := (impl_in.f a0_0 1 4).bind fun t282 => (if t282 = true then (if (l0_1.length : Int) > 120 then (some 2) else (some 0)) else (some 3))
set_option maxHeartbeats 8000000 in
set_option maxRecDepth 100000 in
theorem impl_FrameFault.calls (a0_0 : Int) (A0_1 : Option Addr) (c0_1 : Nat) (l0_1 : List Int) (r : Int) (w : World) (hr0_1 : Kd.C (Kd.int .u8) w A0_1 l0_1.length l0_1) (hc0_1 : l0_1.length ≤ c0_1) (h : impl_FrameFault.f a0_0 l0_1 = some r) :
    Calls Try.prog 131 #[.agg #[.int .i64 a0_0, .slice A0_1 l0_1.length c0_1]] w fun e w' => e = .returned (.int .i64 r) ∧ Below w.heap.size w w' := by
  have hu91 := Try.underlying91
  have HR0_1 := Aside0.mk hr0_1
  have HC0_1 := Aside0.mk hc0_1
  clear hr0_1 hc0_1
  have HB := Aside0.mk (Below.refl w.heap.size w)
  have H : ((impl_in.f a0_0 1 4).bind fun t282 => (if t282 = true then (if (l0_1.length : Int) > 120 then (some 2) else (some 0)) else (some 3))) = some r := h
  clear h
  replace H := Option.bind_eq_some_iff.mp H
  obtain ⟨t282, A20, H⟩ := H
  replace H : (if t282 = true then (if (l0_1.length : Int) > 120 then (some 2) else (some 0)) else (some 3)) = some r := H
  have A2 := Aside0.mk A20
  clear A20
  by_cases c3 : t282 = true
  · subst c3
    have H1 : (if (l0_1.length : Int) > 120 then (some 2) else (some 0)) = some r := by rw [if_pos rfl] at H; exact H
    clear H
    have H := H1
    clear H1
    by_cases c4 : (l0_1.length : Int) > 120
    · rw [if_pos c4] at H
      have c4b0 : decide (120 < (l0_1.length : Int)) = true := decide_eq_true c4
      have c4b1 : decide (120 < l0_1.length) = true := decide_eq_true (by omega)
      clear c4
      obtain rfl := Option.some.inj H
      go_enter Try.func131, Try.ntmps131
      go_wp2_with (first | ((with_reducible refine gate_dst (N := 1) rfl ?_); refine box_e_ 1 #[.int .i64 a0_0, .slice A0_1 l0_1.length c0_1] 91 ?_; intro gb281 hg w5 hbox hb; have BK281 := Aside0.mk (hbox); have GW281 := (bs_ hg : Aside0 (w.heap.size ≤ _)); have GE281 := (bs_ hg : Aside0 (w.heap.size ≤ _)); replace HB := Aside0.mk (below_step bb_ hb); clear hb hbox hg; obtain ⟨hcz6_0, hcz6_1, hfz6_0, hfz6_1⟩ := cf2_ BK281) | ((with_reducible refine gate_callee (f := 133) rfl ?_); refine goe_ (some 6) Try.func133 #[.int .i64 a0_0, .int .i64 1, .int .i64 4] ?_; (with_reducible refine (impl_in.calls a0_0 1 4 true _ A2.out).mono ?_); rintro e w' ⟨rfl, ⟨nd, rfl⟩⟩; refine ⟨_, rfl, ?_⟩))
      go_ret
      exact ⟨er_, bb_⟩
    · rw [if_neg c4] at H
      have c4b0 : decide (120 < (l0_1.length : Int)) = false := decide_eq_false c4
      have c4b1 : decide (120 < l0_1.length) = false := decide_eq_false (by omega)
      clear c4
      obtain rfl := Option.some.inj H
      go_enter Try.func131, Try.ntmps131
      go_wp2_with (first | ((with_reducible refine gate_dst (N := 1) rfl ?_); refine box_e_ 1 #[.int .i64 a0_0, .slice A0_1 l0_1.length c0_1] 91 ?_; intro gb281 hg w7 hbox hb; have BK281 := Aside0.mk (hbox); have GW281 := (bs_ hg : Aside0 (w.heap.size ≤ _)); have GE281 := (bs_ hg : Aside0 (w.heap.size ≤ _)); replace HB := Aside0.mk (below_step bb_ hb); clear hb hbox hg; obtain ⟨hcz8_0, hcz8_1, hfz8_0, hfz8_1⟩ := cf2_ BK281) | ((with_reducible refine gate_callee (f := 133) rfl ?_); refine goe_ (some 6) Try.func133 #[.int .i64 a0_0, .int .i64 1, .int .i64 4] ?_; (with_reducible refine (impl_in.calls a0_0 1 4 true _ A2.out).mono ?_); rintro e w' ⟨rfl, ⟨nd, rfl⟩⟩; refine ⟨_, rfl, ?_⟩))
      go_ret
      exact ⟨er_, bb_⟩
  · replace c3 := Bool.eq_false_iff.mpr c3
    subst c3
    have H1 : (some 3) = some r := by rw [if_neg (show ¬ (false = true) by decide)] at H; exact H
    clear H
    have H := H1
    clear H1
    obtain rfl := Option.some.inj H
    go_enter Try.func131, Try.ntmps131
    go_wp2_with (first | ((with_reducible refine gate_dst (N := 1) rfl ?_); refine box_e_ 1 #[.int .i64 a0_0, .slice A0_1 l0_1.length c0_1] 91 ?_; intro gb281 hg w9 hbox hb; have BK281 := Aside0.mk (hbox); have GW281 := (bs_ hg : Aside0 (w.heap.size ≤ _)); have GE281 := (bs_ hg : Aside0 (w.heap.size ≤ _)); replace HB := Aside0.mk (below_step bb_ hb); clear hb hbox hg; obtain ⟨hcz10_0, hcz10_1, hfz10_0, hfz10_1⟩ := cf2_ BK281) | ((with_reducible refine gate_callee (f := 133) rfl ?_); refine goe_ (some 6) Try.func133 #[.int .i64 a0_0, .int .i64 1, .int .i64 4] ?_; (with_reducible refine (impl_in.calls a0_0 1 4 false _ A2.out).mono ?_); rintro e w' ⟨rfl, ⟨nd, rfl⟩⟩; refine ⟨_, rfl, ?_⟩))
    go_ret
    exact ⟨er_, bb_⟩
def impl_putTwo.f (l0 : List Int) (a1 : Int) : Option (List Int) := (some (([(a1 / 256) % 256, (a1) % 256] : List Int) : List Int)).bind fun y283 => (if l0.length + y283.length < 140737488355328 then (some (l0 ++ y283)) else (none))
set_option maxHeartbeats 8000000 in
set_option maxRecDepth 100000 in
theorem impl_putTwo.calls (P0_ : Nat → Prop) (u9000_ : Value) (l0 : List Int) (a1 : Int) (r : List Int) (w0 w : World) (hB : Below w0.heap.size w0 w) (ho0 : Kd.R (Kd.int .u8) 5 w w0.heap.size P0_ u9000_ l0) (h : impl_putTwo.f l0 a1 = some r) :
    Calls Try.prog 179 #[u9000_, .int .i64 a1] w fun e w' => ∃ v0_ : Value, e = .returned (v0_) ∧ Kd.R (Kd.int .u8) 5 w' w0.heap.size (fun k_ => (P0_ k_ ∨ w.heap.size ≤ k_)) v0_ r ∧ Below w0.heap.size w0 w' ∧ Kept w w' (fun k_ => P0_ k_) := by
  have HO0 := Aside0.mk (show Kd.R (Kd.int .u8) 5 w w0.heap.size (fun k_ => (P0_ k_ ∨ w.heap.size ≤ k_)) u9000_ l0 from Kd.R_mono ho0 (fun k_ hk => (.inl hk)))
  have HK := Aside0.mk (Kept.refl w (fun k_ => P0_ k_))
  have HW0 := Aside0.mk hB.size
  have HB := Aside0.mk hB
  clear hB
  have H : ((some (([(a1 / 256) % 256, (a1) % 256] : List Int) : List Int)).bind fun y283 => (if l0.length + y283.length < 140737488355328 then (some (l0 ++ y283)) else (none))) = some r := h
  clear h
  obtain ⟨y283, hy283⟩ : ∃ y_ : List Int, y_ = (([(a1 / 256) % 256, (a1) % 256] : List Int)) := ⟨_, rfl⟩
  replace H : (if l0.length + y283.length < 140737488355328 then (some (l0 ++ y283)) else (none)) = some r := by first | (rw [hy283]; with_reducible exact H) | (have H2_ := (Option.bind_some _ _).symm.trans H; rw [hy283]; with_reducible exact H2_) | (have H2_ := (Option.bind_some _ _).symm.trans H; with_reducible exact H2_) | with_reducible exact H | (rw [hy283]; exact H) | exact H
  have Ny283 := Aside0.mk hy283
  clear hy283
  by_cases c3 : l0.length + y283.length < 140737488355328
  · rw [if_pos c3] at H
    have LMc3 := Aside0.mk c3
    clear c3
    obtain ⟨y286, hy286⟩ : ∃ y_ : List Int, y_ = (l0 ++ y283) := ⟨_, rfl⟩
    replace H : (some y286) = some r := by first | (rw [hy286]; with_reducible exact H) | (have H2_ := (Option.bind_some _ _).symm.trans H; rw [hy286]; with_reducible exact H2_) | (have H2_ := (Option.bind_some _ _).symm.trans H; with_reducible exact H2_) | with_reducible exact H | (rw [hy286]; exact H) | exact H
    have Ny286 := Aside0.mk hy286
    clear hy286
    obtain rfl := Option.some.inj H
    go_enter Try.func179, Try.ntmps179
    go_wp2_with (first | ((with_reducible refine gate_dst (N := 11) rfl ?_); refine Kd.R_lit (Kd.int .u8) _ 5 ?hg (N := 11) ?hd (xs := ([(a1 / 256) % 256, (a1) % 256] : List Int)) (inner := [.int .u8 ((a1 / 256) % 256), .int .u8 ((a1) % 256)]) (ok := fun _ => True) (okp := fun _ => True) ?hr ?hp (fun _ hk => hk) trivial (Below.refl _ _) (Nat.le_refl _) (by simp) ?_; (case hd => rfl); (case hg => rfl); (case hr => first | (go_simp; done) | (go_simp; rfl)); (case hp => exact (Reps.one (show Kd.M (Kd.int .u8) _ _ _ ((a1 / 256) % 256) [.int .u8 ((a1 / 256) % 256)] from rfl) (Reps.one (show Kd.M (Kd.int .u8) _ _ _ ((a1) % 256) [.int .u8 ((a1) % 256)] from rfl) (Reps.none _ _)))); intro v284 w4 ho5 hb hg_ hnew_; clear hg_ hnew_; (first | rw [← Ny283.out] at ho5 | (simp only [Int.reduceToNat] at ho5; rw [← Ny283.out] at ho5)); have HO285 := Aside0.mk (Kd.R_lower (Kd.R_new' (Kd.R_newM (M := fun k_ => (P0_ k_ ∨ w.heap.size ≤ k_)) ho5 (by first | exact HK.out.1 | exact (show Kept w _ (fun k_ => P0_ k_) from by repeat (first | (with_reducible first | exact HK.out | apply Kept.alloc | apply Kept.drewN | apply Kept.drew) | exact HK.out)).1) (fun k_ h_ => .inr h_)) (Kd.R_lt (kr_ HO0))) (below_size bb_)); replace HO0 := Aside0.mk (Kd.R_elder' (kr_ HO0) (Kd.R_base ho5) hb); replace HK := Aside0.mk (Kept.below (S := (fun k_ => P0_ k_)) (by repeat (first | (with_reducible first | exact HK.out | apply Kept.alloc | apply Kept.drewN | apply Kept.drew) | exact HK.out)) hb); replace HB := Aside0.mk (below_step bb_ hb); clear hb ho5; obtain ⟨Ao7, co7, eo7⟩ := Kd.R_slice HO285.out; subst eo7) | ((with_reducible refine gate_builtin (b := .append) (xs := #[.tmp 5, .tmp 11]) rfl ?_); at_builtin; refine Kd.R_append_rows (Kd.int .u8) (w0 := w0) w0.heap.size rfl (.tmp 5) (.tmp 11) 43 5 (.int .u8 0) 1 rfl Try.underlying43 info5 rfl (by decide) (by omega) u9000_ l0 y283 _ _ _ (fun k_ => (P0_ k_ ∨ w.heap.size ≤ k_) ∧ some k_ ≠ (.slice Ao7 y283.length co7 : Value).ownBlock) (fun _ => False) rfl rfl ?aO ?aR (fun _ _ h => h) (fun _ h => h.elim) ?aF ?aB ?aS ?aL ?_; (case aR => repeat (first | exact (Kd.R_reads' HO285.out).2.2 | (with_reducible refine Kd.C_alloc ?_ _) | (with_reducible refine Kd.C_drewN ?_ _) | (with_reducible refine Kd.C_drew ?_))); (case aB => exact bb_); (case aF => exact (fun k_ hk => ⟨(.inr (Nat.le_trans (by first | exact HK.out.1 | exact (show Kept w _ (fun k_ => P0_ k_) from by repeat (first | (with_reducible first | exact HK.out | apply Kept.alloc | apply Kept.drewN | apply Kept.drew) | exact HK.out)).1) hk)), Kd.fresh' (Kd.R_lt (kr_ HO285)) k_ hk⟩)); (case aO => exact (kr_ HO0)); (case aS => exact (below_size bb_)); (case aL => have := LMc3.out; omega); intro v287 w6 ho hb hg hat; rw [← Ny286.out] at ho; have n0_ := Aside0.mk (Kd.R_after (ok := (fun k_ => (P0_ k_ ∨ w.heap.size ≤ k_))) (by (with_reducible repeat (first | apply Kd.R_alloc | apply Kd.R_drewN | apply Kd.R_drew)); exact Kd.R_mono HO285.out (fun _ hk => ⟨hk.1.1, hk.2⟩)) hg hat); have n1_ := Aside0.mk (hb); have n2_ := Aside0.mk (Kept.of_grown (S := (fun k_ => P0_ k_)) hg (by repeat (first | (with_reducible first | exact HK.out | apply Kept.alloc | apply Kept.drewN | apply Kept.drew) | exact HK.out)) (fun k_ e_ => (HO0.out.1 k_ e_).1)); have n3_ := Aside0.mk (ho); clear HO285; clear HB; clear HK; clear HO0; have HO285 := n0_; have HB := n1_; have HK := n2_; have HO288 := n3_; clear n0_ n1_ n2_ n3_; clear ho hb hg hat))
    go_ret
    exact ⟨_, er_, by (with_reducible repeat (first | apply Kd.R_alloc | apply Kd.R_drewN | apply Kd.R_drew)); exact Kd.R_mono HO288.out (fun _ hk => hk.1), bb_, by repeat (first | (with_reducible first | exact HK.out | apply Kept.alloc | apply Kept.drewN | apply Kept.drew) | exact HK.out)⟩
  · rw [if_neg c3] at H
    exact absurd H (by simp)
end Go.Proofs.Ytfbojdagjecjcaa.PFnSplits
