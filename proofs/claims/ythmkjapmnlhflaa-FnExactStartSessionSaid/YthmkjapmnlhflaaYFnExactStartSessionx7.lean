/- The functions that the law FnExactStartSession reaches: each as a plain Lean function, with the proof that the call does what it says. -/
import Derived.Test.YthmkjapmnlhflaaYFnExactStartSessionx0
import Derived.Test.YthmkjapmnlhflaaYFnExactStartSessionx6
namespace Go.Proofs.Ythmkjapmnlhflaa.PFnExactStartSession
open Go.RowKit Go.Proofs.YthmkjapmnlhflaaW.PrintWords Go.Proofs.YthmkjapmnlhflaaW.PrintLast Go.Proofs.YthmkjapmnlhflaaW.PrintMore
attribute [local go_sem] max2_int min2_int max_two min_two max_three min_three max_four min_four
set_option linter.unusedVariables false
set_option linter.unusedSimpArgs false
def laws_eqMessageS.l0 : Nat → List (S136) → List (S136) → Int → Option (Bool)
  | 0, _, _, _ => none
  | k + 1, x0, x1, x5 => if x5 < (x0.length : Int) then (if 0 ≤ x5 then (if x5 < (x1.length : Int) then ((laws_eqMessage.f k ((rd_T136 x0 x5).f0) ((rd_T136 x0 x5).f1) ((rd_T136 x0 x5).f2) ((rd_T136 x0 x5).f3) ((rd_T136 x0 x5).f4) ((rd_T136 x0 x5).f5) ((rd_T136 x0 x5).f6.f0) ((rd_T136 x0 x5).f6.f1) ((rd_T136 x0 x5).f6.f2.f0) ((rd_T136 x0 x5).f6.f2.f1) ((rd_T136 x0 x5).f6.f2.f2) ((rd_T136 x0 x5).f6.f2.f3) ((rd_T136 x0 x5).f6.f2.f4) ((rd_T136 x0 x5).f6.f3) ((rd_T136 x1 x5).f0) ((rd_T136 x1 x5).f1) ((rd_T136 x1 x5).f2) ((rd_T136 x1 x5).f3) ((rd_T136 x1 x5).f4) ((rd_T136 x1 x5).f5) ((rd_T136 x1 x5).f6.f0) ((rd_T136 x1 x5).f6.f1) ((rd_T136 x1 x5).f6.f2.f0) ((rd_T136 x1 x5).f6.f2.f1) ((rd_T136 x1 x5).f6.f2.f2) ((rd_T136 x1 x5).f6.f2.f3) ((rd_T136 x1 x5).f6.f2.f4) ((rd_T136 x1 x5).f6.f3)).bind fun t201 => (if t201 = true then (laws_eqMessageS.l0 k x0 x1 (wrap64 (x5 + 1))) else (some false))) else (none)) else (none)) else (some true)
def laws_eqMessageS.f (k : Nat) (l0 : List (S136)) (l1 : List (S136)) : Option (Bool) := if (l0.length : Int) = (l1.length : Int) then (laws_eqMessageS.l0 k l0 l1 0) else (some false)
theorem laws_eqMessageS.mono_l : ∀ k, (∀ y0 y1 y2, LeO (laws_eqMessageS.l0 k y0 y1 y2) (laws_eqMessageS.l0 (k + 1) y0 y1 y2))
  | 0 => fun _ _ _ r h => by simp [laws_eqMessageS.l0] at h
  | k + 1 => by
    have ih0 := laws_eqMessageS.mono_l k
    · intro y0 y1 y2
      unfold laws_eqMessageS.l0
      repeat' first
      | (with_reducible exact ih0 _ _ _)
      | (with_reducible exact laws_eqMessage.mono _ _ _ _ _ _ _ _ _ _ _ _ _ _ _ _ _ _ _ _ _ _ _ _ _ _ _ _ _)
      | (with_reducible exact LeO.refl _)
      | (with_reducible exact LeO.none _)
      | (with_reducible refine LeO.ite ?_ ?_)
      | (with_reducible refine LeO.bind ?_ (fun _ => ?_))
      | exact ih0 _ _ _
      | exact laws_eqMessage.mono _ _ _ _ _ _ _ _ _ _ _ _ _ _ _ _ _ _ _ _ _ _ _ _ _ _ _ _ _
      | exact LeO.none _
      | refine LeO.ite ?_ ?_
      | refine LeO.bind ?_ (fun _ => ?_)
theorem laws_eqMessageS.mono : ∀ a0 a1 k, LeO (laws_eqMessageS.f k a0 a1) (laws_eqMessageS.f (k + 1) a0 a1) := by
  intro a0 a1 k
  have ih0 := laws_eqMessageS.mono_l k
  unfold laws_eqMessageS.f
  repeat' first
      | (with_reducible exact ih0 _ _ _)
      | (with_reducible exact laws_eqMessage.mono _ _ _ _ _ _ _ _ _ _ _ _ _ _ _ _ _ _ _ _ _ _ _ _ _ _ _ _ _)
      | (with_reducible exact LeO.refl _)
      | (with_reducible exact LeO.none _)
      | (with_reducible refine LeO.ite ?_ ?_)
      | (with_reducible refine LeO.bind ?_ (fun _ => ?_))
      | exact ih0 _ _ _
      | exact laws_eqMessage.mono _ _ _ _ _ _ _ _ _ _ _ _ _ _ _ _ _ _ _ _ _ _ _ _ _ _ _ _ _
      | exact LeO.none _
      | refine LeO.ite ?_ ?_
      | refine LeO.bind ?_ (fun _ => ?_)
def laws_eqMessageS.T6 : Bool × List (List Nat × List Nat) := (true, [([], []), ([], []), ([0, 1], [0, 1]), ([2], [2]), ([], []), ([], []), ([4, 5], [4, 5]), ([6], [6]), ([3, 7], [3, 7]), ([8], [8])])
def laws_eqMessageS.B6 : List Nat := [0, 0, 3, 7, 0, 0, 48, 112, 255, 511]
theorem laws_eqMessageS.tab6 : rtab .any (opsOf Try.f91 6) = laws_eqMessageS.T6 := by kernel_rfl
theorem laws_eqMessageS.bits6 : waitsOk laws_eqMessageS.T6.2 laws_eqMessageS.B6 = true := by kernel_rfl
set_option maxHeartbeats 8000000 in
set_option maxRecDepth 100000 in
theorem laws_eqMessageS.calls (k : Nat) (A0 : Option Addr) (c0 : Nat) (l0 : List (S136)) (A1 : Option Addr) (c1 : Nat) (l1 : List (S136)) (r : Bool) (w : World) (hr0 : Kd.C k136 w A0 l0.length l0) (hc0 : l0.length ≤ c0) (hr1 : Kd.C k136 w A1 l1.length l1) (hc1 : l1.length ≤ c1) (h : laws_eqMessageS.f k l0 l1 = some r) :
    Calls Try.prog 91 #[.slice A0 l0.length c0, .slice A1 l1.length c1] w fun e w' => e = .returned (.bool r) ∧ Below w.heap.size w w' := by
  have hu136 := Try.underlying136
  have HR0 := Aside0.mk hr0
  have HC0 := Aside0.mk hc0
  clear hr0 hc0
  have HR1 := Aside0.mk hr1
  have HC1 := Aside0.mk hc1
  clear hr1 hc1
  have HB := Aside0.mk (Below.refl w.heap.size w)
  have H : (if (l0.length : Int) = (l1.length : Int) then (laws_eqMessageS.l0 k l0 l1 0) else (some false)) = some r := h
  clear h
  by_cases c3 : (l0.length : Int) = (l1.length : Int)
  · rw [if_pos c3] at H
    have c3b0 : ((l0.length : Int) == (l1.length : Int)) = true := beq_iff_eq.mpr c3
    have c3b1 : ((l0.length : Int) != (l1.length : Int)) = false := bne_eq_false_iff_eq.mpr c3
    have c3b2 : (l0.length == l1.length) = true := by first | simpa using c3 | (simp at c3 ⊢; omega)
    clear c3
    have H' := Aside0.mk H
    clear H
    go_enter Try.func91, Try.ntmps91
    go_wp2
    go_loopg [5] k (fun kq v5 w' => ∃ (x5_1 : Int), v5 = .int .i64 x5_1 ∧ Aside0 (laws_eqMessageS.l0 kq l0 l1 x5_1 = some r) ∧ Aside0 (kq ≤ k) ∧ Aside0 (Below w.heap.size w w'))
    case atStart => exact ⟨(0), sd_, H', ⟨Nat.le_refl _⟩, ⟨bb_⟩⟩
    case round =>
      clear H'
      try clear c1
      try clear p2
      try clear c3
      try clear c3b0
      try clear c3b1
      try clear c3b2
      obtain ⟨x5_1, rfl, HA, HK1, HB⟩ := hrel
      cases gk with
      | zero => exact absurd HA.out (by simp [laws_eqMessageS.l0])
      | succ k1 =>
        have H := HA.out
        clear HA
        simp only [laws_eqMessageS.l0] at H
        by_cases c4 : x5_1 < (l0.length : Int)
        · rw [if_pos c4] at H
          have c4b0 : decide (x5_1 < (l0.length : Int)) = true := decide_eq_true c4
          clear c4
          by_cases c5 : 0 ≤ x5_1
          · rw [if_pos c5] at H
            have c5b0 : decide (0 ≤ x5_1) = true := decide_eq_true c5
            clear c5
            by_cases c6 : x5_1 < (l1.length : Int)
            · rw [if_pos c6] at H
              have c6b0 : decide (x5_1 < (l1.length : Int)) = true := decide_eq_true c6
              clear c6
              replace H := Option.bind_eq_some_iff.mp H
              obtain ⟨t201, A70, H⟩ := H
              replace H : (if t201 = true then (laws_eqMessageS.l0 k1 l0 l1 (wrap64 (x5_1 + 1))) else (some false)) = some r := H
              have A7 := Aside0.mk A70
              clear A70
              by_cases c8 : t201 = true
              · subst c8
                have H1 : (laws_eqMessageS.l0 k1 l0 l1 (wrap64 (x5_1 + 1))) = some r := by rw [if_pos rfl] at H; exact H
                clear H
                have H := H1
                clear H1
                have H' := Aside0.mk H
                clear H
                try go_wp2
                have n0_ := Aside0.mk (below_drew1 HB.out)
                clear HB
                have HB := n0_
                clear n0_
                have p199 : 0 ≤ (x5_1 : Int) := of_decide_eq_true as_
                have q199 : x5_1 < (l0.length : Int) := of_decide_eq_true as_
                obtain ⟨ad199, A199_6, c199_6, A199_9, c199_9, A199_13, c199_13, e199, hx199_0, hx199_1, hx199_2, hx199_3, hx199_4, hx199_5, hx199_6, hx199_7, hx199_8, hx199_9, hx199_10, hx199_11, hx199_12, hx199_13, hl199_6, hi199_6, hl199_9, hi199_9, hl199_13, hi199_13⟩ := at_T136 HR0.out x5_1 p199 q199
                have hw199_13 := hx199_13
                have hw199_12 := hx199_12
                have hw199_11 := hx199_11
                have hw199_10 := hx199_10
                have hw199_9 := hx199_9
                have hw199_8 := hx199_8
                have hw199_7 := hx199_7
                have hw199_6 := hx199_6
                have hw199_5 := hx199_5
                have hw199_4 := hx199_4
                have hw199_3 := hx199_3
                have hw199_2 := hx199_2
                have hw199_1 := hx199_1
                have hw199_0 := hx199_0
                cases e199
                replace hx199_0 := (HB.out.cell (World.block_lt_of_cell? w _ hx199_0)).trans hx199_0
                replace hx199_1 := (HB.out.cell (World.block_lt_of_cell? w _ hx199_1)).trans hx199_1
                replace hx199_2 := (HB.out.cell (World.block_lt_of_cell? w _ hx199_2)).trans hx199_2
                replace hx199_3 := (HB.out.cell (World.block_lt_of_cell? w _ hx199_3)).trans hx199_3
                replace hx199_4 := (HB.out.cell (World.block_lt_of_cell? w _ hx199_4)).trans hx199_4
                replace hx199_5 := (HB.out.cell (World.block_lt_of_cell? w _ hx199_5)).trans hx199_5
                replace hx199_6 := (HB.out.cell (World.block_lt_of_cell? w _ hx199_6)).trans hx199_6
                replace hx199_7 := (HB.out.cell (World.block_lt_of_cell? w _ hx199_7)).trans hx199_7
                replace hx199_8 := (HB.out.cell (World.block_lt_of_cell? w _ hx199_8)).trans hx199_8
                replace hx199_9 := (HB.out.cell (World.block_lt_of_cell? w _ hx199_9)).trans hx199_9
                replace hx199_10 := (HB.out.cell (World.block_lt_of_cell? w _ hx199_10)).trans hx199_10
                replace hx199_11 := (HB.out.cell (World.block_lt_of_cell? w _ hx199_11)).trans hx199_11
                replace hx199_12 := (HB.out.cell (World.block_lt_of_cell? w _ hx199_12)).trans hx199_12
                replace hx199_13 := (HB.out.cell (World.block_lt_of_cell? w _ hx199_13)).trans hx199_13
                have HR199_6 := Aside0.mk hi199_6
                have HC199_6 := Aside0.mk hl199_6
                clear hi199_6 hl199_6
                have HR199_9 := Aside0.mk hi199_9
                have HC199_9 := Aside0.mk hl199_9
                clear hi199_9 hl199_9
                have HR199_13 := Aside0.mk hi199_13
                have HC199_13 := Aside0.mk hl199_13
                clear hi199_13 hl199_13
                replace p199 := eq_true p199
                replace q199 := eq_true q199
                have p200 : 0 ≤ (x5_1 : Int) := of_decide_eq_true as_
                have q200 : x5_1 < (l1.length : Int) := of_decide_eq_true as_
                obtain ⟨ad200, A200_6, c200_6, A200_9, c200_9, A200_13, c200_13, e200, hx200_0, hx200_1, hx200_2, hx200_3, hx200_4, hx200_5, hx200_6, hx200_7, hx200_8, hx200_9, hx200_10, hx200_11, hx200_12, hx200_13, hl200_6, hi200_6, hl200_9, hi200_9, hl200_13, hi200_13⟩ := at_T136 HR1.out x5_1 p200 q200
                have hw200_13 := hx200_13
                have hw200_12 := hx200_12
                have hw200_11 := hx200_11
                have hw200_10 := hx200_10
                have hw200_9 := hx200_9
                have hw200_8 := hx200_8
                have hw200_7 := hx200_7
                have hw200_6 := hx200_6
                have hw200_5 := hx200_5
                have hw200_4 := hx200_4
                have hw200_3 := hx200_3
                have hw200_2 := hx200_2
                have hw200_1 := hx200_1
                have hw200_0 := hx200_0
                cases e200
                replace hx200_0 := (HB.out.cell (World.block_lt_of_cell? w _ hx200_0)).trans hx200_0
                replace hx200_1 := (HB.out.cell (World.block_lt_of_cell? w _ hx200_1)).trans hx200_1
                replace hx200_2 := (HB.out.cell (World.block_lt_of_cell? w _ hx200_2)).trans hx200_2
                replace hx200_3 := (HB.out.cell (World.block_lt_of_cell? w _ hx200_3)).trans hx200_3
                replace hx200_4 := (HB.out.cell (World.block_lt_of_cell? w _ hx200_4)).trans hx200_4
                replace hx200_5 := (HB.out.cell (World.block_lt_of_cell? w _ hx200_5)).trans hx200_5
                replace hx200_6 := (HB.out.cell (World.block_lt_of_cell? w _ hx200_6)).trans hx200_6
                replace hx200_7 := (HB.out.cell (World.block_lt_of_cell? w _ hx200_7)).trans hx200_7
                replace hx200_8 := (HB.out.cell (World.block_lt_of_cell? w _ hx200_8)).trans hx200_8
                replace hx200_9 := (HB.out.cell (World.block_lt_of_cell? w _ hx200_9)).trans hx200_9
                replace hx200_10 := (HB.out.cell (World.block_lt_of_cell? w _ hx200_10)).trans hx200_10
                replace hx200_11 := (HB.out.cell (World.block_lt_of_cell? w _ hx200_11)).trans hx200_11
                replace hx200_12 := (HB.out.cell (World.block_lt_of_cell? w _ hx200_12)).trans hx200_12
                replace hx200_13 := (HB.out.cell (World.block_lt_of_cell? w _ hx200_13)).trans hx200_13
                have HR200_6 := Aside0.mk hi200_6
                have HC200_6 := Aside0.mk hl200_6
                clear hi200_6 hl200_6
                have HR200_9 := Aside0.mk hi200_9
                have HC200_9 := Aside0.mk hl200_9
                clear hi200_9 hl200_9
                have HR200_13 := Aside0.mk hi200_13
                have HC200_13 := Aside0.mk hl200_13
                clear hi200_13 hl200_13
                replace p200 := eq_true p200
                replace q200 := eq_true q200
                refine start_ (n := 10) (S := fun w' => w'.cell? (ad199.add ((x5_1).toNat * 14)) = some (.int .i64 ((rd_T136 l0 x5_1).f0)) ∧ w'.cell? ⟨(ad199.add ((x5_1).toNat * 14)).block, (ad199.add ((x5_1).toNat * 14)).off + 1, none⟩ = some (.int .i64 ((rd_T136 l0 x5_1).f1)) ∧ w'.cell? ⟨(ad199.add ((x5_1).toNat * 14)).block, (ad199.add ((x5_1).toNat * 14)).off + 2, none⟩ = some (.int .i64 ((rd_T136 l0 x5_1).f2)) ∧ w'.cell? ⟨(ad199.add ((x5_1).toNat * 14)).block, (ad199.add ((x5_1).toNat * 14)).off + 3, none⟩ = some (.int .i64 ((rd_T136 l0 x5_1).f3)) ∧ w'.cell? ⟨(ad199.add ((x5_1).toNat * 14)).block, (ad199.add ((x5_1).toNat * 14)).off + 4, none⟩ = some (.int .i64 ((rd_T136 l0 x5_1).f4)) ∧ w'.cell? ⟨(ad199.add ((x5_1).toNat * 14)).block, (ad199.add ((x5_1).toNat * 14)).off + 5, none⟩ = some (.int .i64 ((rd_T136 l0 x5_1).f5)) ∧ w'.cell? ⟨(ad199.add ((x5_1).toNat * 14)).block, (ad199.add ((x5_1).toNat * 14)).off + 6, none⟩ = some (.slice A199_6 ((rd_T136 l0 x5_1).f6.f0).length c199_6) ∧ w'.cell? ⟨(ad199.add ((x5_1).toNat * 14)).block, (ad199.add ((x5_1).toNat * 14)).off + 7, none⟩ = some (.bool ((rd_T136 l0 x5_1).f6.f1)) ∧ w'.cell? ⟨(ad199.add ((x5_1).toNat * 14)).block, (ad199.add ((x5_1).toNat * 14)).off + 8, none⟩ = some (.int .i64 ((rd_T136 l0 x5_1).f6.f2.f0)) ∧ w'.cell? ⟨(ad199.add ((x5_1).toNat * 14)).block, (ad199.add ((x5_1).toNat * 14)).off + 9, none⟩ = some (.slice A199_9 ((rd_T136 l0 x5_1).f6.f2.f1).length c199_9) ∧ w'.cell? ⟨(ad199.add ((x5_1).toNat * 14)).block, (ad199.add ((x5_1).toNat * 14)).off + 10, none⟩ = some (.int .i64 ((rd_T136 l0 x5_1).f6.f2.f2)) ∧ w'.cell? ⟨(ad199.add ((x5_1).toNat * 14)).block, (ad199.add ((x5_1).toNat * 14)).off + 11, none⟩ = some (.int .i64 ((rd_T136 l0 x5_1).f6.f2.f3)) ∧ w'.cell? ⟨(ad199.add ((x5_1).toNat * 14)).block, (ad199.add ((x5_1).toNat * 14)).off + 12, none⟩ = some (.int .i64 ((rd_T136 l0 x5_1).f6.f2.f4)) ∧ w'.cell? ⟨(ad199.add ((x5_1).toNat * 14)).block, (ad199.add ((x5_1).toNat * 14)).off + 13, none⟩ = some (.slice A199_13 ((rd_T136 l0 x5_1).f6.f3).length c199_13) ∧ w'.cell? (ad200.add ((x5_1).toNat * 14)) = some (.int .i64 ((rd_T136 l1 x5_1).f0)) ∧ w'.cell? ⟨(ad200.add ((x5_1).toNat * 14)).block, (ad200.add ((x5_1).toNat * 14)).off + 1, none⟩ = some (.int .i64 ((rd_T136 l1 x5_1).f1)) ∧ w'.cell? ⟨(ad200.add ((x5_1).toNat * 14)).block, (ad200.add ((x5_1).toNat * 14)).off + 2, none⟩ = some (.int .i64 ((rd_T136 l1 x5_1).f2)) ∧ w'.cell? ⟨(ad200.add ((x5_1).toNat * 14)).block, (ad200.add ((x5_1).toNat * 14)).off + 3, none⟩ = some (.int .i64 ((rd_T136 l1 x5_1).f3)) ∧ w'.cell? ⟨(ad200.add ((x5_1).toNat * 14)).block, (ad200.add ((x5_1).toNat * 14)).off + 4, none⟩ = some (.int .i64 ((rd_T136 l1 x5_1).f4)) ∧ w'.cell? ⟨(ad200.add ((x5_1).toNat * 14)).block, (ad200.add ((x5_1).toNat * 14)).off + 5, none⟩ = some (.int .i64 ((rd_T136 l1 x5_1).f5)) ∧ w'.cell? ⟨(ad200.add ((x5_1).toNat * 14)).block, (ad200.add ((x5_1).toNat * 14)).off + 6, none⟩ = some (.slice A200_6 ((rd_T136 l1 x5_1).f6.f0).length c200_6) ∧ w'.cell? ⟨(ad200.add ((x5_1).toNat * 14)).block, (ad200.add ((x5_1).toNat * 14)).off + 7, none⟩ = some (.bool ((rd_T136 l1 x5_1).f6.f1)) ∧ w'.cell? ⟨(ad200.add ((x5_1).toNat * 14)).block, (ad200.add ((x5_1).toNat * 14)).off + 8, none⟩ = some (.int .i64 ((rd_T136 l1 x5_1).f6.f2.f0)) ∧ w'.cell? ⟨(ad200.add ((x5_1).toNat * 14)).block, (ad200.add ((x5_1).toNat * 14)).off + 9, none⟩ = some (.slice A200_9 ((rd_T136 l1 x5_1).f6.f2.f1).length c200_9) ∧ w'.cell? ⟨(ad200.add ((x5_1).toNat * 14)).block, (ad200.add ((x5_1).toNat * 14)).off + 10, none⟩ = some (.int .i64 ((rd_T136 l1 x5_1).f6.f2.f2)) ∧ w'.cell? ⟨(ad200.add ((x5_1).toNat * 14)).block, (ad200.add ((x5_1).toNat * 14)).off + 11, none⟩ = some (.int .i64 ((rd_T136 l1 x5_1).f6.f2.f3)) ∧ w'.cell? ⟨(ad200.add ((x5_1).toNat * 14)).block, (ad200.add ((x5_1).toNat * 14)).off + 12, none⟩ = some (.int .i64 ((rd_T136 l1 x5_1).f6.f2.f4)) ∧ w'.cell? ⟨(ad200.add ((x5_1).toNat * 14)).block, (ad200.add ((x5_1).toNat * 14)).off + 13, none⟩ = some (.slice A200_13 ((rd_T136 l1 x5_1).f6.f3).length c200_13)) (ds := []) #[false, false, false, false, false, false, false, false, false, false] (by kernel_rfl) rfl rfl ⟨((HB.out.cell (World.block_lt_of_cell? w _ hw199_0)).trans hw199_0), ((HB.out.cell (World.block_lt_of_cell? w _ hw199_1)).trans hw199_1), ((HB.out.cell (World.block_lt_of_cell? w _ hw199_2)).trans hw199_2), ((HB.out.cell (World.block_lt_of_cell? w _ hw199_3)).trans hw199_3), ((HB.out.cell (World.block_lt_of_cell? w _ hw199_4)).trans hw199_4), ((HB.out.cell (World.block_lt_of_cell? w _ hw199_5)).trans hw199_5), ((HB.out.cell (World.block_lt_of_cell? w _ hw199_6)).trans hw199_6), ((HB.out.cell (World.block_lt_of_cell? w _ hw199_7)).trans hw199_7), ((HB.out.cell (World.block_lt_of_cell? w _ hw199_8)).trans hw199_8), ((HB.out.cell (World.block_lt_of_cell? w _ hw199_9)).trans hw199_9), ((HB.out.cell (World.block_lt_of_cell? w _ hw199_10)).trans hw199_10), ((HB.out.cell (World.block_lt_of_cell? w _ hw199_11)).trans hw199_11), ((HB.out.cell (World.block_lt_of_cell? w _ hw199_12)).trans hw199_12), ((HB.out.cell (World.block_lt_of_cell? w _ hw199_13)).trans hw199_13), ((HB.out.cell (World.block_lt_of_cell? w _ hw200_0)).trans hw200_0), ((HB.out.cell (World.block_lt_of_cell? w _ hw200_1)).trans hw200_1), ((HB.out.cell (World.block_lt_of_cell? w _ hw200_2)).trans hw200_2), ((HB.out.cell (World.block_lt_of_cell? w _ hw200_3)).trans hw200_3), ((HB.out.cell (World.block_lt_of_cell? w _ hw200_4)).trans hw200_4), ((HB.out.cell (World.block_lt_of_cell? w _ hw200_5)).trans hw200_5), ((HB.out.cell (World.block_lt_of_cell? w _ hw200_6)).trans hw200_6), ((HB.out.cell (World.block_lt_of_cell? w _ hw200_7)).trans hw200_7), ((HB.out.cell (World.block_lt_of_cell? w _ hw200_8)).trans hw200_8), ((HB.out.cell (World.block_lt_of_cell? w _ hw200_9)).trans hw200_9), ((HB.out.cell (World.block_lt_of_cell? w _ hw200_10)).trans hw200_10), ((HB.out.cell (World.block_lt_of_cell? w _ hw200_11)).trans hw200_11), ((HB.out.cell (World.block_lt_of_cell? w _ hw200_12)).trans hw200_12), ((HB.out.cell (World.block_lt_of_cell? w _ hw200_13)).trans hw200_13)⟩ (fun hHeld => ?_); refine with_tabW laws_eqMessageS.tab6 laws_eqMessageS.bits6 (fun HT_ HW_ => ?_)
                generalize wr.drew = w9 at HB HR199_13 HR199_6 HR199_9 HR200_13 HR200_6 HR200_9 hx199_0 hx199_1 hx199_10 hx199_11 hx199_12 hx199_13 hx199_2 hx199_3 hx199_4 hx199_5 hx199_6 hx199_7 hx199_8 hx199_9 hx200_0 hx200_1 hx200_10 hx200_11 hx200_12 hx200_13 hx200_2 hx200_3 hx200_4 hx200_5 hx200_6 hx200_7 hx200_8 hx200_9 hHeld ⊢
                refine pure_ (i := 0) (N := some 17) (v := ?_) (a' := ?_) #[true, false, false, false, false, false, false, false, false, false] rfl rfl (any_of HT_.out (by kernel_rfl)) (fun _ _ _ h => h) (Or.inl ⟨by rfl, ?_⟩) ?_ ?_
                rotate_left
                · intro w'
                  go_simp
                  with_reducible rfl
                rotate_left
                · simp only [Act.put, List.setIfInBounds_toArray, List.set_cons_zero, List.set_cons_succ, i64_w, i32_w]
                  rfl
                refine pure_ (i := 1) (N := some 18) (v := ?_) (a' := ?_) #[true, true, false, false, false, false, false, false, false, false] rfl rfl (any_of HT_.out (by kernel_rfl)) (fun _ _ _ h => h) (Or.inl ⟨by rfl, ?_⟩) ?_ ?_
                rotate_left
                · intro w'
                  go_simp
                  with_reducible rfl
                rotate_left
                · simp only [Act.put, List.setIfInBounds_toArray, List.set_cons_zero, List.set_cons_succ, i64_w, i32_w]
                  rfl
                refine pure_ (i := 2) (N := some 19) (v := ?_) (a' := ?_) #[true, true, true, false, false, false, false, false, false, false] rfl rfl (any_of HT_.out (by kernel_rfl)) (fun _ _ _ h => h) (Or.inl ⟨by rfl, ?_⟩) ?_ ?_
                rotate_left
                · intro w'
                  go_simp
                  with_reducible rfl
                rotate_left
                · simp only [Act.put, List.setIfInBounds_toArray, List.set_cons_zero, List.set_cons_succ, i64_w, i32_w]
                  rfl
                refine pure_ (i := 4) (N := some 21) (v := ?_) (a' := ?_) #[true, true, true, false, true, false, false, false, false, false] rfl rfl (any_of HT_.out (by kernel_rfl)) (fun _ _ _ h => h) (Or.inl ⟨by rfl, ?_⟩) ?_ ?_
                rotate_left
                · intro w'
                  go_simp
                  with_reducible rfl
                rotate_left
                · simp only [Act.put, List.setIfInBounds_toArray, List.set_cons_zero, List.set_cons_succ, i64_w, i32_w]
                  rfl
                refine pure_ (i := 5) (N := some 22) (v := ?_) (a' := ?_) #[true, true, true, false, true, true, false, false, false, false] rfl rfl (any_of HT_.out (by kernel_rfl)) (fun _ _ _ h => h) (Or.inl ⟨by rfl, ?_⟩) ?_ ?_
                rotate_left
                · intro w'
                  go_simp
                  with_reducible rfl
                rotate_left
                · simp only [Act.put, List.setIfInBounds_toArray, List.set_cons_zero, List.set_cons_succ, i64_w, i32_w]
                  rfl
                refine pure_ (i := 6) (N := some 23) (v := ?_) (a' := ?_) #[true, true, true, false, true, true, true, false, false, false] rfl rfl (any_of HT_.out (by kernel_rfl)) (fun _ _ _ h => h) (Or.inl ⟨by rfl, ?_⟩) ?_ ?_
                rotate_left
                · intro w'
                  go_simp
                  with_reducible rfl
                rotate_left
                · simp only [Act.put, List.setIfInBounds_toArray, List.set_cons_zero, List.set_cons_succ, i64_w, i32_w]
                  rfl
                refine take_ (i := 3) (N := some 20) (v := ?_) (a' := ?_) #[true, true, true, true, true, true, true, false, false, false] rfl rfl (take_ofW HT_.out HW_.out (by kernel_rfl)) (fun _ _ _ h => h) (Or.inl ⟨by rfl, ?_⟩) hHeld ?_ ?_
                rotate_left
                · rintro w' ⟨s0, s1, s2, s3, s4, s5, s6, s7, s8, s9, s10, s11, s12, s13, s14, s15, s16, s17, s18, s19, s20, s21, s22, s23, s24, s25, s26, s27⟩
                  go_simp
                  with_reducible rfl
                rotate_left
                · simp only [Act.put, List.setIfInBounds_toArray, List.set_cons_zero, List.set_cons_succ, i64_w, i32_w]
                  rfl
                refine take_ (i := 7) (N := some 24) (v := ?_) (a' := ?_) #[true, true, true, true, true, true, true, true, false, false] rfl rfl (take_ofW HT_.out HW_.out (by kernel_rfl)) (fun _ _ _ h => h) (Or.inl ⟨by rfl, ?_⟩) hHeld ?_ ?_
                rotate_left
                · rintro w' ⟨s0, s1, s2, s3, s4, s5, s6, s7, s8, s9, s10, s11, s12, s13, s14, s15, s16, s17, s18, s19, s20, s21, s22, s23, s24, s25, s26, s27⟩
                  go_simp
                  with_reducible rfl
                rotate_left
                · simp only [Act.put, List.setIfInBounds_toArray, List.set_cons_zero, List.set_cons_succ, i64_w, i32_w]
                  rfl
                refine one_ (i := 8) (N := some 25) #[true, true, true, true, true, true, true, true, true, false] rfl rfl (one_of HT_.out (by kernel_rfl)) (by decide) (fun K hK => ?_)
                refine goes_ Try.func143 (by kernel_rfl) rfl #[.agg #[.int .i64 ((rd_T136 l0 x5_1).f0), .int .i64 ((rd_T136 l0 x5_1).f1), .int .i64 ((rd_T136 l0 x5_1).f2), .int .i64 ((rd_T136 l0 x5_1).f3), .int .i64 ((rd_T136 l0 x5_1).f4), .int .i64 ((rd_T136 l0 x5_1).f5), .slice A199_6 ((rd_T136 l0 x5_1).f6.f0).length c199_6, .bool ((rd_T136 l0 x5_1).f6.f1), .int .i64 ((rd_T136 l0 x5_1).f6.f2.f0), .slice A199_9 ((rd_T136 l0 x5_1).f6.f2.f1).length c199_9, .int .i64 ((rd_T136 l0 x5_1).f6.f2.f2), .int .i64 ((rd_T136 l0 x5_1).f6.f2.f3), .int .i64 ((rd_T136 l0 x5_1).f6.f2.f4), .slice A199_13 ((rd_T136 l0 x5_1).f6.f3).length c199_13], .agg #[.int .i64 ((rd_T136 l1 x5_1).f0), .int .i64 ((rd_T136 l1 x5_1).f1), .int .i64 ((rd_T136 l1 x5_1).f2), .int .i64 ((rd_T136 l1 x5_1).f3), .int .i64 ((rd_T136 l1 x5_1).f4), .int .i64 ((rd_T136 l1 x5_1).f5), .slice A200_6 ((rd_T136 l1 x5_1).f6.f0).length c200_6, .bool ((rd_T136 l1 x5_1).f6.f1), .int .i64 ((rd_T136 l1 x5_1).f6.f2.f0), .slice A200_9 ((rd_T136 l1 x5_1).f6.f2.f1).length c200_9, .int .i64 ((rd_T136 l1 x5_1).f6.f2.f2), .int .i64 ((rd_T136 l1 x5_1).f6.f2.f3), .int .i64 ((rd_T136 l1 x5_1).f6.f2.f4), .slice A200_13 ((rd_T136 l1 x5_1).f6.f3).length c200_13]] (by rfl) rfl rfl (by (try simp only [List.map_toArray, List.map_cons, List.map_nil]); first | done | rfl | (simp only [List.length_drop, List.length_take]; rfl)) ?_
                with_reducible refine (laws_eqMessage.calls k1 ((rd_T136 l0 x5_1).f0) ((rd_T136 l0 x5_1).f1) ((rd_T136 l0 x5_1).f2) ((rd_T136 l0 x5_1).f3) ((rd_T136 l0 x5_1).f4) ((rd_T136 l0 x5_1).f5) _ _ ((rd_T136 l0 x5_1).f6.f0) ((rd_T136 l0 x5_1).f6.f1) ((rd_T136 l0 x5_1).f6.f2.f0) _ _ ((rd_T136 l0 x5_1).f6.f2.f1) ((rd_T136 l0 x5_1).f6.f2.f2) ((rd_T136 l0 x5_1).f6.f2.f3) ((rd_T136 l0 x5_1).f6.f2.f4) _ _ ((rd_T136 l0 x5_1).f6.f3) ((rd_T136 l1 x5_1).f0) ((rd_T136 l1 x5_1).f1) ((rd_T136 l1 x5_1).f2) ((rd_T136 l1 x5_1).f3) ((rd_T136 l1 x5_1).f4) ((rd_T136 l1 x5_1).f5) _ _ ((rd_T136 l1 x5_1).f6.f0) ((rd_T136 l1 x5_1).f6.f1) ((rd_T136 l1 x5_1).f6.f2.f0) _ _ ((rd_T136 l1 x5_1).f6.f2.f1) ((rd_T136 l1 x5_1).f6.f2.f2) ((rd_T136 l1 x5_1).f6.f2.f3) ((rd_T136 l1 x5_1).f6.f2.f4) _ _ ((rd_T136 l1 x5_1).f6.f3) true _ ?side1 ?side2 ?side3 ?side4 ?side5 ?side6 ?side7 ?side8 ?side9 ?side10 ?side11 ?side12 A7.out).mono ?_
                (case side1 => exact kc_ (Kd.C_below HR199_6.out HB.out))
                (case side2 => exact HC199_6.out)
                (case side3 => exact kc_ (Kd.C_below HR199_9.out HB.out))
                (case side4 => exact HC199_9.out)
                (case side5 => exact kc_ (Kd.C_below HR199_13.out HB.out))
                (case side6 => exact HC199_13.out)
                (case side7 => exact kc_ (Kd.C_below HR200_6.out HB.out))
                (case side8 => exact HC200_6.out)
                (case side9 => exact kc_ (Kd.C_below HR200_9.out HB.out))
                (case side10 => exact HC200_9.out)
                (case side11 => exact kc_ (Kd.C_below HR200_13.out HB.out))
                (case side12 => exact HC200_13.out)
                rintro e w10 ⟨rfl, hb⟩
                refine ⟨_, rfl, ?_⟩
                have n0_ := Aside0.mk (below_step bb_ hb)
                clear HB
                have HB := n0_
                clear n0_
                (try clear hb)
                (try clear hb2)
                (try clear hk)
                (try clear hi)
                refine hK.out _ _ ⟨((HB.out.cell (World.block_lt_of_cell? w _ hw199_0)).trans hw199_0), ((HB.out.cell (World.block_lt_of_cell? w _ hw199_1)).trans hw199_1), ((HB.out.cell (World.block_lt_of_cell? w _ hw199_2)).trans hw199_2), ((HB.out.cell (World.block_lt_of_cell? w _ hw199_3)).trans hw199_3), ((HB.out.cell (World.block_lt_of_cell? w _ hw199_4)).trans hw199_4), ((HB.out.cell (World.block_lt_of_cell? w _ hw199_5)).trans hw199_5), ((HB.out.cell (World.block_lt_of_cell? w _ hw199_6)).trans hw199_6), ((HB.out.cell (World.block_lt_of_cell? w _ hw199_7)).trans hw199_7), ((HB.out.cell (World.block_lt_of_cell? w _ hw199_8)).trans hw199_8), ((HB.out.cell (World.block_lt_of_cell? w _ hw199_9)).trans hw199_9), ((HB.out.cell (World.block_lt_of_cell? w _ hw199_10)).trans hw199_10), ((HB.out.cell (World.block_lt_of_cell? w _ hw199_11)).trans hw199_11), ((HB.out.cell (World.block_lt_of_cell? w _ hw199_12)).trans hw199_12), ((HB.out.cell (World.block_lt_of_cell? w _ hw199_13)).trans hw199_13), ((HB.out.cell (World.block_lt_of_cell? w _ hw200_0)).trans hw200_0), ((HB.out.cell (World.block_lt_of_cell? w _ hw200_1)).trans hw200_1), ((HB.out.cell (World.block_lt_of_cell? w _ hw200_2)).trans hw200_2), ((HB.out.cell (World.block_lt_of_cell? w _ hw200_3)).trans hw200_3), ((HB.out.cell (World.block_lt_of_cell? w _ hw200_4)).trans hw200_4), ((HB.out.cell (World.block_lt_of_cell? w _ hw200_5)).trans hw200_5), ((HB.out.cell (World.block_lt_of_cell? w _ hw200_6)).trans hw200_6), ((HB.out.cell (World.block_lt_of_cell? w _ hw200_7)).trans hw200_7), ((HB.out.cell (World.block_lt_of_cell? w _ hw200_8)).trans hw200_8), ((HB.out.cell (World.block_lt_of_cell? w _ hw200_9)).trans hw200_9), ((HB.out.cell (World.block_lt_of_cell? w _ hw200_10)).trans hw200_10), ((HB.out.cell (World.block_lt_of_cell? w _ hw200_11)).trans hw200_11), ((HB.out.cell (World.block_lt_of_cell? w _ hw200_12)).trans hw200_12), ((HB.out.cell (World.block_lt_of_cell? w _ hw200_13)).trans hw200_13)⟩ (fun hHeld => ?_)
                clear hK K
                refine norm_ (a' := ?_) ?_ ?_
                rotate_left
                · show Act.put _ (some 25) _ = _
                  simp only [Act.put, List.setIfInBounds_toArray, List.set_cons_zero, List.set_cons_succ, i64_w, i32_w]
                  rfl
                refine pure_ (i := 9) (N := some 26) (v := ?_) (a' := ?_) #[true, true, true, true, true, true, true, true, true, true] rfl rfl (any_of HT_.out (by kernel_rfl)) (fun _ _ _ h => h) (Or.inl ⟨by rfl, ?_⟩) ?_ ?_
                rotate_left
                · intro w'
                  go_simp
                  with_reducible rfl
                rotate_left
                · simp only [Act.put, List.setIfInBounds_toArray, List.set_cons_zero, List.set_cons_succ, i64_w, i32_w]
                  rfl
                refine done_ (done_of HT_.out (by kernel_rfl)) ?_
                try go_wp2
                go_roundg k1
                case measure => have := HK1.out; omega
                case rel => exact ⟨(wrap64 (x5_1 + 1)), sd_, H', ⟨by have := HK1.out; omega⟩, ⟨bb_⟩⟩
              · replace c8 := Bool.eq_false_iff.mpr c8
                subst c8
                have H1 : (some false) = some r := by rw [if_neg (show ¬ (false = true) by decide)] at H; exact H
                clear H
                have H := H1
                clear H1
                obtain rfl := Option.some.inj H
                try go_wp2
                have n0_ := Aside0.mk (below_drew1 HB.out)
                clear HB
                have HB := n0_
                clear n0_
                have p199 : 0 ≤ (x5_1 : Int) := of_decide_eq_true as_
                have q199 : x5_1 < (l0.length : Int) := of_decide_eq_true as_
                obtain ⟨ad199, A199_6, c199_6, A199_9, c199_9, A199_13, c199_13, e199, hx199_0, hx199_1, hx199_2, hx199_3, hx199_4, hx199_5, hx199_6, hx199_7, hx199_8, hx199_9, hx199_10, hx199_11, hx199_12, hx199_13, hl199_6, hi199_6, hl199_9, hi199_9, hl199_13, hi199_13⟩ := at_T136 HR0.out x5_1 p199 q199
                have hw199_13 := hx199_13
                have hw199_12 := hx199_12
                have hw199_11 := hx199_11
                have hw199_10 := hx199_10
                have hw199_9 := hx199_9
                have hw199_8 := hx199_8
                have hw199_7 := hx199_7
                have hw199_6 := hx199_6
                have hw199_5 := hx199_5
                have hw199_4 := hx199_4
                have hw199_3 := hx199_3
                have hw199_2 := hx199_2
                have hw199_1 := hx199_1
                have hw199_0 := hx199_0
                cases e199
                replace hx199_0 := (HB.out.cell (World.block_lt_of_cell? w _ hx199_0)).trans hx199_0
                replace hx199_1 := (HB.out.cell (World.block_lt_of_cell? w _ hx199_1)).trans hx199_1
                replace hx199_2 := (HB.out.cell (World.block_lt_of_cell? w _ hx199_2)).trans hx199_2
                replace hx199_3 := (HB.out.cell (World.block_lt_of_cell? w _ hx199_3)).trans hx199_3
                replace hx199_4 := (HB.out.cell (World.block_lt_of_cell? w _ hx199_4)).trans hx199_4
                replace hx199_5 := (HB.out.cell (World.block_lt_of_cell? w _ hx199_5)).trans hx199_5
                replace hx199_6 := (HB.out.cell (World.block_lt_of_cell? w _ hx199_6)).trans hx199_6
                replace hx199_7 := (HB.out.cell (World.block_lt_of_cell? w _ hx199_7)).trans hx199_7
                replace hx199_8 := (HB.out.cell (World.block_lt_of_cell? w _ hx199_8)).trans hx199_8
                replace hx199_9 := (HB.out.cell (World.block_lt_of_cell? w _ hx199_9)).trans hx199_9
                replace hx199_10 := (HB.out.cell (World.block_lt_of_cell? w _ hx199_10)).trans hx199_10
                replace hx199_11 := (HB.out.cell (World.block_lt_of_cell? w _ hx199_11)).trans hx199_11
                replace hx199_12 := (HB.out.cell (World.block_lt_of_cell? w _ hx199_12)).trans hx199_12
                replace hx199_13 := (HB.out.cell (World.block_lt_of_cell? w _ hx199_13)).trans hx199_13
                have HR199_6 := Aside0.mk hi199_6
                have HC199_6 := Aside0.mk hl199_6
                clear hi199_6 hl199_6
                have HR199_9 := Aside0.mk hi199_9
                have HC199_9 := Aside0.mk hl199_9
                clear hi199_9 hl199_9
                have HR199_13 := Aside0.mk hi199_13
                have HC199_13 := Aside0.mk hl199_13
                clear hi199_13 hl199_13
                replace p199 := eq_true p199
                replace q199 := eq_true q199
                have p200 : 0 ≤ (x5_1 : Int) := of_decide_eq_true as_
                have q200 : x5_1 < (l1.length : Int) := of_decide_eq_true as_
                obtain ⟨ad200, A200_6, c200_6, A200_9, c200_9, A200_13, c200_13, e200, hx200_0, hx200_1, hx200_2, hx200_3, hx200_4, hx200_5, hx200_6, hx200_7, hx200_8, hx200_9, hx200_10, hx200_11, hx200_12, hx200_13, hl200_6, hi200_6, hl200_9, hi200_9, hl200_13, hi200_13⟩ := at_T136 HR1.out x5_1 p200 q200
                have hw200_13 := hx200_13
                have hw200_12 := hx200_12
                have hw200_11 := hx200_11
                have hw200_10 := hx200_10
                have hw200_9 := hx200_9
                have hw200_8 := hx200_8
                have hw200_7 := hx200_7
                have hw200_6 := hx200_6
                have hw200_5 := hx200_5
                have hw200_4 := hx200_4
                have hw200_3 := hx200_3
                have hw200_2 := hx200_2
                have hw200_1 := hx200_1
                have hw200_0 := hx200_0
                cases e200
                replace hx200_0 := (HB.out.cell (World.block_lt_of_cell? w _ hx200_0)).trans hx200_0
                replace hx200_1 := (HB.out.cell (World.block_lt_of_cell? w _ hx200_1)).trans hx200_1
                replace hx200_2 := (HB.out.cell (World.block_lt_of_cell? w _ hx200_2)).trans hx200_2
                replace hx200_3 := (HB.out.cell (World.block_lt_of_cell? w _ hx200_3)).trans hx200_3
                replace hx200_4 := (HB.out.cell (World.block_lt_of_cell? w _ hx200_4)).trans hx200_4
                replace hx200_5 := (HB.out.cell (World.block_lt_of_cell? w _ hx200_5)).trans hx200_5
                replace hx200_6 := (HB.out.cell (World.block_lt_of_cell? w _ hx200_6)).trans hx200_6
                replace hx200_7 := (HB.out.cell (World.block_lt_of_cell? w _ hx200_7)).trans hx200_7
                replace hx200_8 := (HB.out.cell (World.block_lt_of_cell? w _ hx200_8)).trans hx200_8
                replace hx200_9 := (HB.out.cell (World.block_lt_of_cell? w _ hx200_9)).trans hx200_9
                replace hx200_10 := (HB.out.cell (World.block_lt_of_cell? w _ hx200_10)).trans hx200_10
                replace hx200_11 := (HB.out.cell (World.block_lt_of_cell? w _ hx200_11)).trans hx200_11
                replace hx200_12 := (HB.out.cell (World.block_lt_of_cell? w _ hx200_12)).trans hx200_12
                replace hx200_13 := (HB.out.cell (World.block_lt_of_cell? w _ hx200_13)).trans hx200_13
                have HR200_6 := Aside0.mk hi200_6
                have HC200_6 := Aside0.mk hl200_6
                clear hi200_6 hl200_6
                have HR200_9 := Aside0.mk hi200_9
                have HC200_9 := Aside0.mk hl200_9
                clear hi200_9 hl200_9
                have HR200_13 := Aside0.mk hi200_13
                have HC200_13 := Aside0.mk hl200_13
                clear hi200_13 hl200_13
                replace p200 := eq_true p200
                replace q200 := eq_true q200
                refine start_ (n := 10) (S := fun w' => w'.cell? (ad199.add ((x5_1).toNat * 14)) = some (.int .i64 ((rd_T136 l0 x5_1).f0)) ∧ w'.cell? ⟨(ad199.add ((x5_1).toNat * 14)).block, (ad199.add ((x5_1).toNat * 14)).off + 1, none⟩ = some (.int .i64 ((rd_T136 l0 x5_1).f1)) ∧ w'.cell? ⟨(ad199.add ((x5_1).toNat * 14)).block, (ad199.add ((x5_1).toNat * 14)).off + 2, none⟩ = some (.int .i64 ((rd_T136 l0 x5_1).f2)) ∧ w'.cell? ⟨(ad199.add ((x5_1).toNat * 14)).block, (ad199.add ((x5_1).toNat * 14)).off + 3, none⟩ = some (.int .i64 ((rd_T136 l0 x5_1).f3)) ∧ w'.cell? ⟨(ad199.add ((x5_1).toNat * 14)).block, (ad199.add ((x5_1).toNat * 14)).off + 4, none⟩ = some (.int .i64 ((rd_T136 l0 x5_1).f4)) ∧ w'.cell? ⟨(ad199.add ((x5_1).toNat * 14)).block, (ad199.add ((x5_1).toNat * 14)).off + 5, none⟩ = some (.int .i64 ((rd_T136 l0 x5_1).f5)) ∧ w'.cell? ⟨(ad199.add ((x5_1).toNat * 14)).block, (ad199.add ((x5_1).toNat * 14)).off + 6, none⟩ = some (.slice A199_6 ((rd_T136 l0 x5_1).f6.f0).length c199_6) ∧ w'.cell? ⟨(ad199.add ((x5_1).toNat * 14)).block, (ad199.add ((x5_1).toNat * 14)).off + 7, none⟩ = some (.bool ((rd_T136 l0 x5_1).f6.f1)) ∧ w'.cell? ⟨(ad199.add ((x5_1).toNat * 14)).block, (ad199.add ((x5_1).toNat * 14)).off + 8, none⟩ = some (.int .i64 ((rd_T136 l0 x5_1).f6.f2.f0)) ∧ w'.cell? ⟨(ad199.add ((x5_1).toNat * 14)).block, (ad199.add ((x5_1).toNat * 14)).off + 9, none⟩ = some (.slice A199_9 ((rd_T136 l0 x5_1).f6.f2.f1).length c199_9) ∧ w'.cell? ⟨(ad199.add ((x5_1).toNat * 14)).block, (ad199.add ((x5_1).toNat * 14)).off + 10, none⟩ = some (.int .i64 ((rd_T136 l0 x5_1).f6.f2.f2)) ∧ w'.cell? ⟨(ad199.add ((x5_1).toNat * 14)).block, (ad199.add ((x5_1).toNat * 14)).off + 11, none⟩ = some (.int .i64 ((rd_T136 l0 x5_1).f6.f2.f3)) ∧ w'.cell? ⟨(ad199.add ((x5_1).toNat * 14)).block, (ad199.add ((x5_1).toNat * 14)).off + 12, none⟩ = some (.int .i64 ((rd_T136 l0 x5_1).f6.f2.f4)) ∧ w'.cell? ⟨(ad199.add ((x5_1).toNat * 14)).block, (ad199.add ((x5_1).toNat * 14)).off + 13, none⟩ = some (.slice A199_13 ((rd_T136 l0 x5_1).f6.f3).length c199_13) ∧ w'.cell? (ad200.add ((x5_1).toNat * 14)) = some (.int .i64 ((rd_T136 l1 x5_1).f0)) ∧ w'.cell? ⟨(ad200.add ((x5_1).toNat * 14)).block, (ad200.add ((x5_1).toNat * 14)).off + 1, none⟩ = some (.int .i64 ((rd_T136 l1 x5_1).f1)) ∧ w'.cell? ⟨(ad200.add ((x5_1).toNat * 14)).block, (ad200.add ((x5_1).toNat * 14)).off + 2, none⟩ = some (.int .i64 ((rd_T136 l1 x5_1).f2)) ∧ w'.cell? ⟨(ad200.add ((x5_1).toNat * 14)).block, (ad200.add ((x5_1).toNat * 14)).off + 3, none⟩ = some (.int .i64 ((rd_T136 l1 x5_1).f3)) ∧ w'.cell? ⟨(ad200.add ((x5_1).toNat * 14)).block, (ad200.add ((x5_1).toNat * 14)).off + 4, none⟩ = some (.int .i64 ((rd_T136 l1 x5_1).f4)) ∧ w'.cell? ⟨(ad200.add ((x5_1).toNat * 14)).block, (ad200.add ((x5_1).toNat * 14)).off + 5, none⟩ = some (.int .i64 ((rd_T136 l1 x5_1).f5)) ∧ w'.cell? ⟨(ad200.add ((x5_1).toNat * 14)).block, (ad200.add ((x5_1).toNat * 14)).off + 6, none⟩ = some (.slice A200_6 ((rd_T136 l1 x5_1).f6.f0).length c200_6) ∧ w'.cell? ⟨(ad200.add ((x5_1).toNat * 14)).block, (ad200.add ((x5_1).toNat * 14)).off + 7, none⟩ = some (.bool ((rd_T136 l1 x5_1).f6.f1)) ∧ w'.cell? ⟨(ad200.add ((x5_1).toNat * 14)).block, (ad200.add ((x5_1).toNat * 14)).off + 8, none⟩ = some (.int .i64 ((rd_T136 l1 x5_1).f6.f2.f0)) ∧ w'.cell? ⟨(ad200.add ((x5_1).toNat * 14)).block, (ad200.add ((x5_1).toNat * 14)).off + 9, none⟩ = some (.slice A200_9 ((rd_T136 l1 x5_1).f6.f2.f1).length c200_9) ∧ w'.cell? ⟨(ad200.add ((x5_1).toNat * 14)).block, (ad200.add ((x5_1).toNat * 14)).off + 10, none⟩ = some (.int .i64 ((rd_T136 l1 x5_1).f6.f2.f2)) ∧ w'.cell? ⟨(ad200.add ((x5_1).toNat * 14)).block, (ad200.add ((x5_1).toNat * 14)).off + 11, none⟩ = some (.int .i64 ((rd_T136 l1 x5_1).f6.f2.f3)) ∧ w'.cell? ⟨(ad200.add ((x5_1).toNat * 14)).block, (ad200.add ((x5_1).toNat * 14)).off + 12, none⟩ = some (.int .i64 ((rd_T136 l1 x5_1).f6.f2.f4)) ∧ w'.cell? ⟨(ad200.add ((x5_1).toNat * 14)).block, (ad200.add ((x5_1).toNat * 14)).off + 13, none⟩ = some (.slice A200_13 ((rd_T136 l1 x5_1).f6.f3).length c200_13)) (ds := []) #[false, false, false, false, false, false, false, false, false, false] (by kernel_rfl) rfl rfl ⟨((HB.out.cell (World.block_lt_of_cell? w _ hw199_0)).trans hw199_0), ((HB.out.cell (World.block_lt_of_cell? w _ hw199_1)).trans hw199_1), ((HB.out.cell (World.block_lt_of_cell? w _ hw199_2)).trans hw199_2), ((HB.out.cell (World.block_lt_of_cell? w _ hw199_3)).trans hw199_3), ((HB.out.cell (World.block_lt_of_cell? w _ hw199_4)).trans hw199_4), ((HB.out.cell (World.block_lt_of_cell? w _ hw199_5)).trans hw199_5), ((HB.out.cell (World.block_lt_of_cell? w _ hw199_6)).trans hw199_6), ((HB.out.cell (World.block_lt_of_cell? w _ hw199_7)).trans hw199_7), ((HB.out.cell (World.block_lt_of_cell? w _ hw199_8)).trans hw199_8), ((HB.out.cell (World.block_lt_of_cell? w _ hw199_9)).trans hw199_9), ((HB.out.cell (World.block_lt_of_cell? w _ hw199_10)).trans hw199_10), ((HB.out.cell (World.block_lt_of_cell? w _ hw199_11)).trans hw199_11), ((HB.out.cell (World.block_lt_of_cell? w _ hw199_12)).trans hw199_12), ((HB.out.cell (World.block_lt_of_cell? w _ hw199_13)).trans hw199_13), ((HB.out.cell (World.block_lt_of_cell? w _ hw200_0)).trans hw200_0), ((HB.out.cell (World.block_lt_of_cell? w _ hw200_1)).trans hw200_1), ((HB.out.cell (World.block_lt_of_cell? w _ hw200_2)).trans hw200_2), ((HB.out.cell (World.block_lt_of_cell? w _ hw200_3)).trans hw200_3), ((HB.out.cell (World.block_lt_of_cell? w _ hw200_4)).trans hw200_4), ((HB.out.cell (World.block_lt_of_cell? w _ hw200_5)).trans hw200_5), ((HB.out.cell (World.block_lt_of_cell? w _ hw200_6)).trans hw200_6), ((HB.out.cell (World.block_lt_of_cell? w _ hw200_7)).trans hw200_7), ((HB.out.cell (World.block_lt_of_cell? w _ hw200_8)).trans hw200_8), ((HB.out.cell (World.block_lt_of_cell? w _ hw200_9)).trans hw200_9), ((HB.out.cell (World.block_lt_of_cell? w _ hw200_10)).trans hw200_10), ((HB.out.cell (World.block_lt_of_cell? w _ hw200_11)).trans hw200_11), ((HB.out.cell (World.block_lt_of_cell? w _ hw200_12)).trans hw200_12), ((HB.out.cell (World.block_lt_of_cell? w _ hw200_13)).trans hw200_13)⟩ (fun hHeld => ?_); refine with_tabW laws_eqMessageS.tab6 laws_eqMessageS.bits6 (fun HT_ HW_ => ?_)
                generalize wr.drew = w11 at HB HR199_13 HR199_6 HR199_9 HR200_13 HR200_6 HR200_9 hx199_0 hx199_1 hx199_10 hx199_11 hx199_12 hx199_13 hx199_2 hx199_3 hx199_4 hx199_5 hx199_6 hx199_7 hx199_8 hx199_9 hx200_0 hx200_1 hx200_10 hx200_11 hx200_12 hx200_13 hx200_2 hx200_3 hx200_4 hx200_5 hx200_6 hx200_7 hx200_8 hx200_9 hHeld ⊢
                refine pure_ (i := 0) (N := some 17) (v := ?_) (a' := ?_) #[true, false, false, false, false, false, false, false, false, false] rfl rfl (any_of HT_.out (by kernel_rfl)) (fun _ _ _ h => h) (Or.inl ⟨by rfl, ?_⟩) ?_ ?_
                rotate_left
                · intro w'
                  go_simp
                  with_reducible rfl
                rotate_left
                · simp only [Act.put, List.setIfInBounds_toArray, List.set_cons_zero, List.set_cons_succ, i64_w, i32_w]
                  rfl
                refine pure_ (i := 1) (N := some 18) (v := ?_) (a' := ?_) #[true, true, false, false, false, false, false, false, false, false] rfl rfl (any_of HT_.out (by kernel_rfl)) (fun _ _ _ h => h) (Or.inl ⟨by rfl, ?_⟩) ?_ ?_
                rotate_left
                · intro w'
                  go_simp
                  with_reducible rfl
                rotate_left
                · simp only [Act.put, List.setIfInBounds_toArray, List.set_cons_zero, List.set_cons_succ, i64_w, i32_w]
                  rfl
                refine pure_ (i := 2) (N := some 19) (v := ?_) (a' := ?_) #[true, true, true, false, false, false, false, false, false, false] rfl rfl (any_of HT_.out (by kernel_rfl)) (fun _ _ _ h => h) (Or.inl ⟨by rfl, ?_⟩) ?_ ?_
                rotate_left
                · intro w'
                  go_simp
                  with_reducible rfl
                rotate_left
                · simp only [Act.put, List.setIfInBounds_toArray, List.set_cons_zero, List.set_cons_succ, i64_w, i32_w]
                  rfl
                refine pure_ (i := 4) (N := some 21) (v := ?_) (a' := ?_) #[true, true, true, false, true, false, false, false, false, false] rfl rfl (any_of HT_.out (by kernel_rfl)) (fun _ _ _ h => h) (Or.inl ⟨by rfl, ?_⟩) ?_ ?_
                rotate_left
                · intro w'
                  go_simp
                  with_reducible rfl
                rotate_left
                · simp only [Act.put, List.setIfInBounds_toArray, List.set_cons_zero, List.set_cons_succ, i64_w, i32_w]
                  rfl
                refine pure_ (i := 5) (N := some 22) (v := ?_) (a' := ?_) #[true, true, true, false, true, true, false, false, false, false] rfl rfl (any_of HT_.out (by kernel_rfl)) (fun _ _ _ h => h) (Or.inl ⟨by rfl, ?_⟩) ?_ ?_
                rotate_left
                · intro w'
                  go_simp
                  with_reducible rfl
                rotate_left
                · simp only [Act.put, List.setIfInBounds_toArray, List.set_cons_zero, List.set_cons_succ, i64_w, i32_w]
                  rfl
                refine pure_ (i := 6) (N := some 23) (v := ?_) (a' := ?_) #[true, true, true, false, true, true, true, false, false, false] rfl rfl (any_of HT_.out (by kernel_rfl)) (fun _ _ _ h => h) (Or.inl ⟨by rfl, ?_⟩) ?_ ?_
                rotate_left
                · intro w'
                  go_simp
                  with_reducible rfl
                rotate_left
                · simp only [Act.put, List.setIfInBounds_toArray, List.set_cons_zero, List.set_cons_succ, i64_w, i32_w]
                  rfl
                refine take_ (i := 3) (N := some 20) (v := ?_) (a' := ?_) #[true, true, true, true, true, true, true, false, false, false] rfl rfl (take_ofW HT_.out HW_.out (by kernel_rfl)) (fun _ _ _ h => h) (Or.inl ⟨by rfl, ?_⟩) hHeld ?_ ?_
                rotate_left
                · rintro w' ⟨s0, s1, s2, s3, s4, s5, s6, s7, s8, s9, s10, s11, s12, s13, s14, s15, s16, s17, s18, s19, s20, s21, s22, s23, s24, s25, s26, s27⟩
                  go_simp
                  with_reducible rfl
                rotate_left
                · simp only [Act.put, List.setIfInBounds_toArray, List.set_cons_zero, List.set_cons_succ, i64_w, i32_w]
                  rfl
                refine take_ (i := 7) (N := some 24) (v := ?_) (a' := ?_) #[true, true, true, true, true, true, true, true, false, false] rfl rfl (take_ofW HT_.out HW_.out (by kernel_rfl)) (fun _ _ _ h => h) (Or.inl ⟨by rfl, ?_⟩) hHeld ?_ ?_
                rotate_left
                · rintro w' ⟨s0, s1, s2, s3, s4, s5, s6, s7, s8, s9, s10, s11, s12, s13, s14, s15, s16, s17, s18, s19, s20, s21, s22, s23, s24, s25, s26, s27⟩
                  go_simp
                  with_reducible rfl
                rotate_left
                · simp only [Act.put, List.setIfInBounds_toArray, List.set_cons_zero, List.set_cons_succ, i64_w, i32_w]
                  rfl
                refine one_ (i := 8) (N := some 25) #[true, true, true, true, true, true, true, true, true, false] rfl rfl (one_of HT_.out (by kernel_rfl)) (by decide) (fun K hK => ?_)
                refine goes_ Try.func143 (by kernel_rfl) rfl #[.agg #[.int .i64 ((rd_T136 l0 x5_1).f0), .int .i64 ((rd_T136 l0 x5_1).f1), .int .i64 ((rd_T136 l0 x5_1).f2), .int .i64 ((rd_T136 l0 x5_1).f3), .int .i64 ((rd_T136 l0 x5_1).f4), .int .i64 ((rd_T136 l0 x5_1).f5), .slice A199_6 ((rd_T136 l0 x5_1).f6.f0).length c199_6, .bool ((rd_T136 l0 x5_1).f6.f1), .int .i64 ((rd_T136 l0 x5_1).f6.f2.f0), .slice A199_9 ((rd_T136 l0 x5_1).f6.f2.f1).length c199_9, .int .i64 ((rd_T136 l0 x5_1).f6.f2.f2), .int .i64 ((rd_T136 l0 x5_1).f6.f2.f3), .int .i64 ((rd_T136 l0 x5_1).f6.f2.f4), .slice A199_13 ((rd_T136 l0 x5_1).f6.f3).length c199_13], .agg #[.int .i64 ((rd_T136 l1 x5_1).f0), .int .i64 ((rd_T136 l1 x5_1).f1), .int .i64 ((rd_T136 l1 x5_1).f2), .int .i64 ((rd_T136 l1 x5_1).f3), .int .i64 ((rd_T136 l1 x5_1).f4), .int .i64 ((rd_T136 l1 x5_1).f5), .slice A200_6 ((rd_T136 l1 x5_1).f6.f0).length c200_6, .bool ((rd_T136 l1 x5_1).f6.f1), .int .i64 ((rd_T136 l1 x5_1).f6.f2.f0), .slice A200_9 ((rd_T136 l1 x5_1).f6.f2.f1).length c200_9, .int .i64 ((rd_T136 l1 x5_1).f6.f2.f2), .int .i64 ((rd_T136 l1 x5_1).f6.f2.f3), .int .i64 ((rd_T136 l1 x5_1).f6.f2.f4), .slice A200_13 ((rd_T136 l1 x5_1).f6.f3).length c200_13]] (by rfl) rfl rfl (by (try simp only [List.map_toArray, List.map_cons, List.map_nil]); first | done | rfl | (simp only [List.length_drop, List.length_take]; rfl)) ?_
                with_reducible refine (laws_eqMessage.calls k1 ((rd_T136 l0 x5_1).f0) ((rd_T136 l0 x5_1).f1) ((rd_T136 l0 x5_1).f2) ((rd_T136 l0 x5_1).f3) ((rd_T136 l0 x5_1).f4) ((rd_T136 l0 x5_1).f5) _ _ ((rd_T136 l0 x5_1).f6.f0) ((rd_T136 l0 x5_1).f6.f1) ((rd_T136 l0 x5_1).f6.f2.f0) _ _ ((rd_T136 l0 x5_1).f6.f2.f1) ((rd_T136 l0 x5_1).f6.f2.f2) ((rd_T136 l0 x5_1).f6.f2.f3) ((rd_T136 l0 x5_1).f6.f2.f4) _ _ ((rd_T136 l0 x5_1).f6.f3) ((rd_T136 l1 x5_1).f0) ((rd_T136 l1 x5_1).f1) ((rd_T136 l1 x5_1).f2) ((rd_T136 l1 x5_1).f3) ((rd_T136 l1 x5_1).f4) ((rd_T136 l1 x5_1).f5) _ _ ((rd_T136 l1 x5_1).f6.f0) ((rd_T136 l1 x5_1).f6.f1) ((rd_T136 l1 x5_1).f6.f2.f0) _ _ ((rd_T136 l1 x5_1).f6.f2.f1) ((rd_T136 l1 x5_1).f6.f2.f2) ((rd_T136 l1 x5_1).f6.f2.f3) ((rd_T136 l1 x5_1).f6.f2.f4) _ _ ((rd_T136 l1 x5_1).f6.f3) false _ ?side1 ?side2 ?side3 ?side4 ?side5 ?side6 ?side7 ?side8 ?side9 ?side10 ?side11 ?side12 A7.out).mono ?_
                (case side1 => exact kc_ (Kd.C_below HR199_6.out HB.out))
                (case side2 => exact HC199_6.out)
                (case side3 => exact kc_ (Kd.C_below HR199_9.out HB.out))
                (case side4 => exact HC199_9.out)
                (case side5 => exact kc_ (Kd.C_below HR199_13.out HB.out))
                (case side6 => exact HC199_13.out)
                (case side7 => exact kc_ (Kd.C_below HR200_6.out HB.out))
                (case side8 => exact HC200_6.out)
                (case side9 => exact kc_ (Kd.C_below HR200_9.out HB.out))
                (case side10 => exact HC200_9.out)
                (case side11 => exact kc_ (Kd.C_below HR200_13.out HB.out))
                (case side12 => exact HC200_13.out)
                rintro e w12 ⟨rfl, hb⟩
                refine ⟨_, rfl, ?_⟩
                have n0_ := Aside0.mk (below_step bb_ hb)
                clear HB
                have HB := n0_
                clear n0_
                (try clear hb)
                (try clear hb2)
                (try clear hk)
                (try clear hi)
                refine hK.out _ _ ⟨((HB.out.cell (World.block_lt_of_cell? w _ hw199_0)).trans hw199_0), ((HB.out.cell (World.block_lt_of_cell? w _ hw199_1)).trans hw199_1), ((HB.out.cell (World.block_lt_of_cell? w _ hw199_2)).trans hw199_2), ((HB.out.cell (World.block_lt_of_cell? w _ hw199_3)).trans hw199_3), ((HB.out.cell (World.block_lt_of_cell? w _ hw199_4)).trans hw199_4), ((HB.out.cell (World.block_lt_of_cell? w _ hw199_5)).trans hw199_5), ((HB.out.cell (World.block_lt_of_cell? w _ hw199_6)).trans hw199_6), ((HB.out.cell (World.block_lt_of_cell? w _ hw199_7)).trans hw199_7), ((HB.out.cell (World.block_lt_of_cell? w _ hw199_8)).trans hw199_8), ((HB.out.cell (World.block_lt_of_cell? w _ hw199_9)).trans hw199_9), ((HB.out.cell (World.block_lt_of_cell? w _ hw199_10)).trans hw199_10), ((HB.out.cell (World.block_lt_of_cell? w _ hw199_11)).trans hw199_11), ((HB.out.cell (World.block_lt_of_cell? w _ hw199_12)).trans hw199_12), ((HB.out.cell (World.block_lt_of_cell? w _ hw199_13)).trans hw199_13), ((HB.out.cell (World.block_lt_of_cell? w _ hw200_0)).trans hw200_0), ((HB.out.cell (World.block_lt_of_cell? w _ hw200_1)).trans hw200_1), ((HB.out.cell (World.block_lt_of_cell? w _ hw200_2)).trans hw200_2), ((HB.out.cell (World.block_lt_of_cell? w _ hw200_3)).trans hw200_3), ((HB.out.cell (World.block_lt_of_cell? w _ hw200_4)).trans hw200_4), ((HB.out.cell (World.block_lt_of_cell? w _ hw200_5)).trans hw200_5), ((HB.out.cell (World.block_lt_of_cell? w _ hw200_6)).trans hw200_6), ((HB.out.cell (World.block_lt_of_cell? w _ hw200_7)).trans hw200_7), ((HB.out.cell (World.block_lt_of_cell? w _ hw200_8)).trans hw200_8), ((HB.out.cell (World.block_lt_of_cell? w _ hw200_9)).trans hw200_9), ((HB.out.cell (World.block_lt_of_cell? w _ hw200_10)).trans hw200_10), ((HB.out.cell (World.block_lt_of_cell? w _ hw200_11)).trans hw200_11), ((HB.out.cell (World.block_lt_of_cell? w _ hw200_12)).trans hw200_12), ((HB.out.cell (World.block_lt_of_cell? w _ hw200_13)).trans hw200_13)⟩ (fun hHeld => ?_)
                clear hK K
                refine norm_ (a' := ?_) ?_ ?_
                rotate_left
                · show Act.put _ (some 25) _ = _
                  simp only [Act.put, List.setIfInBounds_toArray, List.set_cons_zero, List.set_cons_succ, i64_w, i32_w]
                  rfl
                refine pure_ (i := 9) (N := some 26) (v := ?_) (a' := ?_) #[true, true, true, true, true, true, true, true, true, true] rfl rfl (any_of HT_.out (by kernel_rfl)) (fun _ _ _ h => h) (Or.inl ⟨by rfl, ?_⟩) ?_ ?_
                rotate_left
                · intro w'
                  go_simp
                  with_reducible rfl
                rotate_left
                · simp only [Act.put, List.setIfInBounds_toArray, List.set_cons_zero, List.set_cons_succ, i64_w, i32_w]
                  rfl
                refine done_ (done_of HT_.out (by kernel_rfl)) ?_
                try go_wp2
                go_ret
                exact ⟨er_, bb_⟩
            · rw [if_neg c6] at H
              exact absurd H (by simp)
          · rw [if_neg c5] at H
            exact absurd H (by simp)
        · rw [if_neg c4] at H
          have c4b0 : decide (x5_1 < (l0.length : Int)) = false := decide_eq_false c4
          clear c4
          obtain rfl := Option.some.inj H
          go_wp2
          go_ret
          exact ⟨er_, bb_⟩
  · rw [if_neg c3] at H
    have c3b0 : ((l0.length : Int) == (l1.length : Int)) = false := beq_eq_false_iff_ne.mpr c3
    have c3b1 : ((l0.length : Int) != (l1.length : Int)) = true := bne_iff_ne.mpr c3
    have c3b2 : (l0.length == l1.length) = false := by first | simpa using c3 | (simp at c3 ⊢; omega)
    obtain rfl := Option.some.inj H
    go_enter Try.func91, Try.ntmps91
    go_wp2
    go_ret
    exact ⟨er_, bb_⟩
end Go.Proofs.Ythmkjapmnlhflaa.PFnExactStartSession
