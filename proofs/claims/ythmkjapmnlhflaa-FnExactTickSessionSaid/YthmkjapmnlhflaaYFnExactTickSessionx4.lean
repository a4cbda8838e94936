/- The functions that the law FnExactTickSession reaches: each as a plain Lean function, with the proof that the call does what it says. -/
import Derived.Test.YthmkjapmnlhflaaYFnExactTickSessionx0
import Derived.Test.YthmkjapmnlhflaaYFnExactTickSessionx3
namespace Go.Proofs.Ythmkjapmnlhflaa.PFnExactTickSession
open Go.RowKit Go.Proofs.YthmkjapmnlhflaaW.PrintWords Go.Proofs.YthmkjapmnlhflaaW.PrintLast Go.Proofs.YthmkjapmnlhflaaW.PrintMore
attribute [local go_sem] max2_int min2_int max_two min_two max_three min_three max_four min_four
set_option linter.unusedVariables false
set_option linter.unusedSimpArgs false
def laws_eqMessageS.l0 : Nat → List (S136) → List (S136) → Int → Option (Bool)
  | 0, _, _, _ => none
  | k + 1, x0, x1, x5 => if x5 < (x0.length : Int) then (if 0 ≤ x5 then (if x5 < (x1.length : Int) then ((laws_eqMessage.f k ((rd_T136 x0 x5).f0) ((rd_T136 x0 x5).f1) ((rd_T136 x0 x5).f2) ((rd_T136 x0 x5).f3) ((rd_T136 x0 x5).f4) ((rd_T136 x0 x5).f5) ((rd_T136 x0 x5).f6.f0) ((rd_T136 x0 x5).f6.f1) ((rd_T136 x0 x5).f6.f2.f0) ((rd_T136 x0 x5).f6.f2.f1) ((rd_T136 x0 x5).f6.f2.f2) ((rd_T136 x0 x5).f6.f2.f3) ((rd_T136 x0 x5).f6.f2.f4) ((rd_T136 x0 x5).f6.f3) ((rd_T136 x1 x5).f0) ((rd_T136 x1 x5).f1) ((rd_T136 x1 x5).f2) ((rd_T136 x1 x5).f3) ((rd_T136 x1 x5).f4) ((rd_T136 x1 x5).f5) ((rd_T136 x1 x5).f6.f0) ((rd_T136 x1 x5).f6.f1) ((rd_T136 x1 x5).f6.f2.f0) ((rd_T136 x1 x5).f6.f2.f1) ((rd_T136 x1 x5).f6.f2.f2) ((rd_T136 x1 x5).f6.f2.f3) ((rd_T136 x1 x5).f6.f2.f4) ((rd_T136 x1 x5).f6.f3)).bind fun t129 => (if t129 = true then (laws_eqMessageS.l0 k x0 x1 (wrap64 (x5 + 1))) else (some false))) else (none)) else (none)) else (some true)
def laws_eqMessageS.f (k : Nat) (l0 : List (S136)) (l1 : List (S136)) : Option (Bool) := if (l0.length : Int) = (l1.length : Int) then (laws_eqMessageS.l0 k l0 l1 0) else (some false)
theorem laws_eqMessageS.mono_l : ∀ k, (∀ y0 y1 y2, LeO (laws_eqMessageS.l0 k y0 y1 y2) (laws_eqMessageS.l0 (k + 1) y0 y1 y2))
  | 0 => fun _ _ _ r h => by simp [laws_eqMessageS.l0] at h
  | k + 1 => by
    have ih0 := laws_eqMessageS.mono_l k
    · intro y0 y1 y2
      unfold laws_eqMessageS.l0
      repeat' first
      | (with_reducible exact ih0 _ _ _)
      | (with_reducible exact laws_eqMessage.mono _ _ _ _ _ _ _ _ _ _ _ _ _ _ _ _ _ _ _ _ _ _ _ _ _ _ _ _ _)
      | (with_reducible exact LeO.refl _)
      | (with_reducible exact LeO.none _)
      | (with_reducible refine LeO.ite ?_ ?_)
      | (with_reducible refine LeO.bind ?_ (fun _ => ?_))
      | exact ih0 _ _ _
      | exact laws_eqMessage.mono _ _ _ _ _ _ _ _ _ _ _ _ _ _ _ _ _ _ _ _ _ _ _ _ _ _ _ _ _
      | exact LeO.none _
      | refine LeO.ite ?_ ?_
      | refine LeO.bind ?_ (fun _ => ?_)
theorem laws_eqMessageS.mono : ∀ a0 a1 k, LeO (laws_eqMessageS.f k a0 a1) (laws_eqMessageS.f (k + 1) a0 a1) := by
  intro a0 a1 k
  have ih0 := laws_eqMessageS.mono_l k
  unfold laws_eqMessageS.f
  repeat' first
      | (with_reducible exact ih0 _ _ _)
      | (with_reducible exact laws_eqMessage.mono _ _ _ _ _ _ _ _ _ _ _ _ _ _ _ _ _ _ _ _ _ _ _ _ _ _ _ _ _)
      | (with_reducible exact LeO.refl _)
      | (with_reducible exact LeO.none _)
      | (with_reducible refine LeO.ite ?_ ?_)
      | (with_reducible refine LeO.bind ?_ (fun _ => ?_))
      | exact ih0 _ _ _
      | exact laws_eqMessage.mono _ _ _ _ _ _ _ _ _ _ _ _ _ _ _ _ _ _ _ _ _ _ _ _ _ _ _ _ _
      | exact LeO.none _
      | refine LeO.ite ?_ ?_
      | refine LeO.bind ?_ (fun _ => ?_)
def laws_eqMessageS.T6 : Bool × List (List Nat × List Nat) := (true, [([], []), ([], []), ([0, 1], [0, 1]), ([2], [2]), ([], []), ([], []), ([4, 5], [4, 5]), ([6], [6]), ([3, 7], [3, 7]), ([8], [8])])
def laws_eqMessageS.B6 : List Nat := [0, 0, 3, 7, 0, 0, 48, 112, 255, 511]
theorem laws_eqMessageS.tab6 : rtab .any (opsOf Try.f91 6) = laws_eqMessageS.T6 := by kernel_rfl
theorem laws_eqMessageS.bits6 : waitsOk laws_eqMessageS.T6.2 laws_eqMessageS.B6 = true := by kernel_rfl
set_option maxHeartbeats 8000000 in
set_option maxRecDepth 100000 in
theorem laws_eqMessageS.calls (k : Nat) (A0 : Option Addr) (c0 : Nat) (l0 : List (S136)) (A1 : Option Addr) (c1 : Nat) (l1 : List (S136)) (r : Bool) (w : World) (hr0 : Kd.C k136 w A0 l0.length l0) (hc0 : l0.length ≤ c0) (hr1 : Kd.C k136 w A1 l1.length l1) (hc1 : l1.length ≤ c1) (h : laws_eqMessageS.f k l0 l1 = some r) :
    Calls Try.prog 91 #[.slice A0 l0.length c0, .slice A1 l1.length c1] w fun e w' => e = .returned (.bool r) ∧ Below w.heap.size w w' := by
  have hu136 := Try.underlying136
  have HR0 := Aside0.mk hr0
  have HC0 := Aside0.mk hc0
  clear hr0 hc0
  have HR1 := Aside0.mk hr1
  have HC1 := Aside0.mk hc1
  clear hr1 hc1
  have HB := Aside0.mk (Below.refl w.heap.size w)
  have H : (if (l0.length : Int) = (l1.length : Int) then (laws_eqMessageS.l0 k l0 l1 0) else (some false)) = some r := h
  clear h
  by_cases c3 : (l0.length : Int) = (l1.length : Int)
  · rw [if_pos c3] at H
    have c3b0 : ((l0.length : Int) == (l1.length : Int)) = true := beq_iff_eq.mpr c3
    have c3b1 : ((l0.length : Int) != (l1.length : Int)) = false := bne_eq_false_iff_eq.mpr c3
    have c3b2 : (l0.length == l1.length) = true := by first | simpa using c3 | (simp at c3 ⊢; omega)
    clear c3
    have H' := Aside0.mk H
    clear H
    go_enter Try.func91, Try.ntmps91
    go_wp2
    go_loopg [5] k (fun kq v5 w' => ∃ (x5_1 : Int), v5 = .int .i64 x5_1 ∧ Aside0 (laws_eqMessageS.l0 kq l0 l1 x5_1 = some r) ∧ Aside0 (kq ≤ k) ∧ Aside0 (Below w.heap.size w w'))
    case atStart => exact ⟨(0), sd_, H', ⟨Nat.le_refl _⟩, ⟨bb_⟩⟩
    case round =>
      clear H'
      try clear c1
      try clear p2
      try clear c3
      try clear c3b0
      try clear c3b1
      try clear c3b2
      obtain ⟨x5_1, rfl, HA, HK1, HB⟩ := hrel
      cases gk with
      | zero => exact absurd HA.out (by simp [laws_eqMessageS.l0])
      | succ k1 =>
        have H := HA.out
        clear HA
        simp only [laws_eqMessageS.l0] at H
        by_cases c4 : x5_1 < (l0.length : Int)
        · rw [if_pos c4] at H
          have c4b0 : decide (x5_1 < (l0.length : Int)) = true := decide_eq_true c4
          clear c4
          by_cases c5 : 0 ≤ x5_1
          · rw [if_pos c5] at H
            have c5b0 : decide (0 ≤ x5_1) = true := decide_eq_true c5
            clear c5
            by_cases c6 : x5_1 < (l1.length : Int)
            · rw [if_pos c6] at H
              have c6b0 : decide (x5_1 < (l1.length : Int)) = true := decide_eq_true c6
              clear c6
              replace H := Option.bind_eq_some_iff.mp H
              obtain ⟨t129, A70, H⟩ := H
              replace H : (if t129 = true then (laws_eqMessageS.l0 k1 l0 l1 (wrap64 (x5_1 + 1))) else (some false)) = some r := H
              have A7 := Aside0.mk A70
              clear A70
              by_cases c8 : t129 = true
              · subst c8
                have H1 : (laws_eqMessageS.l0 k1 l0 l1 (wrap64 (x5_1 + 1))) = some r := by rw [if_pos rfl] at H; exact H
                clear H
                have H := H1
                clear H1
                have H' := Aside0.mk H
                clear H
                try go_wp2
                have n0_ := Aside0.mk (below_drew1 HB.out)
                clear HB
                have HB := n0_
                clear n0_
                have p127 : 0 ≤ (x5_1 : Int) := of_decide_eq_true as_
                have q127 : x5_1 < (l0.length : Int) := of_decide_eq_true as_
                obtain ⟨ad127, A127_6, c127_6, A127_9, c127_9, A127_13, c127_13, e127, hx127_0, hx127_1, hx127_2, hx127_3, hx127_4, hx127_5, hx127_6, hx127_7, hx127_8, hx127_9, hx127_10, hx127_11, hx127_12, hx127_13, hl127_6, hi127_6, hl127_9, hi127_9, hl127_13, hi127_13⟩ := at_T136 HR0.out x5_1 p127 q127
                have hw127_13 := hx127_13
                have hw127_12 := hx127_12
                have hw127_11 := hx127_11
                have hw127_10 := hx127_10
                have hw127_9 := hx127_9
                have hw127_8 := hx127_8
                have hw127_7 := hx127_7
                have hw127_6 := hx127_6
                have hw127_5 := hx127_5
                have hw127_4 := hx127_4
                have hw127_3 := hx127_3
                have hw127_2 := hx127_2
                have hw127_1 := hx127_1
                have hw127_0 := hx127_0
                cases e127
                replace hx127_0 := (HB.out.cell (World.block_lt_of_cell? w _ hx127_0)).trans hx127_0
                replace hx127_1 := (HB.out.cell (World.block_lt_of_cell? w _ hx127_1)).trans hx127_1
                replace hx127_2 := (HB.out.cell (World.block_lt_of_cell? w _ hx127_2)).trans hx127_2
                replace hx127_3 := (HB.out.cell (World.block_lt_of_cell? w _ hx127_3)).trans hx127_3
                replace hx127_4 := (HB.out.cell (World.block_lt_of_cell? w _ hx127_4)).trans hx127_4
                replace hx127_5 := (HB.out.cell (World.block_lt_of_cell? w _ hx127_5)).trans hx127_5
                replace hx127_6 := (HB.out.cell (World.block_lt_of_cell? w _ hx127_6)).trans hx127_6
                replace hx127_7 := (HB.out.cell (World.block_lt_of_cell? w _ hx127_7)).trans hx127_7
                replace hx127_8 := (HB.out.cell (World.block_lt_of_cell? w _ hx127_8)).trans hx127_8
                replace hx127_9 := (HB.out.cell (World.block_lt_of_cell? w _ hx127_9)).trans hx127_9
                replace hx127_10 := (HB.out.cell (World.block_lt_of_cell? w _ hx127_10)).trans hx127_10
                replace hx127_11 := (HB.out.cell (World.block_lt_of_cell? w _ hx127_11)).trans hx127_11
                replace hx127_12 := (HB.out.cell (World.block_lt_of_cell? w _ hx127_12)).trans hx127_12
                replace hx127_13 := (HB.out.cell (World.block_lt_of_cell? w _ hx127_13)).trans hx127_13
                have HR127_6 := Aside0.mk hi127_6
                have HC127_6 := Aside0.mk hl127_6
                clear hi127_6 hl127_6
                have HR127_9 := Aside0.mk hi127_9
                have HC127_9 := Aside0.mk hl127_9
                clear hi127_9 hl127_9
                have HR127_13 := Aside0.mk hi127_13
                have HC127_13 := Aside0.mk hl127_13
                clear hi127_13 hl127_13
                replace p127 := eq_true p127
                replace q127 := eq_true q127
                have p128 : 0 ≤ (x5_1 : Int) := of_decide_eq_true as_
                have q128 : x5_1 < (l1.length : Int) := of_decide_eq_true as_
                obtain ⟨ad128, A128_6, c128_6, A128_9, c128_9, A128_13, c128_13, e128, hx128_0, hx128_1, hx128_2, hx128_3, hx128_4, hx128_5, hx128_6, hx128_7, hx128_8, hx128_9, hx128_10, hx128_11, hx128_12, hx128_13, hl128_6, hi128_6, hl128_9, hi128_9, hl128_13, hi128_13⟩ := at_T136 HR1.out x5_1 p128 q128
                have hw128_13 := hx128_13
                have hw128_12 := hx128_12
                have hw128_11 := hx128_11
                have hw128_10 := hx128_10
                have hw128_9 := hx128_9
                have hw128_8 := hx128_8
                have hw128_7 := hx128_7
                have hw128_6 := hx128_6
                have hw128_5 := hx128_5
                have hw128_4 := hx128_4
                have hw128_3 := hx128_3
                have hw128_2 := hx128_2
                have hw128_1 := hx128_1
                have hw128_0 := hx128_0
                cases e128
                replace hx128_0 := (HB.out.cell (World.block_lt_of_cell? w _ hx128_0)).trans hx128_0
                replace hx128_1 := (HB.out.cell (World.block_lt_of_cell? w _ hx128_1)).trans hx128_1
                replace hx128_2 := (HB.out.cell (World.block_lt_of_cell? w _ hx128_2)).trans hx128_2
                replace hx128_3 := (HB.out.cell (World.block_lt_of_cell? w _ hx128_3)).trans hx128_3
                replace hx128_4 := (HB.out.cell (World.block_lt_of_cell? w _ hx128_4)).trans hx128_4
                replace hx128_5 := (HB.out.cell (World.block_lt_of_cell? w _ hx128_5)).trans hx128_5
                replace hx128_6 := (HB.out.cell (World.block_lt_of_cell? w _ hx128_6)).trans hx128_6
                replace hx128_7 := (HB.out.cell (World.block_lt_of_cell? w _ hx128_7)).trans hx128_7
                replace hx128_8 := (HB.out.cell (World.block_lt_of_cell? w _ hx128_8)).trans hx128_8
                replace hx128_9 := (HB.out.cell (World.block_lt_of_cell? w _ hx128_9)).trans hx128_9
                replace hx128_10 := (HB.out.cell (World.block_lt_of_cell? w _ hx128_10)).trans hx128_10
                replace hx128_11 := (HB.out.cell (World.block_lt_of_cell? w _ hx128_11)).trans hx128_11
                replace hx128_12 := (HB.out.cell (World.block_lt_of_cell? w _ hx128_12)).trans hx128_12
                replace hx128_13 := (HB.out.cell (World.block_lt_of_cell? w _ hx128_13)).trans hx128_13
                have HR128_6 := Aside0.mk hi128_6
                have HC128_6 := Aside0.mk hl128_6
                clear hi128_6 hl128_6
                have HR128_9 := Aside0.mk hi128_9
                have HC128_9 := Aside0.mk hl128_9
                clear hi128_9 hl128_9
                have HR128_13 := Aside0.mk hi128_13
                have HC128_13 := Aside0.mk hl128_13
                clear hi128_13 hl128_13
                replace p128 := eq_true p128
                replace q128 := eq_true q128
                refine start_ (n := 10) (S := fun w' => w'.cell? (ad127.add ((x5_1).toNat * 14)) = some (.int .i64 ((rd_T136 l0 x5_1).f0)) ∧ w'.cell? ⟨(ad127.add ((x5_1).toNat * 14)).block, (ad127.add ((x5_1).toNat * 14)).off + 1, none⟩ = some (.int .i64 ((rd_T136 l0 x5_1).f1)) ∧ w'.cell? ⟨(ad127.add ((x5_1).toNat * 14)).block, (ad127.add ((x5_1).toNat * 14)).off + 2, none⟩ = some (.int .i64 ((rd_T136 l0 x5_1).f2)) ∧ w'.cell? ⟨(ad127.add ((x5_1).toNat * 14)).block, (ad127.add ((x5_1).toNat * 14)).off + 3, none⟩ = some (.int .i64 ((rd_T136 l0 x5_1).f3)) ∧ w'.cell? ⟨(ad127.add ((x5_1).toNat * 14)).block, (ad127.add ((x5_1).toNat * 14)).off + 4, none⟩ = some (.int .i64 ((rd_T136 l0 x5_1).f4)) ∧ w'.cell? ⟨(ad127.add ((x5_1).toNat * 14)).block, (ad127.add ((x5_1).toNat * 14)).off + 5, none⟩ = some (.int .i64 ((rd_T136 l0 x5_1).f5)) ∧ w'.cell? ⟨(ad127.add ((x5_1).toNat * 14)).block, (ad127.add ((x5_1).toNat * 14)).off + 6, none⟩ = some (.slice A127_6 ((rd_T136 l0 x5_1).f6.f0).length c127_6) ∧ w'.cell? ⟨(ad127.add ((x5_1).toNat * 14)).block, (ad127.add ((x5_1).toNat * 14)).off + 7, none⟩ = some (.bool ((rd_T136 l0 x5_1).f6.f1)) ∧ w'.cell? ⟨(ad127.add ((x5_1).toNat * 14)).block, (ad127.add ((x5_1).toNat * 14)).off + 8, none⟩ = some (.int .i64 ((rd_T136 l0 x5_1).f6.f2.f0)) ∧ w'.cell? ⟨(ad127.add ((x5_1).toNat * 14)).block, (ad127.add ((x5_1).toNat * 14)).off + 9, none⟩ = some (.slice A127_9 ((rd_T136 l0 x5_1).f6.f2.f1).length c127_9) ∧ w'.cell? ⟨(ad127.add ((x5_1).toNat * 14)).block, (ad127.add ((x5_1).toNat * 14)).off + 10, none⟩ = some (.int .i64 ((rd_T136 l0 x5_1).f6.f2.f2)) ∧ w'.cell? ⟨(ad127.add ((x5_1).toNat * 14)).block, (ad127.add ((x5_1).toNat * 14)).off + 11, none⟩ = some (.int .i64 ((rd_T136 l0 x5_1).f6.f2.f3)) ∧ w'.cell? ⟨(ad127.add ((x5_1).toNat * 14)).block, (ad127.add ((x5_1).toNat * 14)).off + 12, none⟩ = some (.int .i64 ((rd_T136 l0 x5_1).f6.f2.f4)) ∧ w'.cell? ⟨(ad127.add ((x5_1).toNat * 14)).block, (ad127.add ((x5_1).toNat * 14)).off + 13, none⟩ = some (.slice A127_13 ((rd_T136 l0 x5_1).f6.f3).length c127_13) ∧ w'.cell? (ad128.add ((x5_1).toNat * 14)) = some (.int .i64 ((rd_T136 l1 x5_1).f0)) ∧ w'.cell? ⟨(ad128.add ((x5_1).toNat * 14)).block, (ad128.add ((x5_1).toNat * 14)).off + 1, none⟩ = some (.int .i64 ((rd_T136 l1 x5_1).f1)) ∧ w'.cell? ⟨(ad128.add ((x5_1).toNat * 14)).block, (ad128.add ((x5_1).toNat * 14)).off + 2, none⟩ = some (.int .i64 ((rd_T136 l1 x5_1).f2)) ∧ w'.cell? ⟨(ad128.add ((x5_1).toNat * 14)).block, (ad128.add ((x5_1).toNat * 14)).off + 3, none⟩ = some (.int .i64 ((rd_T136 l1 x5_1).f3)) ∧ w'.cell? ⟨(ad128.add ((x5_1).toNat * 14)).block, (ad128.add ((x5_1).toNat * 14)).off + 4, none⟩ = some (.int .i64 ((rd_T136 l1 x5_1).f4)) ∧ w'.cell? ⟨(ad128.add ((x5_1).toNat * 14)).block, (ad128.add ((x5_1).toNat * 14)).off + 5, none⟩ = some (.int .i64 ((rd_T136 l1 x5_1).f5)) ∧ w'.cell? ⟨(ad128.add ((x5_1).toNat * 14)).block, (ad128.add ((x5_1).toNat * 14)).off + 6, none⟩ = some (.slice A128_6 ((rd_T136 l1 x5_1).f6.f0).length c128_6) ∧ w'.cell? ⟨(ad128.add ((x5_1).toNat * 14)).block, (ad128.add ((x5_1).toNat * 14)).off + 7, none⟩ = some (.bool ((rd_T136 l1 x5_1).f6.f1)) ∧ w'.cell? ⟨(ad128.add ((x5_1).toNat * 14)).block, (ad128.add ((x5_1).toNat * 14)).off + 8, none⟩ = some (.int .i64 ((rd_T136 l1 x5_1).f6.f2.f0)) ∧ w'.cell? ⟨(ad128.add ((x5_1).toNat * 14)).block, (ad128.add ((x5_1).toNat * 14)).off + 9, none⟩ = some (.slice A128_9 ((rd_T136 l1 x5_1).f6.f2.f1).length c128_9) ∧ w'.cell? ⟨(ad128.add ((x5_1).toNat * 14)).block, (ad128.add ((x5_1).toNat * 14)).off + 10, none⟩ = some (.int .i64 ((rd_T136 l1 x5_1).f6.f2.f2)) ∧ w'.cell? ⟨(ad128.add ((x5_1).toNat * 14)).block, (ad128.add ((x5_1).toNat * 14)).off + 11, none⟩ = some (.int .i64 ((rd_T136 l1 x5_1).f6.f2.f3)) ∧ w'.cell? ⟨(ad128.add ((x5_1).toNat * 14)).block, (ad128.add ((x5_1).toNat * 14)).off + 12, none⟩ = some (.int .i64 ((rd_T136 l1 x5_1).f6.f2.f4)) ∧ w'.cell? ⟨(ad128.add ((x5_1).toNat * 14)).block, (ad128.add ((x5_1).toNat * 14)).off + 13, none⟩ = some (.slice A128_13 ((rd_T136 l1 x5_1).f6.f3).length c128_13)) (ds := []) #[false, false, false, false, false, false, false, false, false, false] (by kernel_rfl) rfl rfl ⟨((HB.out.cell (World.block_lt_of_cell? w _ hw127_0)).trans hw127_0), ((HB.out.cell (World.block_lt_of_cell? w _ hw127_1)).trans hw127_1), ((HB.out.cell (World.block_lt_of_cell? w _ hw127_2)).trans hw127_2), ((HB.out.cell (World.block_lt_of_cell? w _ hw127_3)).trans hw127_3), ((HB.out.cell (World.block_lt_of_cell? w _ hw127_4)).trans hw127_4), ((HB.out.cell (World.block_lt_of_cell? w _ hw127_5)).trans hw127_5), ((HB.out.cell (World.block_lt_of_cell? w _ hw127_6)).trans hw127_6), ((HB.out.cell (World.block_lt_of_cell? w _ hw127_7)).trans hw127_7), ((HB.out.cell (World.block_lt_of_cell? w _ hw127_8)).trans hw127_8), ((HB.out.cell (World.block_lt_of_cell? w _ hw127_9)).trans hw127_9), ((HB.out.cell (World.block_lt_of_cell? w _ hw127_10)).trans hw127_10), ((HB.out.cell (World.block_lt_of_cell? w _ hw127_11)).trans hw127_11), ((HB.out.cell (World.block_lt_of_cell? w _ hw127_12)).trans hw127_12), ((HB.out.cell (World.block_lt_of_cell? w _ hw127_13)).trans hw127_13), ((HB.out.cell (World.block_lt_of_cell? w _ hw128_0)).trans hw128_0), ((HB.out.cell (World.block_lt_of_cell? w _ hw128_1)).trans hw128_1), ((HB.out.cell (World.block_lt_of_cell? w _ hw128_2)).trans hw128_2), ((HB.out.cell (World.block_lt_of_cell? w _ hw128_3)).trans hw128_3), ((HB.out.cell (World.block_lt_of_cell? w _ hw128_4)).trans hw128_4), ((HB.out.cell (World.block_lt_of_cell? w _ hw128_5)).trans hw128_5), ((HB.out.cell (World.block_lt_of_cell? w _ hw128_6)).trans hw128_6), ((HB.out.cell (World.block_lt_of_cell? w _ hw128_7)).trans hw128_7), ((HB.out.cell (World.block_lt_of_cell? w _ hw128_8)).trans hw128_8), ((HB.out.cell (World.block_lt_of_cell? w _ hw128_9)).trans hw128_9), ((HB.out.cell (World.block_lt_of_cell? w _ hw128_10)).trans hw128_10), ((HB.out.cell (World.block_lt_of_cell? w _ hw128_11)).trans hw128_11), ((HB.out.cell (World.block_lt_of_cell? w _ hw128_12)).trans hw128_12), ((HB.out.cell (World.block_lt_of_cell? w _ hw128_13)).trans hw128_13)⟩ (fun hHeld => ?_); refine with_tabW laws_eqMessageS.tab6 laws_eqMessageS.bits6 (fun HT_ HW_ => ?_)
                generalize wr.drew = w9 at HB HR127_13 HR127_6 HR127_9 HR128_13 HR128_6 HR128_9 hx127_0 hx127_1 hx127_10 hx127_11 hx127_12 hx127_13 hx127_2 hx127_3 hx127_4 hx127_5 hx127_6 hx127_7 hx127_8 hx127_9 hx128_0 hx128_1 hx128_10 hx128_11 hx128_12 hx128_13 hx128_2 hx128_3 hx128_4 hx128_5 hx128_6 hx128_7 hx128_8 hx128_9 hHeld ⊢
                refine pure_ (i := 0) (N := some 17) (v := ?_) (a' := ?_) #[true, false, false, false, false, false, false, false, false, false] rfl rfl (any_of HT_.out (by kernel_rfl)) (fun _ _ _ h => h) (Or.inl ⟨by rfl, ?_⟩) ?_ ?_
                rotate_left
                · intro w'
                  go_simp
                  with_reducible rfl
                rotate_left
                · simp only [Act.put, List.setIfInBounds_toArray, List.set_cons_zero, List.set_cons_succ, i64_w, i32_w]
                  rfl
                refine pure_ (i := 1) (N := some 18) (v := ?_) (a' := ?_) #[true, true, false, false, false, false, false, false, false, false] rfl rfl (any_of HT_.out (by kernel_rfl)) (fun _ _ _ h => h) (Or.inl ⟨by rfl, ?_⟩) ?_ ?_
                rotate_left
                · intro w'
                  go_simp
                  with_reducible rfl
                rotate_left
                · simp only [Act.put, List.setIfInBounds_toArray, List.set_cons_zero, List.set_cons_succ, i64_w, i32_w]
                  rfl
                refine pure_ (i := 2) (N := some 19) (v := ?_) (a' := ?_) #[true, true, true, false, false, false, false, false, false, false] rfl rfl (any_of HT_.out (by kernel_rfl)) (fun _ _ _ h => h) (Or.inl ⟨by rfl, ?_⟩) ?_ ?_
                rotate_left
                · intro w'
                  go_simp
                  with_reducible rfl
                rotate_left
                · simp only [Act.put, List.setIfInBounds_toArray, List.set_cons_zero, List.set_cons_succ, i64_w, i32_w]
                  rfl
                refine pure_ (i := 4) (N := some 21) (v := ?_) (a' := ?_) #[true, true, true, false, true, false, false, false, false, false] rfl rfl (any_of HT_.out (by kernel_rfl)) (fun _ _ _ h => h) (Or.inl ⟨by rfl, ?_⟩) ?_ ?_
                rotate_left
                · intro w'
                  go_simp
                  with_reducible rfl
                rotate_left
                · simp only [Act.put, List.setIfInBounds_toArray, List.set_cons_zero, List.set_cons_succ, i64_w, i32_w]
                  rfl
                refine pure_ (i := 5) (N := some 22) (v := ?_) (a' := ?_) #[true, true, true, false, true, true, false, false, false, false] rfl rfl (any_of HT_.out (by kernel_rfl)) (fun _ _ _ h => h) (Or.inl ⟨by rfl, ?_⟩) ?_ ?_
                rotate_left
                · intro w'
                  go_simp
                  with_reducible rfl
                rotate_left
                · simp only [Act.put, List.setIfInBounds_toArray, List.set_cons_zero, List.set_cons_succ, i64_w, i32_w]
                  rfl
                refine pure_ (i := 6) (N := some 23) (v := ?_) (a' := ?_) #[true, true, true, false, true, true, true, false, false, false] rfl rfl (any_of HT_.out (by kernel_rfl)) (fun _ _ _ h => h) (Or.inl ⟨by rfl, ?_⟩) ?_ ?_
                rotate_left
                · intro w'
                  go_simp
                  with_reducible rfl
                rotate_left
                · simp only [Act.put, List.setIfInBounds_toArray, List.set_cons_zero, List.set_cons_succ, i64_w, i32_w]
                  rfl
                refine take_ (i := 3) (N := some 20) (v := ?_) (a' := ?_) #[true, true, true, true, true, true, true, false, false, false] rfl rfl (take_ofW HT_.out HW_.out (by kernel_rfl)) (fun _ _ _ h => h) (Or.inl ⟨by rfl, ?_⟩) hHeld ?_ ?_
                rotate_left
                · rintro w' ⟨s0, s1, s2, s3, s4, s5, s6, s7, s8, s9, s10, s11, s12, s13, s14, s15, s16, s17, s18, s19, s20, s21, s22, s23, s24, s25, s26, s27⟩
                  go_simp
                  with_reducible rfl
                rotate_left
                · simp only [Act.put, List.setIfInBounds_toArray, List.set_cons_zero, List.set_cons_succ, i64_w, i32_w]
                  rfl
                refine take_ (i := 7) (N := some 24) (v := ?_) (a' := ?_) #[true, true, true, true, true, true, true, true, false, false] rfl rfl (take_ofW HT_.out HW_.out (by kernel_rfl)) (fun _ _ _ h => h) (Or.inl ⟨by rfl, ?_⟩) hHeld ?_ ?_
                rotate_left
                · rintro w' ⟨s0, s1, s2, s3, s4, s5, s6, s7, s8, s9, s10, s11, s12, s13, s14, s15, s16, s17, s18, s19, s20, s21, s22, s23, s24, s25, s26, s27⟩
                  go_simp
                  with_reducible rfl
                rotate_left
                · simp only [Act.put, List.setIfInBounds_toArray, List.set_cons_zero, List.set_cons_succ, i64_w, i32_w]
                  rfl
                refine one_ (i := 8) (N := some 25) #[true, true, true, true, true, true, true, true, true, false] rfl rfl (one_of HT_.out (by kernel_rfl)) (by decide) (fun K hK => ?_)
                refine goes_ Try.func143 (by kernel_rfl) rfl #[.agg #[.int .i64 ((rd_T136 l0 x5_1).f0), .int .i64 ((rd_T136 l0 x5_1).f1), .int .i64 ((rd_T136 l0 x5_1).f2), .int .i64 ((rd_T136 l0 x5_1).f3), .int .i64 ((rd_T136 l0 x5_1).f4), .int .i64 ((rd_T136 l0 x5_1).f5), .slice A127_6 ((rd_T136 l0 x5_1).f6.f0).length c127_6, .bool ((rd_T136 l0 x5_1).f6.f1), .int .i64 ((rd_T136 l0 x5_1).f6.f2.f0), .slice A127_9 ((rd_T136 l0 x5_1).f6.f2.f1).length c127_9, .int .i64 ((rd_T136 l0 x5_1).f6.f2.f2), .int .i64 ((rd_T136 l0 x5_1).f6.f2.f3), .int .i64 ((rd_T136 l0 x5_1).f6.f2.f4), .slice A127_13 ((rd_T136 l0 x5_1).f6.f3).length c127_13], .agg #[.int .i64 ((rd_T136 l1 x5_1).f0), .int .i64 ((rd_T136 l1 x5_1).f1), .int .i64 ((rd_T136 l1 x5_1).f2), .int .i64 ((rd_T136 l1 x5_1).f3), .int .i64 ((rd_T136 l1 x5_1).f4), .int .i64 ((rd_T136 l1 x5_1).f5), .slice A128_6 ((rd_T136 l1 x5_1).f6.f0).length c128_6, .bool ((rd_T136 l1 x5_1).f6.f1), .int .i64 ((rd_T136 l1 x5_1).f6.f2.f0), .slice A128_9 ((rd_T136 l1 x5_1).f6.f2.f1).length c128_9, .int .i64 ((rd_T136 l1 x5_1).f6.f2.f2), .int .i64 ((rd_T136 l1 x5_1).f6.f2.f3), .int .i64 ((rd_T136 l1 x5_1).f6.f2.f4), .slice A128_13 ((rd_T136 l1 x5_1).f6.f3).length c128_13]] (by rfl) rfl rfl (by (try simp only [List.map_toArray, List.map_cons, List.map_nil]); first | done | rfl | (simp only [List.length_drop, List.length_take]; rfl)) ?_
                with_reducible refine (laws_eqMessage.calls k1 ((rd_T136 l0 x5_1).f0) ((rd_T136 l0 x5_1).f1) ((rd_T136 l0 x5_1).f2) ((rd_T136 l0 x5_1).f3) ((rd_T136 l0 x5_1).f4) ((rd_T136 l0 x5_1).f5) _ _ ((rd_T136 l0 x5_1).f6.f0) ((rd_T136 l0 x5_1).f6.f1) ((rd_T136 l0 x5_1).f6.f2.f0) _ _ ((rd_T136 l0 x5_1).f6.f2.f1) ((rd_T136 l0 x5_1).f6.f2.f2) ((rd_T136 l0 x5_1).f6.f2.f3) ((rd_T136 l0 x5_1).f6.f2.f4) _ _ ((rd_T136 l0 x5_1).f6.f3) ((rd_T136 l1 x5_1).f0) ((rd_T136 l1 x5_1).f1) ((rd_T136 l1 x5_1).f2) ((rd_T136 l1 x5_1).f3) ((rd_T136 l1 x5_1).f4) ((rd_T136 l1 x5_1).f5) _ _ ((rd_T136 l1 x5_1).f6.f0) ((rd_T136 l1 x5_1).f6.f1) ((rd_T136 l1 x5_1).f6.f2.f0) _ _ ((rd_T136 l1 x5_1).f6.f2.f1) ((rd_T136 l1 x5_1).f6.f2.f2) ((rd_T136 l1 x5_1).f6.f2.f3) ((rd_T136 l1 x5_1).f6.f2.f4) _ _ ((rd_T136 l1 x5_1).f6.f3) true _ ?side1 ?side2 ?side3 ?side4 ?side5 ?side6 ?side7 ?side8 ?side9 ?side10 ?side11 ?side12 A7.out).mono ?_
                (case side1 => exact kc_ (Kd.C_below HR127_6.out HB.out))
                (case side2 => exact HC127_6.out)
                (case side3 => exact kc_ (Kd.C_below HR127_9.out HB.out))
                (case side4 => exact HC127_9.out)
                (case side5 => exact kc_ (Kd.C_below HR127_13.out HB.out))
                (case side6 => exact HC127_13.out)
                (case side7 => exact kc_ (Kd.C_below HR128_6.out HB.out))
                (case side8 => exact HC128_6.out)
                (case side9 => exact kc_ (Kd.C_below HR128_9.out HB.out))
                (case side10 => exact HC128_9.out)
                (case side11 => exact kc_ (Kd.C_below HR128_13.out HB.out))
                (case side12 => exact HC128_13.out)
                rintro e w10 ⟨rfl, hb⟩
                refine ⟨_, rfl, ?_⟩
                have n0_ := Aside0.mk (below_step bb_ hb)
                clear HB
                have HB := n0_
                clear n0_
                (try clear hb)
                (try clear hb2)
                (try clear hk)
                (try clear hi)
                refine hK.out _ _ ⟨((HB.out.cell (World.block_lt_of_cell? w _ hw127_0)).trans hw127_0), ((HB.out.cell (World.block_lt_of_cell? w _ hw127_1)).trans hw127_1), ((HB.out.cell (World.block_lt_of_cell? w _ hw127_2)).trans hw127_2), ((HB.out.cell (World.block_lt_of_cell? w _ hw127_3)).trans hw127_3), ((HB.out.cell (World.block_lt_of_cell? w _ hw127_4)).trans hw127_4), ((HB.out.cell (World.block_lt_of_cell? w _ hw127_5)).trans hw127_5), ((HB.out.cell (World.block_lt_of_cell? w _ hw127_6)).trans hw127_6), ((HB.out.cell (World.block_lt_of_cell? w _ hw127_7)).trans hw127_7), ((HB.out.cell (World.block_lt_of_cell? w _ hw127_8)).trans hw127_8), ((HB.out.cell (World.block_lt_of_cell? w _ hw127_9)).trans hw127_9), ((HB.out.cell (World.block_lt_of_cell? w _ hw127_10)).trans hw127_10), ((HB.out.cell (World.block_lt_of_cell? w _ hw127_11)).trans hw127_11), ((HB.out.cell (World.block_lt_of_cell? w _ hw127_12)).trans hw127_12), ((HB.out.cell (World.block_lt_of_cell? w _ hw127_13)).trans hw127_13), ((HB.out.cell (World.block_lt_of_cell? w _ hw128_0)).trans hw128_0), ((HB.out.cell (World.block_lt_of_cell? w _ hw128_1)).trans hw128_1), ((HB.out.cell (World.block_lt_of_cell? w _ hw128_2)).trans hw128_2), ((HB.out.cell (World.block_lt_of_cell? w _ hw128_3)).trans hw128_3), ((HB.out.cell (World.block_lt_of_cell? w _ hw128_4)).trans hw128_4), ((HB.out.cell (World.block_lt_of_cell? w _ hw128_5)).trans hw128_5), ((HB.out.cell (World.block_lt_of_cell? w _ hw128_6)).trans hw128_6), ((HB.out.cell (World.block_lt_of_cell? w _ hw128_7)).trans hw128_7), ((HB.out.cell (World.block_lt_of_cell? w _ hw128_8)).trans hw128_8), ((HB.out.cell (World.block_lt_of_cell? w _ hw128_9)).trans hw128_9), ((HB.out.cell (World.block_lt_of_cell? w _ hw128_10)).trans hw128_10), ((HB.out.cell (World.block_lt_of_cell? w _ hw128_11)).trans hw128_11), ((HB.out.cell (World.block_lt_of_cell? w _ hw128_12)).trans hw128_12), ((HB.out.cell (World.block_lt_of_cell? w _ hw128_13)).trans hw128_13)⟩ (fun hHeld => ?_)
                clear hK K
                refine norm_ (a' := ?_) ?_ ?_
                rotate_left
                · show Act.put _ (some 25) _ = _
                  simp only [Act.put, List.setIfInBounds_toArray, List.set_cons_zero, List.set_cons_succ, i64_w, i32_w]
                  rfl
                refine pure_ (i := 9) (N := some 26) (v := ?_) (a' := ?_) #[true, true, true, true, true, true, true, true, true, true] rfl rfl (any_of HT_.out (by kernel_rfl)) (fun _ _ _ h => h) (Or.inl ⟨by rfl, ?_⟩) ?_ ?_
                rotate_left
                · intro w'
                  go_simp
                  with_reducible rfl
                rotate_left
                · simp only [Act.put, List.setIfInBounds_toArray, List.set_cons_zero, List.set_cons_succ, i64_w, i32_w]
                  rfl
                refine done_ (done_of HT_.out (by kernel_rfl)) ?_
                try go_wp2
                go_roundg k1
                case measure => have := HK1.out; omega
                case rel => exact ⟨(wrap64 (x5_1 + 1)), sd_, H', ⟨by have := HK1.out; omega⟩, ⟨bb_⟩⟩
              · replace c8 := Bool.eq_false_iff.mpr c8
                subst c8
                have H1 : (some false) = some r := by rw [if_neg (show ¬ (false = true) by decide)] at H; exact H
                clear H
                have H := H1
                clear H1
                obtain rfl := Option.some.inj H
                try go_wp2
                have n0_ := Aside0.mk (below_drew1 HB.out)
                clear HB
                have HB := n0_
                clear n0_
                have p127 : 0 ≤ (x5_1 : Int) := of_decide_eq_true as_
                have q127 : x5_1 < (l0.length : Int) := of_decide_eq_true as_
                obtain ⟨ad127, A127_6, c127_6, A127_9, c127_9, A127_13, c127_13, e127, hx127_0, hx127_1, hx127_2, hx127_3, hx127_4, hx127_5, hx127_6, hx127_7, hx127_8, hx127_9, hx127_10, hx127_11, hx127_12, hx127_13, hl127_6, hi127_6, hl127_9, hi127_9, hl127_13, hi127_13⟩ := at_T136 HR0.out x5_1 p127 q127
                have hw127_13 := hx127_13
                have hw127_12 := hx127_12
                have hw127_11 := hx127_11
                have hw127_10 := hx127_10
                have hw127_9 := hx127_9
                have hw127_8 := hx127_8
                have hw127_7 := hx127_7
                have hw127_6 := hx127_6
                have hw127_5 := hx127_5
                have hw127_4 := hx127_4
                have hw127_3 := hx127_3
                have hw127_2 := hx127_2
                have hw127_1 := hx127_1
                have hw127_0 := hx127_0
                cases e127
                replace hx127_0 := (HB.out.cell (World.block_lt_of_cell? w _ hx127_0)).trans hx127_0
                replace hx127_1 := (HB.out.cell (World.block_lt_of_cell? w _ hx127_1)).trans hx127_1
                replace hx127_2 := (HB.out.cell (World.block_lt_of_cell? w _ hx127_2)).trans hx127_2
                replace hx127_3 := (HB.out.cell (World.block_lt_of_cell? w _ hx127_3)).trans hx127_3
                replace hx127_4 := (HB.out.cell (World.block_lt_of_cell? w _ hx127_4)).trans hx127_4
                replace hx127_5 := (HB.out.cell (World.block_lt_of_cell? w _ hx127_5)).trans hx127_5
                replace hx127_6 := (HB.out.cell (World.block_lt_of_cell? w _ hx127_6)).trans hx127_6
                replace hx127_7 := (HB.out.cell (World.block_lt_of_cell? w _ hx127_7)).trans hx127_7
                replace hx127_8 := (HB.out.cell (World.block_lt_of_cell? w _ hx127_8)).trans hx127_8
                replace hx127_9 := (HB.out.cell (World.block_lt_of_cell? w _ hx127_9)).trans hx127_9
                replace hx127_10 := (HB.out.cell (World.block_lt_of_cell? w _ hx127_10)).trans hx127_10
                replace hx127_11 := (HB.out.cell (World.block_lt_of_cell? w _ hx127_11)).trans hx127_11
                replace hx127_12 := (HB.out.cell (World.block_lt_of_cell? w _ hx127_12)).trans hx127_12
                replace hx127_13 := (HB.out.cell (World.block_lt_of_cell? w _ hx127_13)).trans hx127_13
                have HR127_6 := Aside0.mk hi127_6
                have HC127_6 := Aside0.mk hl127_6
                clear hi127_6 hl127_6
                have HR127_9 := Aside0.mk hi127_9
                have HC127_9 := Aside0.mk hl127_9
                clear hi127_9 hl127_9
                have HR127_13 := Aside0.mk hi127_13
                have HC127_13 := Aside0.mk hl127_13
                clear hi127_13 hl127_13
                replace p127 := eq_true p127
                replace q127 := eq_true q127
                have p128 : 0 ≤ (x5_1 : Int) := of_decide_eq_true as_
                have q128 : x5_1 < (l1.length : Int) := of_decide_eq_true as_
                obtain ⟨ad128, A128_6, c128_6, A128_9, c128_9, A128_13, c128_13, e128, hx128_0, hx128_1, hx128_2, hx128_3, hx128_4, hx128_5, hx128_6, hx128_7, hx128_8, hx128_9, hx128_10, hx128_11, hx128_12, hx128_13, hl128_6, hi128_6, hl128_9, hi128_9, hl128_13, hi128_13⟩ := at_T136 HR1.out x5_1 p128 q128
                have hw128_13 := hx128_13
                have hw128_12 := hx128_12
                have hw128_11 := hx128_11
                have hw128_10 := hx128_10
                have hw128_9 := hx128_9
                have hw128_8 := hx128_8
                have hw128_7 := hx128_7
                have hw128_6 := hx128_6
                have hw128_5 := hx128_5
                have hw128_4 := hx128_4
                have hw128_3 := hx128_3
                have hw128_2 := hx128_2
                have hw128_1 := hx128_1
                have hw128_0 := hx128_0
                cases e128
                replace hx128_0 := (HB.out.cell (World.block_lt_of_cell? w _ hx128_0)).trans hx128_0
                replace hx128_1 := (HB.out.cell (World.block_lt_of_cell? w _ hx128_1)).trans hx128_1
                replace hx128_2 := (HB.out.cell (World.block_lt_of_cell? w _ hx128_2)).trans hx128_2
                replace hx128_3 := (HB.out.cell (World.block_lt_of_cell? w _ hx128_3)).trans hx128_3
                replace hx128_4 := (HB.out.cell (World.block_lt_of_cell? w _ hx128_4)).trans hx128_4
                replace hx128_5 := (HB.out.cell (World.block_lt_of_cell? w _ hx128_5)).trans hx128_5
                replace hx128_6 := (HB.out.cell (World.block_lt_of_cell? w _ hx128_6)).trans hx128_6
                replace hx128_7 := (HB.out.cell (World.block_lt_of_cell? w _ hx128_7)).trans hx128_7
                replace hx128_8 := (HB.out.cell (World.block_lt_of_cell? w _ hx128_8)).trans hx128_8
                replace hx128_9 := (HB.out.cell (World.block_lt_of_cell? w _ hx128_9)).trans hx128_9
                replace hx128_10 := (HB.out.cell (World.block_lt_of_cell? w _ hx128_10)).trans hx128_10
                replace hx128_11 := (HB.out.cell (World.block_lt_of_cell? w _ hx128_11)).trans hx128_11
                replace hx128_12 := (HB.out.cell (World.block_lt_of_cell? w _ hx128_12)).trans hx128_12
                replace hx128_13 := (HB.out.cell (World.block_lt_of_cell? w _ hx128_13)).trans hx128_13
                have HR128_6 := Aside0.mk hi128_6
                have HC128_6 := Aside0.mk hl128_6
                clear hi128_6 hl128_6
                have HR128_9 := Aside0.mk hi128_9
                have HC128_9 := Aside0.mk hl128_9
                clear hi128_9 hl128_9
                have HR128_13 := Aside0.mk hi128_13
                have HC128_13 := Aside0.mk hl128_13
                clear hi128_13 hl128_13
                replace p128 := eq_true p128
                replace q128 := eq_true q128
                refine start_ (n := 10) (S := fun w' => w'.cell? (ad127.add ((x5_1).toNat * 14)) = some (.int .i64 ((rd_T136 l0 x5_1).f0)) ∧ w'.cell? ⟨(ad127.add ((x5_1).toNat * 14)).block, (ad127.add ((x5_1).toNat * 14)).off + 1, none⟩ = some (.int .i64 ((rd_T136 l0 x5_1).f1)) ∧ w'.cell? ⟨(ad127.add ((x5_1).toNat * 14)).block, (ad127.add ((x5_1).toNat * 14)).off + 2, none⟩ = some (.int .i64 ((rd_T136 l0 x5_1).f2)) ∧ w'.cell? ⟨(ad127.add ((x5_1).toNat * 14)).block, (ad127.add ((x5_1).toNat * 14)).off + 3, none⟩ = some (.int .i64 ((rd_T136 l0 x5_1).f3)) ∧ w'.cell? ⟨(ad127.add ((x5_1).toNat * 14)).block, (ad127.add ((x5_1).toNat * 14)).off + 4, none⟩ = some (.int .i64 ((rd_T136 l0 x5_1).f4)) ∧ w'.cell? ⟨(ad127.add ((x5_1).toNat * 14)).block, (ad127.add ((x5_1).toNat * 14)).off + 5, none⟩ = some (.int .i64 ((rd_T136 l0 x5_1).f5)) ∧ w'.cell? ⟨(ad127.add ((x5_1).toNat * 14)).block, (ad127.add ((x5_1).toNat * 14)).off + 6, none⟩ = some (.slice A127_6 ((rd_T136 l0 x5_1).f6.f0).length c127_6) ∧ w'.cell? ⟨(ad127.add ((x5_1).toNat * 14)).block, (ad127.add ((x5_1).toNat * 14)).off + 7, none⟩ = some (.bool ((rd_T136 l0 x5_1).f6.f1)) ∧ w'.cell? ⟨(ad127.add ((x5_1).toNat * 14)).block, (ad127.add ((x5_1).toNat * 14)).off + 8, none⟩ = some (.int .i64 ((rd_T136 l0 x5_1).f6.f2.f0)) ∧ w'.cell? ⟨(ad127.add ((x5_1).toNat * 14)).block, (ad127.add ((x5_1).toNat * 14)).off + 9, none⟩ = some (.slice A127_9 ((rd_T136 l0 x5_1).f6.f2.f1).length c127_9) ∧ w'.cell? ⟨(ad127.add ((x5_1).toNat * 14)).block, (ad127.add ((x5_1).toNat * 14)).off + 10, none⟩ = some (.int .i64 ((rd_T136 l0 x5_1).f6.f2.f2)) ∧ w'.cell? ⟨(ad127.add ((x5_1).toNat * 14)).block, (ad127.add ((x5_1).toNat * 14)).off + 11, none⟩ = some (.int .i64 ((rd_T136 l0 x5_1).f6.f2.f3)) ∧ w'.cell? ⟨(ad127.add ((x5_1).toNat * 14)).block, (ad127.add ((x5_1).toNat * 14)).off + 12, none⟩ = some (.int .i64 ((rd_T136 l0 x5_1).f6.f2.f4)) ∧ w'.cell? ⟨(ad127.add ((x5_1).toNat * 14)).block, (ad127.add ((x5_1).toNat * 14)).off + 13, none⟩ = some (.slice A127_13 ((rd_T136 l0 x5_1).f6.f3).length c127_13) ∧ w'.cell? (ad128.add ((x5_1).toNat * 14)) = some (.int .i64 ((rd_T136 l1 x5_1).f0)) ∧ w'.cell? ⟨(ad128.add ((x5_1).toNat * 14)).block, (ad128.add ((x5_1).toNat * 14)).off + 1, none⟩ = some (.int .i64 ((rd_T136 l1 x5_1).f1)) ∧ w'.cell? ⟨(ad128.add ((x5_1).toNat * 14)).block, (ad128.add ((x5_1).toNat * 14)).off + 2, none⟩ = some (.int .i64 ((rd_T136 l1 x5_1).f2)) ∧ w'.cell? ⟨(ad128.add ((x5_1).toNat * 14)).block, (ad128.add ((x5_1).toNat * 14)).off + 3, none⟩ = some (.int .i64 ((rd_T136 l1 x5_1).f3)) ∧ w'.cell? ⟨(ad128.add ((x5_1).toNat * 14)).block, (ad128.add ((x5_1).toNat * 14)).off + 4, none⟩ = some (.int .i64 ((rd_T136 l1 x5_1).f4)) ∧ w'.cell? ⟨(ad128.add ((x5_1).toNat * 14)).block, (ad128.add ((x5_1).toNat * 14)).off + 5, none⟩ = some (.int .i64 ((rd_T136 l1 x5_1).f5)) ∧ w'.cell? ⟨(ad128.add ((x5_1).toNat * 14)).block, (ad128.add ((x5_1).toNat * 14)).off + 6, none⟩ = some (.slice A128_6 ((rd_T136 l1 x5_1).f6.f0).length c128_6) ∧ w'.cell? ⟨(ad128.add ((x5_1).toNat * 14)).block, (ad128.add ((x5_1).toNat * 14)).off + 7, none⟩ = some (.bool ((rd_T136 l1 x5_1).f6.f1)) ∧ w'.cell? ⟨(ad128.add ((x5_1).toNat * 14)).block, (ad128.add ((x5_1).toNat * 14)).off + 8, none⟩ = some (.int .i64 ((rd_T136 l1 x5_1).f6.f2.f0)) ∧ w'.cell? ⟨(ad128.add ((x5_1).toNat * 14)).block, (ad128.add ((x5_1).toNat * 14)).off + 9, none⟩ = some (.slice A128_9 ((rd_T136 l1 x5_1).f6.f2.f1).length c128_9) ∧ w'.cell? ⟨(ad128.add ((x5_1).toNat * 14)).block, (ad128.add ((x5_1).toNat * 14)).off + 10, none⟩ = some (.int .i64 ((rd_T136 l1 x5_1).f6.f2.f2)) ∧ w'.cell? ⟨(ad128.add ((x5_1).toNat * 14)).block, (ad128.add ((x5_1).toNat * 14)).off + 11, none⟩ = some (.int .i64 ((rd_T136 l1 x5_1).f6.f2.f3)) ∧ w'.cell? ⟨(ad128.add ((x5_1).toNat * 14)).block, (ad128.add ((x5_1).toNat * 14)).off + 12, none⟩ = some (.int .i64 ((rd_T136 l1 x5_1).f6.f2.f4)) ∧ w'.cell? ⟨(ad128.add ((x5_1).toNat * 14)).block, (ad128.add ((x5_1).toNat * 14)).off + 13, none⟩ = some (.slice A128_13 ((rd_T136 l1 x5_1).f6.f3).length c128_13)) (ds := []) #[false, false, false, false, false, false, false, false, false, false] (by kernel_rfl) rfl rfl ⟨((HB.out.cell (World.block_lt_of_cell? w _ hw127_0)).trans hw127_0), ((HB.out.cell (World.block_lt_of_cell? w _ hw127_1)).trans hw127_1), ((HB.out.cell (World.block_lt_of_cell? w _ hw127_2)).trans hw127_2), ((HB.out.cell (World.block_lt_of_cell? w _ hw127_3)).trans hw127_3), ((HB.out.cell (World.block_lt_of_cell? w _ hw127_4)).trans hw127_4), ((HB.out.cell (World.block_lt_of_cell? w _ hw127_5)).trans hw127_5), ((HB.out.cell (World.block_lt_of_cell? w _ hw127_6)).trans hw127_6), ((HB.out.cell (World.block_lt_of_cell? w _ hw127_7)).trans hw127_7), ((HB.out.cell (World.block_lt_of_cell? w _ hw127_8)).trans hw127_8), ((HB.out.cell (World.block_lt_of_cell? w _ hw127_9)).trans hw127_9), ((HB.out.cell (World.block_lt_of_cell? w _ hw127_10)).trans hw127_10), ((HB.out.cell (World.block_lt_of_cell? w _ hw127_11)).trans hw127_11), ((HB.out.cell (World.block_lt_of_cell? w _ hw127_12)).trans hw127_12), ((HB.out.cell (World.block_lt_of_cell? w _ hw127_13)).trans hw127_13), ((HB.out.cell (World.block_lt_of_cell? w _ hw128_0)).trans hw128_0), ((HB.out.cell (World.block_lt_of_cell? w _ hw128_1)).trans hw128_1), ((HB.out.cell (World.block_lt_of_cell? w _ hw128_2)).trans hw128_2), ((HB.out.cell (World.block_lt_of_cell? w _ hw128_3)).trans hw128_3), ((HB.out.cell (World.block_lt_of_cell? w _ hw128_4)).trans hw128_4), ((HB.out.cell (World.block_lt_of_cell? w _ hw128_5)).trans hw128_5), ((HB.out.cell (World.block_lt_of_cell? w _ hw128_6)).trans hw128_6), ((HB.out.cell (World.block_lt_of_cell? w _ hw128_7)).trans hw128_7), ((HB.out.cell (World.block_lt_of_cell? w _ hw128_8)).trans hw128_8), ((HB.out.cell (World.block_lt_of_cell? w _ hw128_9)).trans hw128_9), ((HB.out.cell (World.block_lt_of_cell? w _ hw128_10)).trans hw128_10), ((HB.out.cell (World.block_lt_of_cell? w _ hw128_11)).trans hw128_11), ((HB.out.cell (World.block_lt_of_cell? w _ hw128_12)).trans hw128_12), ((HB.out.cell (World.block_lt_of_cell? w _ hw128_13)).trans hw128_13)⟩ (fun hHeld => ?_); refine with_tabW laws_eqMessageS.tab6 laws_eqMessageS.bits6 (fun HT_ HW_ => ?_)
                generalize wr.drew = w11 at HB HR127_13 HR127_6 HR127_9 HR128_13 HR128_6 HR128_9 hx127_0 hx127_1 hx127_10 hx127_11 hx127_12 hx127_13 hx127_2 hx127_3 hx127_4 hx127_5 hx127_6 hx127_7 hx127_8 hx127_9 hx128_0 hx128_1 hx128_10 hx128_11 hx128_12 hx128_13 hx128_2 hx128_3 hx128_4 hx128_5 hx128_6 hx128_7 hx128_8 hx128_9 hHeld ⊢
                refine pure_ (i := 0) (N := some 17) (v := ?_) (a' := ?_) #[true, false, false, false, false, false, false, false, false, false] rfl rfl (any_of HT_.out (by kernel_rfl)) (fun _ _ _ h => h) (Or.inl ⟨by rfl, ?_⟩) ?_ ?_
                rotate_left
                · intro w'
                  go_simp
                  with_reducible rfl
                rotate_left
                · simp only [Act.put, List.setIfInBounds_toArray, List.set_cons_zero, List.set_cons_succ, i64_w, i32_w]
                  rfl
                refine pure_ (i := 1) (N := some 18) (v := ?_) (a' := ?_) #[true, true, false, false, false, false, false, false, false, false] rfl rfl (any_of HT_.out (by kernel_rfl)) (fun _ _ _ h => h) (Or.inl ⟨by rfl, ?_⟩) ?_ ?_
                rotate_left
                · intro w'
                  go_simp
                  with_reducible rfl
                rotate_left
                · simp only [Act.put, List.setIfInBounds_toArray, List.set_cons_zero, List.set_cons_succ, i64_w, i32_w]
                  rfl
                refine pure_ (i := 2) (N := some 19) (v := ?_) (a' := ?_) #[true, true, true, false, false, false, false, false, false, false] rfl rfl (any_of HT_.out (by kernel_rfl)) (fun _ _ _ h => h) (Or.inl ⟨by rfl, ?_⟩) ?_ ?_
                rotate_left
                · intro w'
                  go_simp
                  with_reducible rfl
                rotate_left
                · simp only [Act.put, List.setIfInBounds_toArray, List.set_cons_zero, List.set_cons_succ, i64_w, i32_w]
                  rfl
                refine pure_ (i := 4) (N := some 21) (v := ?_) (a' := ?_) #[true, true, true, false, true, false, false, false, false, false] rfl rfl (any_of HT_.out (by kernel_rfl)) (fun _ _ _ h => h) (Or.inl ⟨by rfl, ?_⟩) ?_ ?_
                rotate_left
                · intro w'
                  go_simp
                  with_reducible rfl
                rotate_left
                · simp only [Act.put, List.setIfInBounds_toArray, List.set_cons_zero, List.set_cons_succ, i64_w, i32_w]
                  rfl
                refine pure_ (i := 5) (N := some 22) (v := ?_) (a' := ?_) #[true, true, true, false, true, true, false, false, false, false] rfl rfl (any_of HT_.out (by kernel_rfl)) (fun _ _ _ h => h) (Or.inl ⟨by rfl, ?_⟩) ?_ ?_
                rotate_left
                · intro w'
                  go_simp
                  with_reducible rfl
                rotate_left
                · simp only [Act.put, List.setIfInBounds_toArray, List.set_cons_zero, List.set_cons_succ, i64_w, i32_w]
                  rfl
                refine pure_ (i := 6) (N := some 23) (v := ?_) (a' := ?_) #[true, true, true, false, true, true, true, false, false, false] rfl rfl (any_of HT_.out (by kernel_rfl)) (fun _ _ _ h => h) (Or.inl ⟨by rfl, ?_⟩) ?_ ?_
                rotate_left
                · intro w'
                  go_simp
                  with_reducible rfl
                rotate_left
                · simp only [Act.put, List.setIfInBounds_toArray, List.set_cons_zero, List.set_cons_succ, i64_w, i32_w]
                  rfl
                refine take_ (i := 3) (N := some 20) (v := ?_) (a' := ?_) #[true, true, true, true, true, true, true, false, false, false] rfl rfl (take_ofW HT_.out HW_.out (by kernel_rfl)) (fun _ _ _ h => h) (Or.inl ⟨by rfl, ?_⟩) hHeld ?_ ?_
                rotate_left
                · rintro w' ⟨s0, s1, s2, s3, s4, s5, s6, s7, s8, s9, s10, s11, s12, s13, s14, s15, s16, s17, s18, s19, s20, s21, s22, s23, s24, s25, s26, s27⟩
                  go_simp
                  with_reducible rfl
                rotate_left
                · simp only [Act.put, List.setIfInBounds_toArray, List.set_cons_zero, List.set_cons_succ, i64_w, i32_w]
                  rfl
                refine take_ (i := 7) (N := some 24) (v := ?_) (a' := ?_) #[true, true, true, true, true, true, true, true, false, false] rfl rfl (take_ofW HT_.out HW_.out (by kernel_rfl)) (fun _ _ _ h => h) (Or.inl ⟨by rfl, ?_⟩) hHeld ?_ ?_
                rotate_left
                · rintro w' ⟨s0, s1, s2, s3, s4, s5, s6, s7, s8, s9, s10, s11, s12, s13, s14, s15, s16, s17, s18, s19, s20, s21, s22, s23, s24, s25, s26, s27⟩
                  go_simp
                  with_reducible rfl
                rotate_left
                · simp only [Act.put, List.setIfInBounds_toArray, List.set_cons_zero, List.set_cons_succ, i64_w, i32_w]
                  rfl
                refine one_ (i := 8) (N := some 25) #[true, true, true, true, true, true, true, true, true, false] rfl rfl (one_of HT_.out (by kernel_rfl)) (by decide) (fun K hK => ?_)
                refine goes_ Try.func143 (by kernel_rfl) rfl #[.agg #[.int .i64 ((rd_T136 l0 x5_1).f0), .int .i64 ((rd_T136 l0 x5_1).f1), .int .i64 ((rd_T136 l0 x5_1).f2), .int .i64 ((rd_T136 l0 x5_1).f3), .int .i64 ((rd_T136 l0 x5_1).f4), .int .i64 ((rd_T136 l0 x5_1).f5), .slice A127_6 ((rd_T136 l0 x5_1).f6.f0).length c127_6, .bool ((rd_T136 l0 x5_1).f6.f1), .int .i64 ((rd_T136 l0 x5_1).f6.f2.f0), .slice A127_9 ((rd_T136 l0 x5_1).f6.f2.f1).length c127_9, .int .i64 ((rd_T136 l0 x5_1).f6.f2.f2), .int .i64 ((rd_T136 l0 x5_1).f6.f2.f3), .int .i64 ((rd_T136 l0 x5_1).f6.f2.f4), .slice A127_13 ((rd_T136 l0 x5_1).f6.f3).length c127_13], .agg #[.int .i64 ((rd_T136 l1 x5_1).f0), .int .i64 ((rd_T136 l1 x5_1).f1), .int .i64 ((rd_T136 l1 x5_1).f2), .int .i64 ((rd_T136 l1 x5_1).f3), .int .i64 ((rd_T136 l1 x5_1).f4), .int .i64 ((rd_T136 l1 x5_1).f5), .slice A128_6 ((rd_T136 l1 x5_1).f6.f0).length c128_6, .bool ((rd_T136 l1 x5_1).f6.f1), .int .i64 ((rd_T136 l1 x5_1).f6.f2.f0), .slice A128_9 ((rd_T136 l1 x5_1).f6.f2.f1).length c128_9, .int .i64 ((rd_T136 l1 x5_1).f6.f2.f2), .int .i64 ((rd_T136 l1 x5_1).f6.f2.f3), .int .i64 ((rd_T136 l1 x5_1).f6.f2.f4), .slice A128_13 ((rd_T136 l1 x5_1).f6.f3).length c128_13]] (by rfl) rfl rfl (by (try simp only [List.map_toArray, List.map_cons, List.map_nil]); first | done | rfl | (simp only [List.length_drop, List.length_take]; rfl)) ?_
                with_reducible refine (laws_eqMessage.calls k1 ((rd_T136 l0 x5_1).f0) ((rd_T136 l0 x5_1).f1) ((rd_T136 l0 x5_1).f2) ((rd_T136 l0 x5_1).f3) ((rd_T136 l0 x5_1).f4) ((rd_T136 l0 x5_1).f5) _ _ ((rd_T136 l0 x5_1).f6.f0) ((rd_T136 l0 x5_1).f6.f1) ((rd_T136 l0 x5_1).f6.f2.f0) _ _ ((rd_T136 l0 x5_1).f6.f2.f1) ((rd_T136 l0 x5_1).f6.f2.f2) ((rd_T136 l0 x5_1).f6.f2.f3) ((rd_T136 l0 x5_1).f6.f2.f4) _ _ ((rd_T136 l0 x5_1).f6.f3) ((rd_T136 l1 x5_1).f0) ((rd_T136 l1 x5_1).f1) ((rd_T136 l1 x5_1).f2) ((rd_T136 l1 x5_1).f3) ((rd_T136 l1 x5_1).f4) ((rd_T136 l1 x5_1).f5) _ _ ((rd_T136 l1 x5_1).f6.f0) ((rd_T136 l1 x5_1).f6.f1) ((rd_T136 l1 x5_1).f6.f2.f0) _ _ ((rd_T136 l1 x5_1).f6.f2.f1) ((rd_T136 l1 x5_1).f6.f2.f2) ((rd_T136 l1 x5_1).f6.f2.f3) ((rd_T136 l1 x5_1).f6.f2.f4) _ _ ((rd_T136 l1 x5_1).f6.f3) false _ ?side1 ?side2 ?side3 ?side4 ?side5 ?side6 ?side7 ?side8 ?side9 ?side10 ?side11 ?side12 A7.out).mono ?_
                (case side1 => exact kc_ (Kd.C_below HR127_6.out HB.out))
                (case side2 => exact HC127_6.out)
                (case side3 => exact kc_ (Kd.C_below HR127_9.out HB.out))
                (case side4 => exact HC127_9.out)
                (case side5 => exact kc_ (Kd.C_below HR127_13.out HB.out))
                (case side6 => exact HC127_13.out)
                (case side7 => exact kc_ (Kd.C_below HR128_6.out HB.out))
                (case side8 => exact HC128_6.out)
                (case side9 => exact kc_ (Kd.C_below HR128_9.out HB.out))
                (case side10 => exact HC128_9.out)
                (case side11 => exact kc_ (Kd.C_below HR128_13.out HB.out))
                (case side12 => exact HC128_13.out)
                rintro e w12 ⟨rfl, hb⟩
                refine ⟨_, rfl, ?_⟩
                have n0_ := Aside0.mk (below_step bb_ hb)
                clear HB
                have HB := n0_
                clear n0_
                (try clear hb)
                (try clear hb2)
                (try clear hk)
                (try clear hi)
                refine hK.out _ _ ⟨((HB.out.cell (World.block_lt_of_cell? w _ hw127_0)).trans hw127_0), ((HB.out.cell (World.block_lt_of_cell? w _ hw127_1)).trans hw127_1), ((HB.out.cell (World.block_lt_of_cell? w _ hw127_2)).trans hw127_2), ((HB.out.cell (World.block_lt_of_cell? w _ hw127_3)).trans hw127_3), ((HB.out.cell (World.block_lt_of_cell? w _ hw127_4)).trans hw127_4), ((HB.out.cell (World.block_lt_of_cell? w _ hw127_5)).trans hw127_5), ((HB.out.cell (World.block_lt_of_cell? w _ hw127_6)).trans hw127_6), ((HB.out.cell (World.block_lt_of_cell? w _ hw127_7)).trans hw127_7), ((HB.out.cell (World.block_lt_of_cell? w _ hw127_8)).trans hw127_8), ((HB.out.cell (World.block_lt_of_cell? w _ hw127_9)).trans hw127_9), ((HB.out.cell (World.block_lt_of_cell? w _ hw127_10)).trans hw127_10), ((HB.out.cell (World.block_lt_of_cell? w _ hw127_11)).trans hw127_11), ((HB.out.cell (World.block_lt_of_cell? w _ hw127_12)).trans hw127_12), ((HB.out.cell (World.block_lt_of_cell? w _ hw127_13)).trans hw127_13), ((HB.out.cell (World.block_lt_of_cell? w _ hw128_0)).trans hw128_0), ((HB.out.cell (World.block_lt_of_cell? w _ hw128_1)).trans hw128_1), ((HB.out.cell (World.block_lt_of_cell? w _ hw128_2)).trans hw128_2), ((HB.out.cell (World.block_lt_of_cell? w _ hw128_3)).trans hw128_3), ((HB.out.cell (World.block_lt_of_cell? w _ hw128_4)).trans hw128_4), ((HB.out.cell (World.block_lt_of_cell? w _ hw128_5)).trans hw128_5), ((HB.out.cell (World.block_lt_of_cell? w _ hw128_6)).trans hw128_6), ((HB.out.cell (World.block_lt_of_cell? w _ hw128_7)).trans hw128_7), ((HB.out.cell (World.block_lt_of_cell? w _ hw128_8)).trans hw128_8), ((HB.out.cell (World.block_lt_of_cell? w _ hw128_9)).trans hw128_9), ((HB.out.cell (World.block_lt_of_cell? w _ hw128_10)).trans hw128_10), ((HB.out.cell (World.block_lt_of_cell? w _ hw128_11)).trans hw128_11), ((HB.out.cell (World.block_lt_of_cell? w _ hw128_12)).trans hw128_12), ((HB.out.cell (World.block_lt_of_cell? w _ hw128_13)).trans hw128_13)⟩ (fun hHeld => ?_)
                clear hK K
                refine norm_ (a' := ?_) ?_ ?_
                rotate_left
                · show Act.put _ (some 25) _ = _
                  simp only [Act.put, List.setIfInBounds_toArray, List.set_cons_zero, List.set_cons_succ, i64_w, i32_w]
                  rfl
                refine pure_ (i := 9) (N := some 26) (v := ?_) (a' := ?_) #[true, true, true, true, true, true, true, true, true, true] rfl rfl (any_of HT_.out (by kernel_rfl)) (fun _ _ _ h => h) (Or.inl ⟨by rfl, ?_⟩) ?_ ?_
                rotate_left
                · intro w'
                  go_simp
                  with_reducible rfl
                rotate_left
                · simp only [Act.put, List.setIfInBounds_toArray, List.set_cons_zero, List.set_cons_succ, i64_w, i32_w]
                  rfl
                refine done_ (done_of HT_.out (by kernel_rfl)) ?_
                try go_wp2
                go_ret
                exact ⟨er_, bb_⟩
            · rw [if_neg c6] at H
              exact absurd H (by simp)
          · rw [if_neg c5] at H
            exact absurd H (by simp)
        · rw [if_neg c4] at H
          have c4b0 : decide (x5_1 < (l0.length : Int)) = false := decide_eq_false c4
          clear c4
          obtain rfl := Option.some.inj H
          go_wp2
          go_ret
          exact ⟨er_, bb_⟩
  · rw [if_neg c3] at H
    have c3b0 : ((l0.length : Int) == (l1.length : Int)) = false := beq_eq_false_iff_ne.mpr c3
    have c3b1 : ((l0.length : Int) != (l1.length : Int)) = true := bne_iff_ne.mpr c3
    have c3b2 : (l0.length == l1.length) = false := by first | simpa using c3 | (simp at c3 ⊢; omega)
    obtain rfl := Option.some.inj H
    go_enter Try.func91, Try.ntmps91
    go_wp2
    go_ret
    exact ⟨er_, bb_⟩
end Go.Proofs.Ythmkjapmnlhflaa.PFnExactTickSession
