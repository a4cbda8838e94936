/- The functions that the law FnExactSyncJournal reaches: each as a plain Lean function, with the proof that the call does what it says. -/
import Derived.Test.YthmkjapmnlhflaaYFnExactSyncJournalx0
import Derived.Test.YthmkjapmnlhflaaYFnExactSyncJournalx1
import Derived.Test.YthmkjapmnlhflaaYFnExactSyncJournalx4
import Derived.Test.YthmkjapmnlhflaaYFnExactSyncJournalx5
import Derived.Test.YthmkjapmnlhflaaYFnExactSyncJournalx9
import Derived.Test.YthmkjapmnlhflaaYFnExactSyncJournalx10
namespace Go.Proofs.Ythmkjapmnlhflaa.PFnExactSyncJournal
open Go.RowKit Go.Proofs.YthmkjapmnlhflaaW.PrintWords Go.Proofs.YthmkjapmnlhflaaW.PrintLast Go.Proofs.YthmkjapmnlhflaaW.PrintMore
attribute [local go_sem] max2_int min2_int max_two min_two max_three min_three max_four min_four
set_option linter.unusedVariables false
set_option linter.unusedSimpArgs false
def laws_FnExactSyncJournal.j0 : Nat → Bool → List Int → List Int → Int → Int → List Int → List Int → Int → Int → List Int → List Int → Option (Bool)
  | 0, _, _, _, _, _, _, _, _, _, _, _ => none
  | k + 1, x42, x372000, x372001, x388000, x388001, x388002, x388003, x404000, x404001, x404002, x404003 => if x42 = true then (some false) else ((laws_markJournalResult.f k x404000 x404001 x404002 x404003 1).bind fun bt416 => ((laws_heldJournalResult.f k x404000 x404001 bt416.2.1 bt416.2.2 1).bind fun t419 => (if t419 < 0 then (some false) else (if t419 = bt416.1 then ((laws_toJournal.f k x372000 x372001).bind fun bt420 => ((impl_SyncJournal.f k bt420.1 bt420.2).bind fun bt426 => ((laws_eqJournalResult.f k bt426.1 bt426.2.1 bt426.2.2.1 bt426.2.2.2 x388000 x388001 x388002 x388003).bind fun t435 => (if t435 = true then ((laws_heldJournalResult.f k x404000 x404001 bt416.2.1 bt416.2.2 1).bind fun t436 => (if t436 < 0 then (some false) else (if t436 = bt416.1 then (some true) else (some false)))) else (some false))))) else (some false)))))
def laws_FnExactSyncJournal.f (k : Nat) (l0_0 : List Int) (l0_1 : List Int) : Option (Bool) := (laws_szJournal.f l0_0 l0_1 1048576).bind fun t372 => (if t372 < 0 then (some true) else ((laws_toJournal.f k l0_0 l0_1).bind fun bt373 => ((spec_SyncJournal.f k bt373.1 bt373.2).bind fun bt379 => ((laws_toJournal.f k l0_0 l0_1).bind fun bt388 => ((impl_SyncJournal.f k bt388.1 bt388.2).bind fun bt395 => ((laws_eqJournalResult.f k bt395.1 bt395.2.1 bt395.2.2.1 bt395.2.2.2 bt379.1 bt379.2.1 bt379.2.2.1 bt379.2.2.2).bind fun t404 => (if t404 = true then ((laws_toJournal.f k l0_0 l0_1).bind fun bt405 => ((laws_eqJournal.f k bt388.1 bt388.2 bt405.1 bt405.2).bind fun t411 => (if t411 = true then ((laws_markJournal.f k bt388.1 bt388.2 1).bind fun bt412 => (if bt412.1 < 0 then (laws_FnExactSyncJournal.j0 k true l0_0 l0_1 bt379.1 bt379.2.1 bt379.2.2.1 bt379.2.2.2 bt395.1 bt395.2.1 bt395.2.2.1 bt395.2.2.2) else ((laws_eqJournalResult.f k bt395.1 bt395.2.1 bt395.2.2.1 bt395.2.2.2 bt379.1 bt379.2.1 bt379.2.2.1 bt379.2.2.2).bind fun t415 => (laws_FnExactSyncJournal.j0 k (!t415) l0_0 l0_1 bt379.1 bt379.2.1 bt379.2.2.1 bt379.2.2.2 bt395.1 bt395.2.1 bt395.2.2.1 bt395.2.2.2)))) else (some false)))) else (some false))))))))
theorem laws_FnExactSyncJournal.mono_l : ∀ k, (∀ y0 y1 y2 y3 y4 y5 y6 y7 y8 y9 y10, LeO (laws_FnExactSyncJournal.j0 k y0 y1 y2 y3 y4 y5 y6 y7 y8 y9 y10) (laws_FnExactSyncJournal.j0 (k + 1) y0 y1 y2 y3 y4 y5 y6 y7 y8 y9 y10))
  | 0 => fun _ _ _ _ _ _ _ _ _ _ _ r h => by simp [laws_FnExactSyncJournal.j0] at h
  | k + 1 => by
    have ih0 := laws_FnExactSyncJournal.mono_l k
    · intro y0 y1 y2 y3 y4 y5 y6 y7 y8 y9 y10
      unfold laws_FnExactSyncJournal.j0
      repeat' first
      | (with_reducible exact ih0 _ _ _ _ _ _ _ _ _ _ _)
      | (with_reducible exact impl_SyncJournal.mono _ _ _)
      | (with_reducible exact laws_eqJournal.mono _ _ _ _ _)
      | (with_reducible exact laws_eqJournalResult.mono _ _ _ _ _ _ _ _ _)
      | (with_reducible exact laws_heldJournalResult.mono _ _ _ _ _ _)
      | (with_reducible exact laws_markJournal.mono _ _ _ _)
      | (with_reducible exact laws_markJournalResult.mono _ _ _ _ _ _)
      | (with_reducible exact laws_toJournal.mono _ _ _)
      | (with_reducible exact spec_SyncJournal.mono _ _ _)
      | (with_reducible exact LeO.refl _)
      | (with_reducible exact LeO.none _)
      | (with_reducible refine LeO.ite ?_ ?_)
      | (with_reducible refine LeO.bind ?_ (fun _ => ?_))
      | exact ih0 _ _ _ _ _ _ _ _ _ _ _
      | exact impl_SyncJournal.mono _ _ _
      | exact laws_eqJournal.mono _ _ _ _ _
      | exact laws_eqJournalResult.mono _ _ _ _ _ _ _ _ _
      | exact laws_heldJournalResult.mono _ _ _ _ _ _
      | exact laws_markJournal.mono _ _ _ _
      | exact laws_markJournalResult.mono _ _ _ _ _ _
      | exact laws_toJournal.mono _ _ _
      | exact spec_SyncJournal.mono _ _ _
      | exact LeO.none _
      | refine LeO.ite ?_ ?_
      | refine LeO.bind ?_ (fun _ => ?_)
theorem laws_FnExactSyncJournal.mono : ∀ a0 a1 k, LeO (laws_FnExactSyncJournal.f k a0 a1) (laws_FnExactSyncJournal.f (k + 1) a0 a1) := by
  intro a0 a1 k
  have ih0 := laws_FnExactSyncJournal.mono_l k
  unfold laws_FnExactSyncJournal.f
  repeat' first
      | (with_reducible exact ih0 _ _ _ _ _ _ _ _ _ _ _)
      | (with_reducible exact impl_SyncJournal.mono _ _ _)
      | (with_reducible exact laws_eqJournal.mono _ _ _ _ _)
      | (with_reducible exact laws_eqJournalResult.mono _ _ _ _ _ _ _ _ _)
      | (with_reducible exact laws_heldJournalResult.mono _ _ _ _ _ _)
      | (with_reducible exact laws_markJournal.mono _ _ _ _)
      | (with_reducible exact laws_markJournalResult.mono _ _ _ _ _ _)
      | (with_reducible exact laws_toJournal.mono _ _ _)
      | (with_reducible exact spec_SyncJournal.mono _ _ _)
      | (with_reducible exact LeO.refl _)
      | (with_reducible exact LeO.none _)
      | (with_reducible refine LeO.ite ?_ ?_)
      | (with_reducible refine LeO.bind ?_ (fun _ => ?_))
      | exact ih0 _ _ _ _ _ _ _ _ _ _ _
      | exact impl_SyncJournal.mono _ _ _
      | exact laws_eqJournal.mono _ _ _ _ _
      | exact laws_eqJournalResult.mono _ _ _ _ _ _ _ _ _
      | exact laws_heldJournalResult.mono _ _ _ _ _ _
      | exact laws_markJournal.mono _ _ _ _
      | exact laws_markJournalResult.mono _ _ _ _ _ _
      | exact laws_toJournal.mono _ _ _
      | exact spec_SyncJournal.mono _ _ _
      | exact LeO.none _
      | refine LeO.ite ?_ ?_
      | refine LeO.bind ?_ (fun _ => ?_)
set_option maxHeartbeats 8000000 in
set_option maxRecDepth 100000 in
theorem laws_FnExactSyncJournal.calls (k : Nat) (A0_0 : Option Addr) (c0_0 : Nat) (l0_0 : List Int) (A0_1 : Option Addr) (c0_1 : Nat) (l0_1 : List Int) (w : World) (hr0_0 : Kd.C (Kd.int .u8) w A0_0 l0_0.length l0_0) (hc0_0 : l0_0.length ≤ c0_0) (hr0_1 : Kd.C (Kd.int .u8) w A0_1 l0_1.length l0_1) (hc0_1 : l0_1.length ≤ c0_1) (h : laws_FnExactSyncJournal.f k l0_0 l0_1 = some true) :
    Calls Try.prog 3 #[.agg #[.slice A0_0 l0_0.length c0_0, .slice A0_1 l0_1.length c0_1]] w fun e w' => e = .returned (.bool true) ∧ Below w.heap.size w w' := by
  have hu24 := Try.underlying24
  have hu28 := Try.underlying28
  have hu26 := Try.underlying26
  have HR0_0 := Aside0.mk hr0_0
  have HC0_0 := Aside0.mk hc0_0
  clear hr0_0 hc0_0
  have HR0_1 := Aside0.mk hr0_1
  have HC0_1 := Aside0.mk hc0_1
  clear hr0_1 hc0_1
  have HB := Aside0.mk (Below.refl w.heap.size w)
  have H : ((laws_szJournal.f l0_0 l0_1 1048576).bind fun t372 => (if t372 < 0 then (some true) else ((laws_toJournal.f k l0_0 l0_1).bind fun bt373 => ((spec_SyncJournal.f k bt373.1 bt373.2).bind fun bt379 => ((laws_toJournal.f k l0_0 l0_1).bind fun bt388 => ((impl_SyncJournal.f k bt388.1 bt388.2).bind fun bt395 => ((laws_eqJournalResult.f k bt395.1 bt395.2.1 bt395.2.2.1 bt395.2.2.2 bt379.1 bt379.2.1 bt379.2.2.1 bt379.2.2.2).bind fun t404 => (if t404 = true then ((laws_toJournal.f k l0_0 l0_1).bind fun bt405 => ((laws_eqJournal.f k bt388.1 bt388.2 bt405.1 bt405.2).bind fun t411 => (if t411 = true then ((laws_markJournal.f k bt388.1 bt388.2 1).bind fun bt412 => (if bt412.1 < 0 then (laws_FnExactSyncJournal.j0 k true l0_0 l0_1 bt379.1 bt379.2.1 bt379.2.2.1 bt379.2.2.2 bt395.1 bt395.2.1 bt395.2.2.1 bt395.2.2.2) else ((laws_eqJournalResult.f k bt395.1 bt395.2.1 bt395.2.2.1 bt395.2.2.2 bt379.1 bt379.2.1 bt379.2.2.1 bt379.2.2.2).bind fun t415 => (laws_FnExactSyncJournal.j0 k (!t415) l0_0 l0_1 bt379.1 bt379.2.1 bt379.2.2.1 bt379.2.2.2 bt395.1 bt395.2.1 bt395.2.2.1 bt395.2.2.2)))) else (some false)))) else (some false))))))))) = some true := h
  clear h
  replace H := Option.bind_eq_some_iff.mp H
  obtain ⟨t372, A20, H⟩ := H
  replace H : (if t372 < 0 then (some true) else ((laws_toJournal.f k l0_0 l0_1).bind fun bt373 => ((spec_SyncJournal.f k bt373.1 bt373.2).bind fun bt379 => ((laws_toJournal.f k l0_0 l0_1).bind fun bt388 => ((impl_SyncJournal.f k bt388.1 bt388.2).bind fun bt395 => ((laws_eqJournalResult.f k bt395.1 bt395.2.1 bt395.2.2.1 bt395.2.2.2 bt379.1 bt379.2.1 bt379.2.2.1 bt379.2.2.2).bind fun t404 => (if t404 = true then ((laws_toJournal.f k l0_0 l0_1).bind fun bt405 => ((laws_eqJournal.f k bt388.1 bt388.2 bt405.1 bt405.2).bind fun t411 => (if t411 = true then ((laws_markJournal.f k bt388.1 bt388.2 1).bind fun bt412 => (if bt412.1 < 0 then (laws_FnExactSyncJournal.j0 k true l0_0 l0_1 bt379.1 bt379.2.1 bt379.2.2.1 bt379.2.2.2 bt395.1 bt395.2.1 bt395.2.2.1 bt395.2.2.2) else ((laws_eqJournalResult.f k bt395.1 bt395.2.1 bt395.2.2.1 bt395.2.2.2 bt379.1 bt379.2.1 bt379.2.2.1 bt379.2.2.2).bind fun t415 => (laws_FnExactSyncJournal.j0 k (!t415) l0_0 l0_1 bt379.1 bt379.2.1 bt379.2.2.1 bt379.2.2.2 bt395.1 bt395.2.1 bt395.2.2.1 bt395.2.2.2)))) else (some false)))) else (some false)))))))) = some true := H
  have A2 := Aside0.mk A20
  clear A20
  by_cases c3 : t372 < 0
  · rw [if_pos c3] at H
    have c3b0 : decide (t372 < 0) = true := decide_eq_true c3
    clear c3
    clear H
    go_enter Try.func3, Try.ntmps3
    go_wp2_with (first | ((with_reducible refine gate_dst (N := 1) rfl ?_); refine box_e_ 1 #[.slice A0_0 l0_0.length c0_0, .slice A0_1 l0_1.length c0_1] 24 ?_; intro gb371 hg w4 hbox hb; have BK371 := Aside0.mk (hbox); have GW371 := (bs_ hg : Aside0 (w.heap.size ≤ _)); have GE371 := (bs_ hg : Aside0 (w.heap.size ≤ _)); replace HB := Aside0.mk (below_step bb_ hb); clear hb hbox hg; obtain ⟨hcz5_0, hcz5_1, hfz5_0, hfz5_1⟩ := cf2_ BK371) | ((with_reducible refine gate_callee (f := 15) rfl ?_); refine goe_ (some 13) Try.func15 #[.agg #[.slice A0_0 l0_0.length c0_0, .slice A0_1 l0_1.length c0_1], .int .i64 1048576] ?_; (with_reducible refine (laws_szJournal.calls _ _ l0_0 _ _ l0_1 1048576 t372 _ ?side1 ?side2 ?side3 ?side4 A2.out).mono ?_); (case side1 => exact kc_ (Kd.C_below HR0_0.out HB.out)); (case side2 => exact HC0_0.out); (case side3 => exact kc_ (Kd.C_below HR0_1.out HB.out)); (case side4 => exact HC0_1.out); rintro e w6 ⟨rfl, hb⟩; refine ⟨_, rfl, ?_⟩; replace BK371 := Aside0.mk (blk_below (kb_ BK371) hb); replace HB := Aside0.mk (below_step bb_ hb); (try clear hb); (try clear hb2); (try clear hk); (try clear hi)))
    go_ret
    exact ⟨er_, bb_⟩
  · rw [if_neg c3] at H
    have c3b0 : decide (t372 < 0) = false := decide_eq_false c3
    clear c3
    replace H := Option.bind_eq_some_iff.mp H
    obtain ⟨⟨t373, t376⟩, A70, H⟩ := H
    replace H : ((spec_SyncJournal.f k t373 t376).bind fun bt379 => ((laws_toJournal.f k l0_0 l0_1).bind fun bt388 => ((impl_SyncJournal.f k bt388.1 bt388.2).bind fun bt395 => ((laws_eqJournalResult.f k bt395.1 bt395.2.1 bt395.2.2.1 bt395.2.2.2 bt379.1 bt379.2.1 bt379.2.2.1 bt379.2.2.2).bind fun t404 => (if t404 = true then ((laws_toJournal.f k l0_0 l0_1).bind fun bt405 => ((laws_eqJournal.f k bt388.1 bt388.2 bt405.1 bt405.2).bind fun t411 => (if t411 = true then ((laws_markJournal.f k bt388.1 bt388.2 1).bind fun bt412 => (if bt412.1 < 0 then (laws_FnExactSyncJournal.j0 k true l0_0 l0_1 bt379.1 bt379.2.1 bt379.2.2.1 bt379.2.2.2 bt395.1 bt395.2.1 bt395.2.2.1 bt395.2.2.2) else ((laws_eqJournalResult.f k bt395.1 bt395.2.1 bt395.2.2.1 bt395.2.2.2 bt379.1 bt379.2.1 bt379.2.2.1 bt379.2.2.2).bind fun t415 => (laws_FnExactSyncJournal.j0 k (!t415) l0_0 l0_1 bt379.1 bt379.2.1 bt379.2.2.1 bt379.2.2.2 bt395.1 bt395.2.1 bt395.2.2.1 bt395.2.2.2)))) else (some false)))) else (some false)))))) = some true := H
    have A7 := Aside0.mk A70
    clear A70
    replace H := Option.bind_eq_some_iff.mp H
    obtain ⟨⟨t379, t380, t381, t384⟩, A80, H⟩ := H
    replace H : ((laws_toJournal.f k l0_0 l0_1).bind fun bt388 => ((impl_SyncJournal.f k bt388.1 bt388.2).bind fun bt395 => ((laws_eqJournalResult.f k bt395.1 bt395.2.1 bt395.2.2.1 bt395.2.2.2 t379 t380 t381 t384).bind fun t404 => (if t404 = true then ((laws_toJournal.f k l0_0 l0_1).bind fun bt405 => ((laws_eqJournal.f k bt388.1 bt388.2 bt405.1 bt405.2).bind fun t411 => (if t411 = true then ((laws_markJournal.f k bt388.1 bt388.2 1).bind fun bt412 => (if bt412.1 < 0 then (laws_FnExactSyncJournal.j0 k true l0_0 l0_1 t379 t380 t381 t384 bt395.1 bt395.2.1 bt395.2.2.1 bt395.2.2.2) else ((laws_eqJournalResult.f k bt395.1 bt395.2.1 bt395.2.2.1 bt395.2.2.2 t379 t380 t381 t384).bind fun t415 => (laws_FnExactSyncJournal.j0 k (!t415) l0_0 l0_1 t379 t380 t381 t384 bt395.1 bt395.2.1 bt395.2.2.1 bt395.2.2.2)))) else (some false)))) else (some false))))) = some true := H
    have A8 := Aside0.mk A80
    clear A80
    replace H := Option.bind_eq_some_iff.mp H
    obtain ⟨⟨t388, t391⟩, A90, H⟩ := H
    replace H : ((impl_SyncJournal.f k t388 t391).bind fun bt395 => ((laws_eqJournalResult.f k bt395.1 bt395.2.1 bt395.2.2.1 bt395.2.2.2 t379 t380 t381 t384).bind fun t404 => (if t404 = true then ((laws_toJournal.f k l0_0 l0_1).bind fun bt405 => ((laws_eqJournal.f k t388 t391 bt405.1 bt405.2).bind fun t411 => (if t411 = true then ((laws_markJournal.f k t388 t391 1).bind fun bt412 => (if bt412.1 < 0 then (laws_FnExactSyncJournal.j0 k true l0_0 l0_1 t379 t380 t381 t384 bt395.1 bt395.2.1 bt395.2.2.1 bt395.2.2.2) else ((laws_eqJournalResult.f k bt395.1 bt395.2.1 bt395.2.2.1 bt395.2.2.2 t379 t380 t381 t384).bind fun t415 => (laws_FnExactSyncJournal.j0 k (!t415) l0_0 l0_1 t379 t380 t381 t384 bt395.1 bt395.2.1 bt395.2.2.1 bt395.2.2.2)))) else (some false)))) else (some false)))) = some true := H
    have A9 := Aside0.mk A90
    clear A90
    replace H := Option.bind_eq_some_iff.mp H
    obtain ⟨⟨t395, t396, t397, t400⟩, A100, H⟩ := H
    replace H : ((laws_eqJournalResult.f k t395 t396 t397 t400 t379 t380 t381 t384).bind fun t404 => (if t404 = true then ((laws_toJournal.f k l0_0 l0_1).bind fun bt405 => ((laws_eqJournal.f k t388 t391 bt405.1 bt405.2).bind fun t411 => (if t411 = true then ((laws_markJournal.f k t388 t391 1).bind fun bt412 => (if bt412.1 < 0 then (laws_FnExactSyncJournal.j0 k true l0_0 l0_1 t379 t380 t381 t384 t395 t396 t397 t400) else ((laws_eqJournalResult.f k t395 t396 t397 t400 t379 t380 t381 t384).bind fun t415 => (laws_FnExactSyncJournal.j0 k (!t415) l0_0 l0_1 t379 t380 t381 t384 t395 t396 t397 t400)))) else (some false)))) else (some false))) = some true := H
    have A10 := Aside0.mk A100
    clear A100
    replace H := Option.bind_eq_some_iff.mp H
    obtain ⟨t404, A110, H⟩ := H
    replace H : (if t404 = true then ((laws_toJournal.f k l0_0 l0_1).bind fun bt405 => ((laws_eqJournal.f k t388 t391 bt405.1 bt405.2).bind fun t411 => (if t411 = true then ((laws_markJournal.f k t388 t391 1).bind fun bt412 => (if bt412.1 < 0 then (laws_FnExactSyncJournal.j0 k true l0_0 l0_1 t379 t380 t381 t384 t395 t396 t397 t400) else ((laws_eqJournalResult.f k t395 t396 t397 t400 t379 t380 t381 t384).bind fun t415 => (laws_FnExactSyncJournal.j0 k (!t415) l0_0 l0_1 t379 t380 t381 t384 t395 t396 t397 t400)))) else (some false)))) else (some false)) = some true := H
    have A11 := Aside0.mk A110
    clear A110
    by_cases c12 : t404 = true
    · subst c12
      have H1 : ((laws_toJournal.f k l0_0 l0_1).bind fun bt405 => ((laws_eqJournal.f k t388 t391 bt405.1 bt405.2).bind fun t411 => (if t411 = true then ((laws_markJournal.f k t388 t391 1).bind fun bt412 => (if bt412.1 < 0 then (laws_FnExactSyncJournal.j0 k true l0_0 l0_1 t379 t380 t381 t384 t395 t396 t397 t400) else ((laws_eqJournalResult.f k t395 t396 t397 t400 t379 t380 t381 t384).bind fun t415 => (laws_FnExactSyncJournal.j0 k (!t415) l0_0 l0_1 t379 t380 t381 t384 t395 t396 t397 t400)))) else (some false)))) = some true := by rw [if_pos rfl] at H; exact H
      clear H
      have H := H1
      clear H1
      replace H := Option.bind_eq_some_iff.mp H
      obtain ⟨⟨t405, t408⟩, A130, H⟩ := H
      replace H : ((laws_eqJournal.f k t388 t391 t405 t408).bind fun t411 => (if t411 = true then ((laws_markJournal.f k t388 t391 1).bind fun bt412 => (if bt412.1 < 0 then (laws_FnExactSyncJournal.j0 k true l0_0 l0_1 t379 t380 t381 t384 t395 t396 t397 t400) else ((laws_eqJournalResult.f k t395 t396 t397 t400 t379 t380 t381 t384).bind fun t415 => (laws_FnExactSyncJournal.j0 k (!t415) l0_0 l0_1 t379 t380 t381 t384 t395 t396 t397 t400)))) else (some false))) = some true := H
      have A13 := Aside0.mk A130
      clear A130
      replace H := Option.bind_eq_some_iff.mp H
      obtain ⟨t411, A140, H⟩ := H
      replace H : (if t411 = true then ((laws_markJournal.f k t388 t391 1).bind fun bt412 => (if bt412.1 < 0 then (laws_FnExactSyncJournal.j0 k true l0_0 l0_1 t379 t380 t381 t384 t395 t396 t397 t400) else ((laws_eqJournalResult.f k t395 t396 t397 t400 t379 t380 t381 t384).bind fun t415 => (laws_FnExactSyncJournal.j0 k (!t415) l0_0 l0_1 t379 t380 t381 t384 t395 t396 t397 t400)))) else (some false)) = some true := H
      have A14 := Aside0.mk A140
      clear A140
      by_cases c15 : t411 = true
      · subst c15
        have H1 : ((laws_markJournal.f k t388 t391 1).bind fun bt412 => (if bt412.1 < 0 then (laws_FnExactSyncJournal.j0 k true l0_0 l0_1 t379 t380 t381 t384 t395 t396 t397 t400) else ((laws_eqJournalResult.f k t395 t396 t397 t400 t379 t380 t381 t384).bind fun t415 => (laws_FnExactSyncJournal.j0 k (!t415) l0_0 l0_1 t379 t380 t381 t384 t395 t396 t397 t400)))) = some true := by rw [if_pos rfl] at H; exact H
        clear H
        have H := H1
        clear H1
        replace H := Option.bind_eq_some_iff.mp H
        obtain ⟨⟨t412, t413, t414⟩, A160, H⟩ := H
        replace H : (if t412 < 0 then (laws_FnExactSyncJournal.j0 k true l0_0 l0_1 t379 t380 t381 t384 t395 t396 t397 t400) else ((laws_eqJournalResult.f k t395 t396 t397 t400 t379 t380 t381 t384).bind fun t415 => (laws_FnExactSyncJournal.j0 k (!t415) l0_0 l0_1 t379 t380 t381 t384 t395 t396 t397 t400))) = some true := H
        have A16 := Aside0.mk A160
        clear A160
        have HC17 := Aside0.mk H
        clear H
        go_enter Try.func3, Try.ntmps3
        try go_wp2_with (first | ((with_reducible refine gate_dst (N := 1) rfl ?_); refine box_e_ 1 #[.slice A0_0 l0_0.length c0_0, .slice A0_1 l0_1.length c0_1] 24 ?_; intro gb371 hg w18 hbox hb; have BK371 := Aside0.mk (hbox); have GW371 := (bs_ hg : Aside0 (w.heap.size ≤ _)); have GE371 := (bs_ hg : Aside0 (w.heap.size ≤ _)); replace HB := Aside0.mk (below_step bb_ hb); clear hb hbox hg; obtain ⟨hcz19_0, hcz19_1, hfz19_0, hfz19_1⟩ := cf2_ BK371) | ((with_reducible refine gate_callee (f := 15) rfl ?_); refine goe_ (some 13) Try.func15 #[.agg #[.slice A0_0 l0_0.length c0_0, .slice A0_1 l0_1.length c0_1], .int .i64 1048576] ?_; (with_reducible refine (laws_szJournal.calls _ _ l0_0 _ _ l0_1 1048576 t372 _ ?side1 ?side2 ?side3 ?side4 A2.out).mono ?_); (case side1 => exact kc_ (Kd.C_below HR0_0.out HB.out)); (case side2 => exact HC0_0.out); (case side3 => exact kc_ (Kd.C_below HR0_1.out HB.out)); (case side4 => exact HC0_1.out); rintro e w20 ⟨rfl, hb⟩; refine ⟨_, rfl, ?_⟩; replace BK371 := Aside0.mk (blk_below (kb_ BK371) hb); replace HB := Aside0.mk (below_step bb_ hb); (try clear hb); (try clear hb2); (try clear hk); (try clear hi); obtain ⟨hcz21_0, hcz21_1, hfz21_0, hfz21_1⟩ := cf2_ BK371) | ((with_reducible refine gate_callee (f := 17) rfl ?_); refine goe_ (some 17) Try.func17 #[.agg #[.slice A0_0 l0_0.length c0_0, .slice A0_1 l0_1.length c0_1]] ?_; (with_reducible refine (laws_toJournal.calls k _ _ l0_0 _ _ l0_1 t373 t376 _ ?side1 ?side2 ?side3 ?side4 A7.out).mono ?_); (case side1 => exact kc_ (Kd.C_below HR0_0.out HB.out)); (case side2 => exact HC0_0.out); (case side3 => exact kc_ (Kd.C_below HR0_1.out HB.out)); (case side4 => exact HC0_1.out); rintro e w22 ⟨v374, v377, rfl, ho0, ho1, hb⟩; refine ⟨_, rfl, ?_⟩; have HO375 := Aside0.mk (Kd.R_lower ho0 (below_size bb_)); have HO378 := Aside0.mk (Kd.R_lower ho1 (below_size bb_)); replace BK371 := Aside0.mk (blk_below (kb_ BK371) hb); replace HB := Aside0.mk (below_step bb_ hb); (try clear hb); (try clear hb2); (try clear hk); (try clear hi); (try clear ho0); (try clear ho1); obtain ⟨Ao23, co23, eo23⟩ := Kd.R_slice HO375.out; subst eo23; obtain ⟨Ao24, co24, eo24⟩ := Kd.R_slice HO378.out; subst eo24) | ((with_reducible refine gate_callee (f := 16) rfl ?_); refine goe_ (some 18) Try.func16 #[.agg #[.slice Ao23 t373.length co23, .slice Ao24 t376.length co24]] ?_; (with_reducible refine (spec_SyncJournal.calls k _ _ t373 _ _ t376 t379 t380 t381 t384 _ ?side1 ?side2 ?side3 ?side4 A8.out).mono ?_); (case side1 => exact kc_ ((Kd.R_reads' HO375.out).2.2)); (case side2 => exact (Kd.R_reads' HO375.out).2.1); (case side3 => exact kc_ ((Kd.R_reads' HO378.out).2.2)); (case side4 => exact (Kd.R_reads' HO378.out).2.1); rintro e w25 ⟨v382, v385, rfl, ho0, ho1, hb⟩; refine ⟨_, rfl, ?_⟩; have HO383 := Aside0.mk (Kd.R_lower (Kd.R_new' (Kd.R_new' ho0 (Kd.R_lt (kr_ HO375))) (Kd.R_lt (kr_ HO378))) (below_size bb_)); have HO386 := Aside0.mk (Kd.R_lower (Kd.R_new' (Kd.R_new' ho1 (Kd.R_lt (kr_ HO375))) (Kd.R_lt (kr_ HO378))) (below_size bb_)); replace HO375 := Aside0.mk (Kd.R_mono (Kd.R_told (Kd.R_told (Kd.R_old (kr_ HO375) hb) (Kd.R_base ho0)) (Kd.R_base ho1)) (fun _ h_ => h_.1)); replace HO378 := Aside0.mk (Kd.R_mono (Kd.R_told (Kd.R_told (Kd.R_old (kr_ HO378) hb) (Kd.R_base ho0)) (Kd.R_base ho1)) (fun _ h_ => h_.1)); replace BK371 := Aside0.mk (blk_below (kb_ BK371) hb); replace HB := Aside0.mk (below_step bb_ hb); (try clear hb); (try clear hb2); (try clear hk); (try clear hi); (try clear ho0); (try clear ho1)) | ((with_reducible refine gate_dst (N := 4) rfl ?_); refine box_e_ 4 #[.int .i64 0, .int .i64 0, .slice none 0 0, .slice none 0 0] 28 ?_; intro gb387 hg w26 hbox hb; replace HO375 := Aside0.mk (Kd.R_below (kr_ HO375) hb); replace HO378 := Aside0.mk (Kd.R_below (kr_ HO378) hb); replace HO383 := Aside0.mk (Kd.R_below (kr_ HO383) hb); replace HO386 := Aside0.mk (Kd.R_below (kr_ HO386) hb); have BK387 := Aside0.mk (hbox); have GW387 := (bs_ hg : Aside0 (w.heap.size ≤ _)); have GE387 := (bs_ hg : Aside0 (w.heap.size ≤ _)); replace HB := Aside0.mk (below_step bb_ hb); have NB371_387 := (nl_ hg BK371 : Aside0 (gb371 ≠ gb387)); have NB387_371 := (nr_ hg BK371 : Aside0 (gb387 ≠ gb371)); replace BK371 := Aside0.mk (blk_below (kb_ BK371) hb); clear hb hbox hg; have hnb27 := NB387_371.out; have hnc27 := NB371_387.out; obtain ⟨hcz28_0, hcz28_1, hcz28_2, hcz28_3, hfz28_0, hfz28_1, hfz28_2, hfz28_3⟩ := cf4_ BK387; obtain ⟨Ao29, co29, eo29⟩ := Kd.R_slice HO383.out; subst eo29; obtain ⟨Ao30, co30, eo30⟩ := Kd.R_slice HO386.out; subst eo30; obtain ⟨hcz31_0, hcz31_1, hfz31_0, hfz31_1⟩ := cf2_ BK371) | ((with_reducible refine gate_callee (f := 17) rfl ?_); refine goe_ (some 20) Try.func17 #[.agg #[.slice A0_0 l0_0.length c0_0, .slice A0_1 l0_1.length c0_1]] ?_; (with_reducible refine (laws_toJournal.calls k _ _ l0_0 _ _ l0_1 t388 t391 _ ?side1 ?side2 ?side3 ?side4 A9.out).mono ?_); (case side1 => exact Kd.C_below HR0_0.out bb_); (case side2 => exact HC0_0.out); (case side3 => exact Kd.C_below HR0_1.out bb_); (case side4 => exact HC0_1.out); rintro e w32 ⟨v389, v392, rfl, ho0, ho1, hb⟩; refine ⟨_, rfl, ?_⟩; have HO390 := Aside0.mk (Kd.R_lower (Kd.R_new' (Kd.R_new' (Kd.R_new' (Kd.R_new' ho0 (Kd.R_lt (by (with_reducible repeat (first | apply Kd.R_alloc | apply Kd.R_drewN | apply Kd.R_drew)); exact (Kd.R_mono (Kd.R_far (p := ⟨gb387, 3, none⟩) (Kd.R_far (p := ⟨gb387, 2, none⟩) (Kd.R_far (p := ⟨gb387, 1, none⟩) (Kd.R_far (p := ⟨gb387, 0, none⟩) (Kd.R_types HO375.out BK387.out (by decide)) (fun _ hk => hk.2) (.int .i64 t379)) (fun _ hk => hk.2) (.int .i64 t380)) (fun _ hk => hk.2) (.slice Ao29 t381.length co29)) (fun _ hk => hk.2) (.slice Ao30 t384.length co30)) (fun _ h_ => h_.1))))) (Kd.R_lt (by (with_reducible repeat (first | apply Kd.R_alloc | apply Kd.R_drewN | apply Kd.R_drew)); exact (Kd.R_mono (Kd.R_far (p := ⟨gb387, 3, none⟩) (Kd.R_far (p := ⟨gb387, 2, none⟩) (Kd.R_far (p := ⟨gb387, 1, none⟩) (Kd.R_far (p := ⟨gb387, 0, none⟩) (Kd.R_types HO378.out BK387.out (by decide)) (fun _ hk => hk.2) (.int .i64 t379)) (fun _ hk => hk.2) (.int .i64 t380)) (fun _ hk => hk.2) (.slice Ao29 t381.length co29)) (fun _ hk => hk.2) (.slice Ao30 t384.length co30)) (fun _ h_ => h_.1))))) (Kd.R_lt (by (with_reducible repeat (first | apply Kd.R_alloc | apply Kd.R_drewN | apply Kd.R_drew)); exact (Kd.R_mono (Kd.R_far (p := ⟨gb387, 3, none⟩) (Kd.R_far (p := ⟨gb387, 2, none⟩) (Kd.R_far (p := ⟨gb387, 1, none⟩) (Kd.R_far (p := ⟨gb387, 0, none⟩) (Kd.R_types HO383.out BK387.out (by decide)) (fun _ hk => hk.2) (.int .i64 t379)) (fun _ hk => hk.2) (.int .i64 t380)) (fun _ hk => hk.2) (.slice Ao29 t381.length co29)) (fun _ hk => hk.2) (.slice Ao30 t384.length co30)) (fun _ h_ => h_.1))))) (Kd.R_lt (by (with_reducible repeat (first | apply Kd.R_alloc | apply Kd.R_drewN | apply Kd.R_drew)); exact (Kd.R_mono (Kd.R_far (p := ⟨gb387, 3, none⟩) (Kd.R_far (p := ⟨gb387, 2, none⟩) (Kd.R_far (p := ⟨gb387, 1, none⟩) (Kd.R_far (p := ⟨gb387, 0, none⟩) (Kd.R_types HO386.out BK387.out (by decide)) (fun _ hk => hk.2) (.int .i64 t379)) (fun _ hk => hk.2) (.int .i64 t380)) (fun _ hk => hk.2) (.slice Ao29 t381.length co29)) (fun _ hk => hk.2) (.slice Ao30 t384.length co30)) (fun _ h_ => h_.1))))) (below_size bb_)); have HO393 := Aside0.mk (Kd.R_lower (Kd.R_new' (Kd.R_new' (Kd.R_new' (Kd.R_new' ho1 (Kd.R_lt (by (with_reducible repeat (first | apply Kd.R_alloc | apply Kd.R_drewN | apply Kd.R_drew)); exact (Kd.R_mono (Kd.R_far (p := ⟨gb387, 3, none⟩) (Kd.R_far (p := ⟨gb387, 2, none⟩) (Kd.R_far (p := ⟨gb387, 1, none⟩) (Kd.R_far (p := ⟨gb387, 0, none⟩) (Kd.R_types HO375.out BK387.out (by decide)) (fun _ hk => hk.2) (.int .i64 t379)) (fun _ hk => hk.2) (.int .i64 t380)) (fun _ hk => hk.2) (.slice Ao29 t381.length co29)) (fun _ hk => hk.2) (.slice Ao30 t384.length co30)) (fun _ h_ => h_.1))))) (Kd.R_lt (by (with_reducible repeat (first | apply Kd.R_alloc | apply Kd.R_drewN | apply Kd.R_drew)); exact (Kd.R_mono (Kd.R_far (p := ⟨gb387, 3, none⟩) (Kd.R_far (p := ⟨gb387, 2, none⟩) (Kd.R_far (p := ⟨gb387, 1, none⟩) (Kd.R_far (p := ⟨gb387, 0, none⟩) (Kd.R_types HO378.out BK387.out (by decide)) (fun _ hk => hk.2) (.int .i64 t379)) (fun _ hk => hk.2) (.int .i64 t380)) (fun _ hk => hk.2) (.slice Ao29 t381.length co29)) (fun _ hk => hk.2) (.slice Ao30 t384.length co30)) (fun _ h_ => h_.1))))) (Kd.R_lt (by (with_reducible repeat (first | apply Kd.R_alloc | apply Kd.R_drewN | apply Kd.R_drew)); exact (Kd.R_mono (Kd.R_far (p := ⟨gb387, 3, none⟩) (Kd.R_far (p := ⟨gb387, 2, none⟩) (Kd.R_far (p := ⟨gb387, 1, none⟩) (Kd.R_far (p := ⟨gb387, 0, none⟩) (Kd.R_types HO383.out BK387.out (by decide)) (fun _ hk => hk.2) (.int .i64 t379)) (fun _ hk => hk.2) (.int .i64 t380)) (fun _ hk => hk.2) (.slice Ao29 t381.length co29)) (fun _ hk => hk.2) (.slice Ao30 t384.length co30)) (fun _ h_ => h_.1))))) (Kd.R_lt (by (with_reducible repeat (first | apply Kd.R_alloc | apply Kd.R_drewN | apply Kd.R_drew)); exact (Kd.R_mono (Kd.R_far (p := ⟨gb387, 3, none⟩) (Kd.R_far (p := ⟨gb387, 2, none⟩) (Kd.R_far (p := ⟨gb387, 1, none⟩) (Kd.R_far (p := ⟨gb387, 0, none⟩) (Kd.R_types HO386.out BK387.out (by decide)) (fun _ hk => hk.2) (.int .i64 t379)) (fun _ hk => hk.2) (.int .i64 t380)) (fun _ hk => hk.2) (.slice Ao29 t381.length co29)) (fun _ hk => hk.2) (.slice Ao30 t384.length co30)) (fun _ h_ => h_.1))))) (below_size bb_)); replace HO375 := Aside0.mk (Kd.R_mono (Kd.R_told (Kd.R_told (Kd.R_old (by (with_reducible repeat (first | apply Kd.R_alloc | apply Kd.R_drewN | apply Kd.R_drew)); exact (Kd.R_mono (Kd.R_far (p := ⟨gb387, 3, none⟩) (Kd.R_far (p := ⟨gb387, 2, none⟩) (Kd.R_far (p := ⟨gb387, 1, none⟩) (Kd.R_far (p := ⟨gb387, 0, none⟩) (Kd.R_types HO375.out BK387.out (by decide)) (fun _ hk => hk.2) (.int .i64 t379)) (fun _ hk => hk.2) (.int .i64 t380)) (fun _ hk => hk.2) (.slice Ao29 t381.length co29)) (fun _ hk => hk.2) (.slice Ao30 t384.length co30)) (fun _ h_ => h_.1))) hb) (Kd.R_base ho0)) (Kd.R_base ho1)) (fun _ h_ => h_.1)); replace HO378 := Aside0.mk (Kd.R_mono (Kd.R_told (Kd.R_told (Kd.R_old (by (with_reducible repeat (first | apply Kd.R_alloc | apply Kd.R_drewN | apply Kd.R_drew)); exact (Kd.R_mono (Kd.R_far (p := ⟨gb387, 3, none⟩) (Kd.R_far (p := ⟨gb387, 2, none⟩) (Kd.R_far (p := ⟨gb387, 1, none⟩) (Kd.R_far (p := ⟨gb387, 0, none⟩) (Kd.R_types HO378.out BK387.out (by decide)) (fun _ hk => hk.2) (.int .i64 t379)) (fun _ hk => hk.2) (.int .i64 t380)) (fun _ hk => hk.2) (.slice Ao29 t381.length co29)) (fun _ hk => hk.2) (.slice Ao30 t384.length co30)) (fun _ h_ => h_.1))) hb) (Kd.R_base ho0)) (Kd.R_base ho1)) (fun _ h_ => h_.1)); replace HO383 := Aside0.mk (Kd.R_mono (Kd.R_told (Kd.R_told (Kd.R_old (by (with_reducible repeat (first | apply Kd.R_alloc | apply Kd.R_drewN | apply Kd.R_drew)); exact (Kd.R_mono (Kd.R_far (p := ⟨gb387, 3, none⟩) (Kd.R_far (p := ⟨gb387, 2, none⟩) (Kd.R_far (p := ⟨gb387, 1, none⟩) (Kd.R_far (p := ⟨gb387, 0, none⟩) (Kd.R_types HO383.out BK387.out (by decide)) (fun _ hk => hk.2) (.int .i64 t379)) (fun _ hk => hk.2) (.int .i64 t380)) (fun _ hk => hk.2) (.slice Ao29 t381.length co29)) (fun _ hk => hk.2) (.slice Ao30 t384.length co30)) (fun _ h_ => h_.1))) hb) (Kd.R_base ho0)) (Kd.R_base ho1)) (fun _ h_ => h_.1)); replace HO386 := Aside0.mk (Kd.R_mono (Kd.R_told (Kd.R_told (Kd.R_old (by (with_reducible repeat (first | apply Kd.R_alloc | apply Kd.R_drewN | apply Kd.R_drew)); exact (Kd.R_mono (Kd.R_far (p := ⟨gb387, 3, none⟩) (Kd.R_far (p := ⟨gb387, 2, none⟩) (Kd.R_far (p := ⟨gb387, 1, none⟩) (Kd.R_far (p := ⟨gb387, 0, none⟩) (Kd.R_types HO386.out BK387.out (by decide)) (fun _ hk => hk.2) (.int .i64 t379)) (fun _ hk => hk.2) (.int .i64 t380)) (fun _ hk => hk.2) (.slice Ao29 t381.length co29)) (fun _ hk => hk.2) (.slice Ao30 t384.length co30)) (fun _ h_ => h_.1))) hb) (Kd.R_base ho0)) (Kd.R_base ho1)) (fun _ h_ => h_.1)); replace BK371 := Aside0.mk (blk_below (kb_ BK371) hb); replace BK387 := Aside0.mk (blk_below (g := gb387) (o := .cells #[.int .i64 t379, .int .i64 t380, .slice Ao29 t381.length co29, .slice Ao30 t384.length co30] 28 (0, 0)) (by (with_reducible repeat (first | refine blk_drewN ?_ _ | refine blk_drew ?_ | refine blk_alloc ?_ _)); refine blk_put (cs := #[.int .i64 t379, .int .i64 t380, .slice Ao29 t381.length co29, .slice none 0 0]) ?_ 3 _ rfl; (with_reducible repeat (first | refine blk_drewN ?_ _ | refine blk_drew ?_ | refine blk_alloc ?_ _)); refine blk_put (cs := #[.int .i64 t379, .int .i64 t380, .slice none 0 0, .slice none 0 0]) ?_ 2 _ rfl; (with_reducible repeat (first | refine blk_drewN ?_ _ | refine blk_drew ?_ | refine blk_alloc ?_ _)); refine blk_put (cs := #[.int .i64 t379, .int .i64 0, .slice none 0 0, .slice none 0 0]) ?_ 1 _ rfl; (with_reducible repeat (first | refine blk_drewN ?_ _ | refine blk_drew ?_ | refine blk_alloc ?_ _)); refine blk_put (cs := #[.int .i64 0, .int .i64 0, .slice none 0 0, .slice none 0 0]) ?_ 0 _ rfl; (with_reducible repeat (first | refine blk_drewN ?_ _ | refine blk_drew ?_ | refine blk_alloc ?_ _)); exact BK387.out) hb); replace HB := Aside0.mk (below_step bb_ hb); (try clear hb); (try clear hb2); (try clear hk); (try clear hi); (try clear ho0); (try clear ho1)) | ((with_reducible refine gate_dst (N := 5) rfl ?_); refine box_e_ 5 #[.slice none 0 0, .slice none 0 0] 26 ?_; intro gb394 hg w33 hbox hb; replace HO375 := Aside0.mk (Kd.R_below (kr_ HO375) hb); replace HO378 := Aside0.mk (Kd.R_below (kr_ HO378) hb); replace HO383 := Aside0.mk (Kd.R_below (kr_ HO383) hb); replace HO386 := Aside0.mk (Kd.R_below (kr_ HO386) hb); replace HO390 := Aside0.mk (Kd.R_below (kr_ HO390) hb); replace HO393 := Aside0.mk (Kd.R_below (kr_ HO393) hb); have BK394 := Aside0.mk (hbox); have GW394 := (bs_ hg : Aside0 (w.heap.size ≤ _)); have GE394 := (bs_ hg : Aside0 (w.heap.size ≤ _)); replace HB := Aside0.mk (below_step bb_ hb); have NB371_394 := (nl_ hg BK371 : Aside0 (gb371 ≠ gb394)); have NB394_371 := (nr_ hg BK371 : Aside0 (gb394 ≠ gb371)); replace BK371 := Aside0.mk (blk_below (kb_ BK371) hb); have NB387_394 := (nl_ hg BK387 : Aside0 (gb387 ≠ gb394)); have NB394_387 := (nr_ hg BK387 : Aside0 (gb394 ≠ gb387)); replace BK387 := Aside0.mk (blk_below (kb_ BK387) hb); clear hb hbox hg; obtain ⟨Ao34, co34, eo34⟩ := Kd.R_slice HO390.out; subst eo34; have hnb35 := NB394_371.out; have hnc35 := NB371_394.out; have hnb36 := NB394_387.out; have hnc36 := NB387_394.out; obtain ⟨hcz37_0, hcz37_1, hfz37_0, hfz37_1⟩ := cf2_ BK394; obtain ⟨Ao38, co38, eo38⟩ := Kd.R_slice HO393.out; subst eo38) | ((with_reducible refine gate_store (t := 26) (p := 5) rfl ?_); refine store_event (t := 26) (p := 5) (v := ?vo_w39) (w1 := ((w33.setCell ⟨gb394, 0, none⟩ (.slice Ao34 t388.length co34)).setCell ⟨gb394, 1, none⟩ (.slice Ao38 t391.length co38))) ?hg ?ho ?hn ?hr ?_; (case ho => rfl); (case hg => rfl); (case hn => rfl); (case hr => first | (go_simp; done) | (go_simp; rfl)); intro w39 hw; have n0_ : Aside0 (Kd.R (Kd.int .u8) 5 w39 w.heap.size (fun k_ => some k_ ≠ (.slice Ao24 t376.length co24 : Value).ownBlock ∧ some k_ ≠ (.slice Ao29 t381.length co29 : Value).ownBlock ∧ some k_ ≠ (.slice Ao30 t384.length co30 : Value).ownBlock ∧ some k_ ≠ (.slice Ao34 t388.length co34 : Value).ownBlock ∧ some k_ ≠ (.slice Ao38 t391.length co38 : Value).ownBlock) (.slice Ao23 t373.length co23) t373) := ⟨(by rw [hw]; exact (by (with_reducible repeat (first | apply Kd.R_alloc | apply Kd.R_drewN | apply Kd.R_drew)); exact Kd.R_mono (Kd.R_far (p := ⟨gb394, 1, none⟩) (Kd.R_far (p := ⟨gb394, 0, none⟩) (Kd.R_types HO375.out BK394.out (by decide)) (fun _ hk => hk.2) (.slice Ao34 t388.length co34)) (fun _ hk => hk.2) (.slice Ao38 t391.length co38)) (fun _ hk => ⟨hk.1.1.1.1.1, ⟨hk.1.1.1.1.2, ⟨hk.1.1.1.2, ⟨hk.1.1.2, hk.1.2⟩⟩⟩⟩)))⟩; have n1_ : Aside0 (Kd.R (Kd.int .u8) 5 w39 w.heap.size (fun k_ => some k_ ≠ (.slice Ao23 t373.length co23 : Value).ownBlock ∧ some k_ ≠ (.slice Ao29 t381.length co29 : Value).ownBlock ∧ some k_ ≠ (.slice Ao30 t384.length co30 : Value).ownBlock ∧ some k_ ≠ (.slice Ao34 t388.length co34 : Value).ownBlock ∧ some k_ ≠ (.slice Ao38 t391.length co38 : Value).ownBlock) (.slice Ao24 t376.length co24) t376) := ⟨(by rw [hw]; exact (by (with_reducible repeat (first | apply Kd.R_alloc | apply Kd.R_drewN | apply Kd.R_drew)); exact Kd.R_mono (Kd.R_far (p := ⟨gb394, 1, none⟩) (Kd.R_far (p := ⟨gb394, 0, none⟩) (Kd.R_types HO378.out BK394.out (by decide)) (fun _ hk => hk.2) (.slice Ao34 t388.length co34)) (fun _ hk => hk.2) (.slice Ao38 t391.length co38)) (fun _ hk => ⟨hk.1.1.1.1.1, ⟨hk.1.1.1.1.2, ⟨hk.1.1.1.2, ⟨hk.1.1.2, hk.1.2⟩⟩⟩⟩)))⟩; have n2_ : Aside0 (Kd.R (Kd.int .u8) 5 w39 w.heap.size (fun k_ => some k_ ≠ (.slice Ao23 t373.length co23 : Value).ownBlock ∧ some k_ ≠ (.slice Ao24 t376.length co24 : Value).ownBlock ∧ some k_ ≠ (.slice Ao30 t384.length co30 : Value).ownBlock ∧ some k_ ≠ (.slice Ao34 t388.length co34 : Value).ownBlock ∧ some k_ ≠ (.slice Ao38 t391.length co38 : Value).ownBlock) (.slice Ao29 t381.length co29) t381) := ⟨(by rw [hw]; exact (by (with_reducible repeat (first | apply Kd.R_alloc | apply Kd.R_drewN | apply Kd.R_drew)); exact Kd.R_mono (Kd.R_far (p := ⟨gb394, 1, none⟩) (Kd.R_far (p := ⟨gb394, 0, none⟩) (Kd.R_types HO383.out BK394.out (by decide)) (fun _ hk => hk.2) (.slice Ao34 t388.length co34)) (fun _ hk => hk.2) (.slice Ao38 t391.length co38)) (fun _ hk => ⟨hk.1.1.1.1.2, ⟨hk.1.1.1.2, ⟨hk.1.1.1.1.1, ⟨hk.1.1.2, hk.1.2⟩⟩⟩⟩)))⟩; have n3_ : Aside0 (Kd.R (Kd.int .u8) 5 w39 w.heap.size (fun k_ => some k_ ≠ (.slice Ao23 t373.length co23 : Value).ownBlock ∧ some k_ ≠ (.slice Ao24 t376.length co24 : Value).ownBlock ∧ some k_ ≠ (.slice Ao29 t381.length co29 : Value).ownBlock ∧ some k_ ≠ (.slice Ao34 t388.length co34 : Value).ownBlock ∧ some k_ ≠ (.slice Ao38 t391.length co38 : Value).ownBlock) (.slice Ao30 t384.length co30) t384) := ⟨(by rw [hw]; exact (by (with_reducible repeat (first | apply Kd.R_alloc | apply Kd.R_drewN | apply Kd.R_drew)); exact Kd.R_mono (Kd.R_far (p := ⟨gb394, 1, none⟩) (Kd.R_far (p := ⟨gb394, 0, none⟩) (Kd.R_types HO386.out BK394.out (by decide)) (fun _ hk => hk.2) (.slice Ao34 t388.length co34)) (fun _ hk => hk.2) (.slice Ao38 t391.length co38)) (fun _ hk => ⟨hk.1.1.1.1.2, ⟨hk.1.1.1.2, ⟨hk.1.1.1.1.1, ⟨hk.1.1.2, hk.1.2⟩⟩⟩⟩)))⟩; have n4_ : Aside0 (Kd.R (Kd.int .u8) 5 w39 w.heap.size (fun k_ => some k_ ≠ (.slice Ao23 t373.length co23 : Value).ownBlock ∧ some k_ ≠ (.slice Ao24 t376.length co24 : Value).ownBlock ∧ some k_ ≠ (.slice Ao29 t381.length co29 : Value).ownBlock ∧ some k_ ≠ (.slice Ao30 t384.length co30 : Value).ownBlock ∧ some k_ ≠ (.slice Ao38 t391.length co38 : Value).ownBlock) (.slice Ao34 t388.length co34) t388) := ⟨(by rw [hw]; exact (by (with_reducible repeat (first | apply Kd.R_alloc | apply Kd.R_drewN | apply Kd.R_drew)); exact Kd.R_mono (Kd.R_far (p := ⟨gb394, 1, none⟩) (Kd.R_far (p := ⟨gb394, 0, none⟩) (Kd.R_types HO390.out BK394.out (by decide)) (fun _ hk => hk.2) (.slice Ao34 t388.length co34)) (fun _ hk => hk.2) (.slice Ao38 t391.length co38)) (fun _ hk => ⟨hk.1.1.1.1.2, ⟨hk.1.1.1.2, ⟨hk.1.1.2, ⟨hk.1.2, hk.1.1.1.1.1⟩⟩⟩⟩)))⟩; have n5_ : Aside0 (Kd.R (Kd.int .u8) 5 w39 w.heap.size (fun k_ => some k_ ≠ (.slice Ao23 t373.length co23 : Value).ownBlock ∧ some k_ ≠ (.slice Ao24 t376.length co24 : Value).ownBlock ∧ some k_ ≠ (.slice Ao29 t381.length co29 : Value).ownBlock ∧ some k_ ≠ (.slice Ao30 t384.length co30 : Value).ownBlock ∧ some k_ ≠ (.slice Ao34 t388.length co34 : Value).ownBlock) (.slice Ao38 t391.length co38) t391) := ⟨(by rw [hw]; exact (by (with_reducible repeat (first | apply Kd.R_alloc | apply Kd.R_drewN | apply Kd.R_drew)); exact Kd.R_mono (Kd.R_far (p := ⟨gb394, 1, none⟩) (Kd.R_far (p := ⟨gb394, 0, none⟩) (Kd.R_types HO393.out BK394.out (by decide)) (fun _ hk => hk.2) (.slice Ao34 t388.length co34)) (fun _ hk => hk.2) (.slice Ao38 t391.length co38)) (fun _ hk => ⟨hk.1.1.1.1.2, ⟨hk.1.1.1.2, ⟨hk.1.1.2, ⟨hk.1.2, hk.1.1.1.1.1⟩⟩⟩⟩)))⟩; have n6_ : Aside0 (w39.heap[gb371]? = some (.cells #[.slice A0_0 l0_0.length c0_0, .slice A0_1 l0_1.length c0_1] 24 (0, 0))) := ⟨(by rw [hw]; exact (by (with_reducible repeat (first | refine blk_drewN ?_ _ | refine blk_drew ?_ | refine blk_alloc ?_ _)); refine blk_far ?_ NB371_394.out _; (with_reducible repeat (first | refine blk_drewN ?_ _ | refine blk_drew ?_ | refine blk_alloc ?_ _)); refine blk_far ?_ NB371_394.out _; (with_reducible repeat (first | refine blk_drewN ?_ _ | refine blk_drew ?_ | refine blk_alloc ?_ _)); exact BK371.out))⟩; have n7_ : Aside0 (w39.heap[gb387]? = some (.cells #[.int .i64 t379, .int .i64 t380, .slice Ao29 t381.length co29, .slice Ao30 t384.length co30] 28 (0, 0))) := ⟨(by rw [hw]; exact (by (with_reducible repeat (first | refine blk_drewN ?_ _ | refine blk_drew ?_ | refine blk_alloc ?_ _)); refine blk_far ?_ NB387_394.out _; (with_reducible repeat (first | refine blk_drewN ?_ _ | refine blk_drew ?_ | refine blk_alloc ?_ _)); refine blk_far ?_ NB387_394.out _; (with_reducible repeat (first | refine blk_drewN ?_ _ | refine blk_drew ?_ | refine blk_alloc ?_ _)); exact BK387.out))⟩; have n8_ : Aside0 (w39.heap[gb394]? = some (.cells #[.slice Ao34 t388.length co34, .slice Ao38 t391.length co38] 26 (0, 0))) := ⟨(by rw [hw]; exact (by (with_reducible repeat (first | refine blk_drewN ?_ _ | refine blk_drew ?_ | refine blk_alloc ?_ _)); refine blk_put (cs := #[.slice Ao34 t388.length co34, .slice none 0 0]) ?_ 1 _ rfl; (with_reducible repeat (first | refine blk_drewN ?_ _ | refine blk_drew ?_ | refine blk_alloc ?_ _)); refine blk_put (cs := #[.slice none 0 0, .slice none 0 0]) ?_ 0 _ rfl; (with_reducible repeat (first | refine blk_drewN ?_ _ | refine blk_drew ?_ | refine blk_alloc ?_ _)); exact BK394.out))⟩; have n9_ : Aside0 (Below w.heap.size w w39) := ⟨(by rw [hw]; exact bb_)⟩; clear hw; clear HO375; clear HO378; clear HO383; clear HO386; clear HO390; clear HO393; clear BK371; clear BK387; clear BK394; clear HB; have HO375 := n0_; have HO378 := n1_; have HO383 := n2_; have HO386 := n3_; have HO390 := n4_; have HO393 := n5_; have BK371 := n6_; have BK387 := n7_; have BK394 := n8_; have HB := n9_; clear n0_ n1_ n2_ n3_ n4_ n5_ n6_ n7_ n8_ n9_; obtain ⟨hcz40_0, hcz40_1, hfz40_0, hfz40_1⟩ := cf2_ BK394) | ((with_reducible refine gate_callee (f := 18) rfl ?_); refine goe_ (some 22) Try.func18 #[.agg #[.slice Ao34 t388.length co34, .slice Ao38 t391.length co38]] ?_; (with_reducible refine (impl_SyncJournal.calls k (fun k_ => some k_ = (.slice Ao34 t388.length co34 : Value).ownBlock) _ _ t388 (fun k_ => some k_ = (.slice Ao38 t391.length co38 : Value).ownBlock) _ _ t391 t395 t396 t397 t400 _ ?side1 ?side2 A10.out).mono ?_); (case side1 => exact Kd.R_V (Kd.R_tight rfl (Kd.R_types (Kd.R_types (Kd.R_types (HO390.out) BK371.out (by decide)) BK387.out (by decide)) BK394.out (by decide)))); (case side2 => exact Kd.R_V (Kd.R_tight rfl (Kd.R_types (Kd.R_types (Kd.R_types (HO393.out) BK371.out (by decide)) BK387.out (by decide)) BK394.out (by decide)))); rintro e w41 ⟨v398, v401, rfl, ho0, ho1, hb⟩; refine ⟨_, rfl, ?_⟩; have HO399 := Aside0.mk (Kd.R_lower (Kd.R_new' (Kd.R_new' (Kd.R_new' (Kd.R_new' (Kd.R_new' (Kd.R_new' (Kd.R_mono (ok' := fun k_ => some k_ ≠ (v401 : Value).ownBlock) ho0 (fun _ hk_ => hk_.2)) (Kd.R_lt (kr_ HO375))) (Kd.R_lt (kr_ HO378))) (Kd.R_lt (kr_ HO383))) (Kd.R_lt (kr_ HO386))) (Kd.R_lt (kr_ HO390))) (Kd.R_lt (kr_ HO393))) (below_size bb_)); have HO402 := Aside0.mk (Kd.R_lower (Kd.R_new' (Kd.R_new' (Kd.R_new' (Kd.R_new' (Kd.R_new' (Kd.R_new' (Kd.R_mono (ok' := fun k_ => some k_ ≠ (v398 : Value).ownBlock) ho1 (fun _ hk_ => hk_.2)) (Kd.R_lt (kr_ HO375))) (Kd.R_lt (kr_ HO378))) (Kd.R_lt (kr_ HO383))) (Kd.R_lt (kr_ HO386))) (Kd.R_lt (kr_ HO390))) (Kd.R_lt (kr_ HO393))) (below_size bb_)); replace HO375 := Aside0.mk (Kd.R_mono (Kd.R_told (Kd.R_told (Kd.R_old (kr_ HO375) hb) (Kd.R_base ho0)) (Kd.R_base ho1)) (fun _ h_ => h_.1)); replace HO378 := Aside0.mk (Kd.R_mono (Kd.R_told (Kd.R_told (Kd.R_old (kr_ HO378) hb) (Kd.R_base ho0)) (Kd.R_base ho1)) (fun _ h_ => h_.1)); replace HO383 := Aside0.mk (Kd.R_mono (Kd.R_told (Kd.R_told (Kd.R_old (kr_ HO383) hb) (Kd.R_base ho0)) (Kd.R_base ho1)) (fun _ h_ => h_.1)); replace HO386 := Aside0.mk (Kd.R_mono (Kd.R_told (Kd.R_told (Kd.R_old (kr_ HO386) hb) (Kd.R_base ho0)) (Kd.R_base ho1)) (fun _ h_ => h_.1)); replace HO390 := Aside0.mk (Kd.R_mono (Kd.R_told (Kd.R_told (Kd.R_old (kr_ HO390) hb) (Kd.R_base ho0)) (Kd.R_base ho1)) (fun _ h_ => h_.1)); replace HO393 := Aside0.mk (Kd.R_mono (Kd.R_told (Kd.R_told (Kd.R_old (kr_ HO393) hb) (Kd.R_base ho0)) (Kd.R_base ho1)) (fun _ h_ => h_.1)); replace BK371 := Aside0.mk (blk_below (kb_ BK371) hb); replace BK387 := Aside0.mk (blk_below (kb_ BK387) hb); replace BK394 := Aside0.mk (blk_below (kb_ BK394) hb); replace HB := Aside0.mk (below_step bb_ hb); (try clear hb); (try clear hb2); (try clear hk); (try clear hi); (try clear ho0); (try clear ho1)) | ((with_reducible refine gate_dst (N := 6) rfl ?_); refine box_e_ 6 #[.int .i64 0, .int .i64 0, .slice none 0 0, .slice none 0 0] 28 ?_; intro gb403 hg w42 hbox hb; replace HO375 := Aside0.mk (Kd.R_below (kr_ HO375) hb); replace HO378 := Aside0.mk (Kd.R_below (kr_ HO378) hb); replace HO383 := Aside0.mk (Kd.R_below (kr_ HO383) hb); replace HO386 := Aside0.mk (Kd.R_below (kr_ HO386) hb); replace HO390 := Aside0.mk (Kd.R_below (kr_ HO390) hb); replace HO393 := Aside0.mk (Kd.R_below (kr_ HO393) hb); replace HO399 := Aside0.mk (Kd.R_below (kr_ HO399) hb); replace HO402 := Aside0.mk (Kd.R_below (kr_ HO402) hb); have BK403 := Aside0.mk (hbox); have GW403 := (bs_ hg : Aside0 (w.heap.size ≤ _)); have GE403 := (bs_ hg : Aside0 (w.heap.size ≤ _)); replace HB := Aside0.mk (below_step bb_ hb); have NB371_403 := (nl_ hg BK371 : Aside0 (gb371 ≠ gb403)); have NB403_371 := (nr_ hg BK371 : Aside0 (gb403 ≠ gb371)); replace BK371 := Aside0.mk (blk_below (kb_ BK371) hb); have NB387_403 := (nl_ hg BK387 : Aside0 (gb387 ≠ gb403)); have NB403_387 := (nr_ hg BK387 : Aside0 (gb403 ≠ gb387)); replace BK387 := Aside0.mk (blk_below (kb_ BK387) hb); have NB394_403 := (nl_ hg BK394 : Aside0 (gb394 ≠ gb403)); have NB403_394 := (nr_ hg BK394 : Aside0 (gb403 ≠ gb394)); replace BK394 := Aside0.mk (blk_below (kb_ BK394) hb); clear hb hbox hg; have hnb43 := NB403_371.out; have hnc43 := NB371_403.out; have hnb44 := NB403_387.out; have hnc44 := NB387_403.out; have hnb45 := NB403_394.out; have hnc45 := NB394_403.out; obtain ⟨hcz46_0, hcz46_1, hcz46_2, hcz46_3, hfz46_0, hfz46_1, hfz46_2, hfz46_3⟩ := cf4_ BK403; obtain ⟨Ao47, co47, eo47⟩ := Kd.R_slice HO399.out; subst eo47; obtain ⟨Ao48, co48, eo48⟩ := Kd.R_slice HO402.out; subst eo48; obtain ⟨hcz49_0, hcz49_1, hcz49_2, hcz49_3, hfz49_0, hfz49_1, hfz49_2, hfz49_3⟩ := cf4_ BK387) | ((with_reducible refine gate_callee (f := 19) rfl ?_); refine goe_ (some 25) Try.func19 #[.agg #[.int .i64 t395, .int .i64 t396, .slice Ao47 t397.length co47, .slice Ao48 t400.length co48], .agg #[.int .i64 t379, .int .i64 t380, .slice Ao29 t381.length co29, .slice Ao30 t384.length co30]] ?_; (with_reducible refine (laws_eqJournalResult.calls k t395 t396 _ _ t397 _ _ t400 t379 t380 _ _ t381 _ _ t384 true _ ?side1 ?side2 ?side3 ?side4 ?side5 ?side6 ?side7 ?side8 A11.out).mono ?_); (case side1 => refine (Kd.R_reads' (e := 5) (base := w.heap.size) (ok := fun k_ => ((((((some k_ ≠ (.slice Ao48 t400.length co48 : Value).ownBlock ∧ some k_ ≠ (.slice Ao23 t373.length co23 : Value).ownBlock) ∧ some k_ ≠ (.slice Ao24 t376.length co24 : Value).ownBlock) ∧ some k_ ≠ (.slice Ao29 t381.length co29 : Value).ownBlock) ∧ some k_ ≠ (.slice Ao30 t384.length co30 : Value).ownBlock) ∧ some k_ ≠ (.slice Ao34 t388.length co34 : Value).ownBlock) ∧ some k_ ≠ (.slice Ao38 t391.length co38 : Value).ownBlock)) (n := t397.length) (c := co47) ?_).2.2; exact (by (with_reducible repeat (first | apply Kd.R_alloc | apply Kd.R_drewN | apply Kd.R_drew)); exact (Kd.R_mono (Kd.R_far (p := ⟨gb403, 3, none⟩) (Kd.R_far (p := ⟨gb403, 2, none⟩) (Kd.R_far (p := ⟨gb403, 1, none⟩) (Kd.R_far (p := ⟨gb403, 0, none⟩) (Kd.R_types HO399.out BK403.out (by decide)) (fun _ hk => hk.2) (.int .i64 t395)) (fun _ hk => hk.2) (.int .i64 t396)) (fun _ hk => hk.2) (.slice Ao47 t397.length co47)) (fun _ hk => hk.2) (.slice Ao48 t400.length co48)) (fun _ h_ => h_.1)))); (case side2 => exact (Kd.R_reads' HO399.out).2.1); (case side3 => refine (Kd.R_reads' (e := 5) (base := w.heap.size) (ok := fun k_ => ((((((some k_ ≠ (.slice Ao47 t397.length co47 : Value).ownBlock ∧ some k_ ≠ (.slice Ao23 t373.length co23 : Value).ownBlock) ∧ some k_ ≠ (.slice Ao24 t376.length co24 : Value).ownBlock) ∧ some k_ ≠ (.slice Ao29 t381.length co29 : Value).ownBlock) ∧ some k_ ≠ (.slice Ao30 t384.length co30 : Value).ownBlock) ∧ some k_ ≠ (.slice Ao34 t388.length co34 : Value).ownBlock) ∧ some k_ ≠ (.slice Ao38 t391.length co38 : Value).ownBlock)) (n := t400.length) (c := co48) ?_).2.2; exact (by (with_reducible repeat (first | apply Kd.R_alloc | apply Kd.R_drewN | apply Kd.R_drew)); exact (Kd.R_mono (Kd.R_far (p := ⟨gb403, 3, none⟩) (Kd.R_far (p := ⟨gb403, 2, none⟩) (Kd.R_far (p := ⟨gb403, 1, none⟩) (Kd.R_far (p := ⟨gb403, 0, none⟩) (Kd.R_types HO402.out BK403.out (by decide)) (fun _ hk => hk.2) (.int .i64 t395)) (fun _ hk => hk.2) (.int .i64 t396)) (fun _ hk => hk.2) (.slice Ao47 t397.length co47)) (fun _ hk => hk.2) (.slice Ao48 t400.length co48)) (fun _ h_ => h_.1)))); (case side4 => exact (Kd.R_reads' HO402.out).2.1); (case side5 => refine (Kd.R_reads' (e := 5) (base := w.heap.size) (ok := fun k_ => (((some k_ ≠ (.slice Ao23 t373.length co23 : Value).ownBlock ∧ (some k_ ≠ (.slice Ao24 t376.length co24 : Value).ownBlock ∧ (some k_ ≠ (.slice Ao30 t384.length co30 : Value).ownBlock ∧ (some k_ ≠ (.slice Ao34 t388.length co34 : Value).ownBlock ∧ some k_ ≠ (.slice Ao38 t391.length co38 : Value).ownBlock)))) ∧ some k_ ≠ (.slice Ao47 t397.length co47 : Value).ownBlock) ∧ some k_ ≠ (.slice Ao48 t400.length co48 : Value).ownBlock)) (n := t381.length) (c := co29) ?_).2.2; exact (by (with_reducible repeat (first | apply Kd.R_alloc | apply Kd.R_drewN | apply Kd.R_drew)); exact (Kd.R_mono (Kd.R_far (p := ⟨gb403, 3, none⟩) (Kd.R_far (p := ⟨gb403, 2, none⟩) (Kd.R_far (p := ⟨gb403, 1, none⟩) (Kd.R_far (p := ⟨gb403, 0, none⟩) (Kd.R_types HO383.out BK403.out (by decide)) (fun _ hk => hk.2) (.int .i64 t395)) (fun _ hk => hk.2) (.int .i64 t396)) (fun _ hk => hk.2) (.slice Ao47 t397.length co47)) (fun _ hk => hk.2) (.slice Ao48 t400.length co48)) (fun _ h_ => h_.1)))); (case side6 => exact (Kd.R_reads' HO383.out).2.1); (case side7 => refine (Kd.R_reads' (e := 5) (base := w.heap.size) (ok := fun k_ => (((some k_ ≠ (.slice Ao23 t373.length co23 : Value).ownBlock ∧ (some k_ ≠ (.slice Ao24 t376.length co24 : Value).ownBlock ∧ (some k_ ≠ (.slice Ao29 t381.length co29 : Value).ownBlock ∧ (some k_ ≠ (.slice Ao34 t388.length co34 : Value).ownBlock ∧ some k_ ≠ (.slice Ao38 t391.length co38 : Value).ownBlock)))) ∧ some k_ ≠ (.slice Ao47 t397.length co47 : Value).ownBlock) ∧ some k_ ≠ (.slice Ao48 t400.length co48 : Value).ownBlock)) (n := t384.length) (c := co30) ?_).2.2; exact (by (with_reducible repeat (first | apply Kd.R_alloc | apply Kd.R_drewN | apply Kd.R_drew)); exact (Kd.R_mono (Kd.R_far (p := ⟨gb403, 3, none⟩) (Kd.R_far (p := ⟨gb403, 2, none⟩) (Kd.R_far (p := ⟨gb403, 1, none⟩) (Kd.R_far (p := ⟨gb403, 0, none⟩) (Kd.R_types HO386.out BK403.out (by decide)) (fun _ hk => hk.2) (.int .i64 t395)) (fun _ hk => hk.2) (.int .i64 t396)) (fun _ hk => hk.2) (.slice Ao47 t397.length co47)) (fun _ hk => hk.2) (.slice Ao48 t400.length co48)) (fun _ h_ => h_.1)))); (case side8 => exact (Kd.R_reads' HO386.out).2.1); rintro e w50 ⟨rfl, hb⟩; refine ⟨_, rfl, ?_⟩; replace HO375 := Aside0.mk (Kd.R_below (by (with_reducible repeat (first | apply Kd.R_alloc | apply Kd.R_drewN | apply Kd.R_drew)); exact (Kd.R_mono (Kd.R_far (p := ⟨gb403, 3, none⟩) (Kd.R_far (p := ⟨gb403, 2, none⟩) (Kd.R_far (p := ⟨gb403, 1, none⟩) (Kd.R_far (p := ⟨gb403, 0, none⟩) (Kd.R_types HO375.out BK403.out (by decide)) (fun _ hk => hk.2) (.int .i64 t395)) (fun _ hk => hk.2) (.int .i64 t396)) (fun _ hk => hk.2) (.slice Ao47 t397.length co47)) (fun _ hk => hk.2) (.slice Ao48 t400.length co48)) (fun _ h_ => h_.1))) hb); replace HO378 := Aside0.mk (Kd.R_below (by (with_reducible repeat (first | apply Kd.R_alloc | apply Kd.R_drewN | apply Kd.R_drew)); exact (Kd.R_mono (Kd.R_far (p := ⟨gb403, 3, none⟩) (Kd.R_far (p := ⟨gb403, 2, none⟩) (Kd.R_far (p := ⟨gb403, 1, none⟩) (Kd.R_far (p := ⟨gb403, 0, none⟩) (Kd.R_types HO378.out BK403.out (by decide)) (fun _ hk => hk.2) (.int .i64 t395)) (fun _ hk => hk.2) (.int .i64 t396)) (fun _ hk => hk.2) (.slice Ao47 t397.length co47)) (fun _ hk => hk.2) (.slice Ao48 t400.length co48)) (fun _ h_ => h_.1))) hb); replace HO383 := Aside0.mk (Kd.R_below (by (with_reducible repeat (first | apply Kd.R_alloc | apply Kd.R_drewN | apply Kd.R_drew)); exact (Kd.R_mono (Kd.R_far (p := ⟨gb403, 3, none⟩) (Kd.R_far (p := ⟨gb403, 2, none⟩) (Kd.R_far (p := ⟨gb403, 1, none⟩) (Kd.R_far (p := ⟨gb403, 0, none⟩) (Kd.R_types HO383.out BK403.out (by decide)) (fun _ hk => hk.2) (.int .i64 t395)) (fun _ hk => hk.2) (.int .i64 t396)) (fun _ hk => hk.2) (.slice Ao47 t397.length co47)) (fun _ hk => hk.2) (.slice Ao48 t400.length co48)) (fun _ h_ => h_.1))) hb); replace HO386 := Aside0.mk (Kd.R_below (by (with_reducible repeat (first | apply Kd.R_alloc | apply Kd.R_drewN | apply Kd.R_drew)); exact (Kd.R_mono (Kd.R_far (p := ⟨gb403, 3, none⟩) (Kd.R_far (p := ⟨gb403, 2, none⟩) (Kd.R_far (p := ⟨gb403, 1, none⟩) (Kd.R_far (p := ⟨gb403, 0, none⟩) (Kd.R_types HO386.out BK403.out (by decide)) (fun _ hk => hk.2) (.int .i64 t395)) (fun _ hk => hk.2) (.int .i64 t396)) (fun _ hk => hk.2) (.slice Ao47 t397.length co47)) (fun _ hk => hk.2) (.slice Ao48 t400.length co48)) (fun _ h_ => h_.1))) hb); replace HO390 := Aside0.mk (Kd.R_below (by (with_reducible repeat (first | apply Kd.R_alloc | apply Kd.R_drewN | apply Kd.R_drew)); exact (Kd.R_mono (Kd.R_far (p := ⟨gb403, 3, none⟩) (Kd.R_far (p := ⟨gb403, 2, none⟩) (Kd.R_far (p := ⟨gb403, 1, none⟩) (Kd.R_far (p := ⟨gb403, 0, none⟩) (Kd.R_types HO390.out BK403.out (by decide)) (fun _ hk => hk.2) (.int .i64 t395)) (fun _ hk => hk.2) (.int .i64 t396)) (fun _ hk => hk.2) (.slice Ao47 t397.length co47)) (fun _ hk => hk.2) (.slice Ao48 t400.length co48)) (fun _ h_ => h_.1))) hb); replace HO393 := Aside0.mk (Kd.R_below (by (with_reducible repeat (first | apply Kd.R_alloc | apply Kd.R_drewN | apply Kd.R_drew)); exact (Kd.R_mono (Kd.R_far (p := ⟨gb403, 3, none⟩) (Kd.R_far (p := ⟨gb403, 2, none⟩) (Kd.R_far (p := ⟨gb403, 1, none⟩) (Kd.R_far (p := ⟨gb403, 0, none⟩) (Kd.R_types HO393.out BK403.out (by decide)) (fun _ hk => hk.2) (.int .i64 t395)) (fun _ hk => hk.2) (.int .i64 t396)) (fun _ hk => hk.2) (.slice Ao47 t397.length co47)) (fun _ hk => hk.2) (.slice Ao48 t400.length co48)) (fun _ h_ => h_.1))) hb); replace HO399 := Aside0.mk (Kd.R_below (by (with_reducible repeat (first | apply Kd.R_alloc | apply Kd.R_drewN | apply Kd.R_drew)); exact (Kd.R_mono (Kd.R_far (p := ⟨gb403, 3, none⟩) (Kd.R_far (p := ⟨gb403, 2, none⟩) (Kd.R_far (p := ⟨gb403, 1, none⟩) (Kd.R_far (p := ⟨gb403, 0, none⟩) (Kd.R_types HO399.out BK403.out (by decide)) (fun _ hk => hk.2) (.int .i64 t395)) (fun _ hk => hk.2) (.int .i64 t396)) (fun _ hk => hk.2) (.slice Ao47 t397.length co47)) (fun _ hk => hk.2) (.slice Ao48 t400.length co48)) (fun _ h_ => h_.1))) hb); replace HO402 := Aside0.mk (Kd.R_below (by (with_reducible repeat (first | apply Kd.R_alloc | apply Kd.R_drewN | apply Kd.R_drew)); exact (Kd.R_mono (Kd.R_far (p := ⟨gb403, 3, none⟩) (Kd.R_far (p := ⟨gb403, 2, none⟩) (Kd.R_far (p := ⟨gb403, 1, none⟩) (Kd.R_far (p := ⟨gb403, 0, none⟩) (Kd.R_types HO402.out BK403.out (by decide)) (fun _ hk => hk.2) (.int .i64 t395)) (fun _ hk => hk.2) (.int .i64 t396)) (fun _ hk => hk.2) (.slice Ao47 t397.length co47)) (fun _ hk => hk.2) (.slice Ao48 t400.length co48)) (fun _ h_ => h_.1))) hb); replace BK371 := Aside0.mk (blk_below (kb_ BK371) hb); replace BK387 := Aside0.mk (blk_below (kb_ BK387) hb); replace BK394 := Aside0.mk (blk_below (kb_ BK394) hb); replace BK403 := Aside0.mk (blk_below (g := gb403) (o := .cells #[.int .i64 t395, .int .i64 t396, .slice Ao47 t397.length co47, .slice Ao48 t400.length co48] 28 (0, 0)) (by (with_reducible repeat (first | refine blk_drewN ?_ _ | refine blk_drew ?_ | refine blk_alloc ?_ _)); refine blk_put (cs := #[.int .i64 t395, .int .i64 t396, .slice Ao47 t397.length co47, .slice none 0 0]) ?_ 3 _ rfl; (with_reducible repeat (first | refine blk_drewN ?_ _ | refine blk_drew ?_ | refine blk_alloc ?_ _)); refine blk_put (cs := #[.int .i64 t395, .int .i64 t396, .slice none 0 0, .slice none 0 0]) ?_ 2 _ rfl; (with_reducible repeat (first | refine blk_drewN ?_ _ | refine blk_drew ?_ | refine blk_alloc ?_ _)); refine blk_put (cs := #[.int .i64 t395, .int .i64 0, .slice none 0 0, .slice none 0 0]) ?_ 1 _ rfl; (with_reducible repeat (first | refine blk_drewN ?_ _ | refine blk_drew ?_ | refine blk_alloc ?_ _)); refine blk_put (cs := #[.int .i64 0, .int .i64 0, .slice none 0 0, .slice none 0 0]) ?_ 0 _ rfl; (with_reducible repeat (first | refine blk_drewN ?_ _ | refine blk_drew ?_ | refine blk_alloc ?_ _)); exact BK403.out) hb); replace HB := Aside0.mk (below_step bb_ hb); (try clear hb); (try clear hb2); (try clear hk); (try clear hi)))
        have n0_ := Aside0.mk (Kd.R_drew HO375.out)
        have n1_ := Aside0.mk (Kd.R_drew HO378.out)
        have n2_ := Aside0.mk (Kd.R_drew HO383.out)
        have n3_ := Aside0.mk (Kd.R_drew HO386.out)
        have n4_ := Aside0.mk (Kd.R_drew HO390.out)
        have n5_ := Aside0.mk (Kd.R_drew HO393.out)
        have n6_ := Aside0.mk (Kd.R_drew HO399.out)
        have n7_ := Aside0.mk (Kd.R_drew HO402.out)
        have n8_ := Aside0.mk (blk_drew BK371.out)
        have n9_ := Aside0.mk (blk_drew BK387.out)
        have n10_ := Aside0.mk (blk_drew BK394.out)
        have n11_ := Aside0.mk (blk_drew BK403.out)
        have n12_ := Aside0.mk (below_drew1 HB.out)
        clear HO375
        clear HO378
        clear HO383
        clear HO386
        clear HO390
        clear HO393
        clear HO399
        clear HO402
        clear BK371
        clear BK387
        clear BK394
        clear BK403
        clear HB
        have HO375 := n0_
        have HO378 := n1_
        have HO383 := n2_
        have HO386 := n3_
        have HO390 := n4_
        have HO393 := n5_
        have HO399 := n6_
        have HO402 := n7_
        have BK371 := n8_
        have BK387 := n9_
        have BK394 := n10_
        have BK403 := n11_
        have HB := n12_
        clear n0_ n1_ n2_ n3_ n4_ n5_ n6_ n7_ n8_ n9_ n10_ n11_ n12_
        refine start_ (n := 5) (S := fun w' => w'.cell? ⟨gb394, 0, none⟩ = some (.slice Ao34 t388.length co34) ∧ w'.cell? ⟨gb394, 1, none⟩ = some (.slice Ao38 t391.length co38) ∧ w'.cell? ⟨gb371, 0, none⟩ = some (.slice A0_0 l0_0.length c0_0) ∧ w'.cell? ⟨gb371, 1, none⟩ = some (.slice A0_1 l0_1.length c0_1)) (ds := []) #[false, false, false, false, false] (by kernel_rfl) rfl rfl ⟨(blk_cell BK394.out 0).trans rfl, (blk_cell BK394.out 1).trans rfl, (blk_cell BK371.out 0).trans rfl, (blk_cell BK371.out 1).trans rfl⟩ (fun hHeld => ?_)
        generalize w50.drew = w51 at HO375 HO378 HO383 HO386 HO390 HO393 HO399 HO402 BK371 BK387 BK394 BK403 HB hHeld ⊢
        refine take_ (i := 0) (N := some 27) (v := ?_) (a' := ?_) #[true, false, false, false, false] rfl rfl (by kernel_rfl) (fun _ _ _ h => h) (Or.inl ⟨by rfl, ?_⟩) hHeld ?_ ?_
        rotate_left
        · rintro w' ⟨s0, s1, s2, s3⟩
          go_simp
          with_reducible rfl
        rotate_left
        · simp only [Act.put, List.setIfInBounds_toArray, List.set_cons_zero, List.set_cons_succ, i64_w, i32_w]
          rfl
        refine take_ (i := 1) (N := some 28) (v := ?_) (a' := ?_) #[true, true, false, false, false] rfl rfl (by kernel_rfl) (fun _ _ _ h => h) (Or.inl ⟨by rfl, ?_⟩) hHeld ?_ ?_
        rotate_left
        · rintro w' ⟨s0, s1, s2, s3⟩
          go_simp
          with_reducible rfl
        rotate_left
        · simp only [Act.put, List.setIfInBounds_toArray, List.set_cons_zero, List.set_cons_succ, i64_w, i32_w]
          rfl
        refine one_ (i := 2) (N := some 29) #[true, true, true, false, false] rfl rfl (by kernel_rfl) (by decide) (fun K hK => ?_)
        refine goes_ Try.func17 (by kernel_rfl) rfl #[.agg #[.slice A0_0 l0_0.length c0_0, .slice A0_1 l0_1.length c0_1]] (by rfl) rfl rfl (by (try simp only [List.map_toArray, List.map_cons, List.map_nil]); first | done | rfl | (simp only [List.length_drop, List.length_take]; rfl)) ?_
        with_reducible refine (laws_toJournal.calls k _ _ l0_0 _ _ l0_1 t405 t408 _ ?side1 ?side2 ?side3 ?side4 A13.out).mono ?_
        (case side1 => exact kc_ (Kd.C_below HR0_0.out HB.out))
        (case side2 => exact HC0_0.out)
        (case side3 => exact kc_ (Kd.C_below HR0_1.out HB.out))
        (case side4 => exact HC0_1.out)
        rintro e w52 ⟨v406, v409, rfl, ho0, ho1, hb⟩
        refine ⟨_, rfl, ?_⟩
        have n0_ := Aside0.mk (Kd.R_mono (Kd.R_told (Kd.R_told (Kd.R_old (kr_ HO375) hb) (Kd.R_base ho0)) (Kd.R_base ho1)) (fun _ h_ => h_.1))
        have n1_ := Aside0.mk (Kd.R_mono (Kd.R_told (Kd.R_told (Kd.R_old (kr_ HO378) hb) (Kd.R_base ho0)) (Kd.R_base ho1)) (fun _ h_ => h_.1))
        have n2_ := Aside0.mk (Kd.R_mono (Kd.R_told (Kd.R_told (Kd.R_old (kr_ HO383) hb) (Kd.R_base ho0)) (Kd.R_base ho1)) (fun _ h_ => h_.1))
        have n3_ := Aside0.mk (Kd.R_mono (Kd.R_told (Kd.R_told (Kd.R_old (kr_ HO386) hb) (Kd.R_base ho0)) (Kd.R_base ho1)) (fun _ h_ => h_.1))
        have n4_ := Aside0.mk (Kd.R_mono (Kd.R_told (Kd.R_told (Kd.R_old (kr_ HO390) hb) (Kd.R_base ho0)) (Kd.R_base ho1)) (fun _ h_ => h_.1))
        have n5_ := Aside0.mk (Kd.R_mono (Kd.R_told (Kd.R_told (Kd.R_old (kr_ HO393) hb) (Kd.R_base ho0)) (Kd.R_base ho1)) (fun _ h_ => h_.1))
        have n6_ := Aside0.mk (Kd.R_mono (Kd.R_told (Kd.R_told (Kd.R_old (kr_ HO399) hb) (Kd.R_base ho0)) (Kd.R_base ho1)) (fun _ h_ => h_.1))
        have n7_ := Aside0.mk (Kd.R_mono (Kd.R_told (Kd.R_told (Kd.R_old (kr_ HO402) hb) (Kd.R_base ho0)) (Kd.R_base ho1)) (fun _ h_ => h_.1))
        have n8_ := Aside0.mk (Kd.R_lower (Kd.R_new' (Kd.R_new' (Kd.R_new' (Kd.R_new' (Kd.R_new' (Kd.R_new' (Kd.R_new' (Kd.R_new' ho0 (Kd.R_lt (kr_ HO375))) (Kd.R_lt (kr_ HO378))) (Kd.R_lt (kr_ HO383))) (Kd.R_lt (kr_ HO386))) (Kd.R_lt (kr_ HO390))) (Kd.R_lt (kr_ HO393))) (Kd.R_lt (kr_ HO399))) (Kd.R_lt (kr_ HO402))) (below_size bb_))
        have n9_ := Aside0.mk (Kd.R_lower (Kd.R_new' (Kd.R_new' (Kd.R_new' (Kd.R_new' (Kd.R_new' (Kd.R_new' (Kd.R_new' (Kd.R_new' ho1 (Kd.R_lt (kr_ HO375))) (Kd.R_lt (kr_ HO378))) (Kd.R_lt (kr_ HO383))) (Kd.R_lt (kr_ HO386))) (Kd.R_lt (kr_ HO390))) (Kd.R_lt (kr_ HO393))) (Kd.R_lt (kr_ HO399))) (Kd.R_lt (kr_ HO402))) (below_size bb_))
        have n10_ := Aside0.mk (blk_below (kb_ BK371) hb)
        have n11_ := Aside0.mk (blk_below (kb_ BK387) hb)
        have n12_ := Aside0.mk (blk_below (kb_ BK394) hb)
        have n13_ := Aside0.mk (blk_below (kb_ BK403) hb)
        have n14_ := Aside0.mk (below_step bb_ hb)
        clear HO375
        clear HO378
        clear HO383
        clear HO386
        clear HO390
        clear HO393
        clear HO399
        clear HO402
        clear BK371
        clear BK387
        clear BK394
        clear BK403
        clear HB
        have HO375 := n0_
        have HO378 := n1_
        have HO383 := n2_
        have HO386 := n3_
        have HO390 := n4_
        have HO393 := n5_
        have HO399 := n6_
        have HO402 := n7_
        have HO407 := n8_
        have HO410 := n9_
        have BK371 := n10_
        have BK387 := n11_
        have BK394 := n12_
        have BK403 := n13_
        have HB := n14_
        clear n0_ n1_ n2_ n3_ n4_ n5_ n6_ n7_ n8_ n9_ n10_ n11_ n12_ n13_ n14_
        (try clear hb)
        (try clear hb2)
        (try clear hk)
        (try clear hi)
        (try clear ho0)
        (try clear ho1)
        obtain ⟨Ao53, co53, eo53⟩ := Kd.R_slice HO407.out
        (first | subst eo53 | (injection eo53 with f1_ f2_ f3_; have f4_ := f1_.symm; have f5_ := f3_.symm; clear f1_ f2_ f3_; subst f4_; subst f5_))
        obtain ⟨Ao54, co54, eo54⟩ := Kd.R_slice HO410.out
        (first | subst eo54 | (injection eo54 with f1_ f2_ f3_; have f4_ := f1_.symm; have f5_ := f3_.symm; clear f1_ f2_ f3_; subst f4_; subst f5_))
        refine hK.out _ _ ⟨(blk_cell BK394.out 0).trans rfl, (blk_cell BK394.out 1).trans rfl, (blk_cell BK371.out 0).trans rfl, (blk_cell BK371.out 1).trans rfl⟩ (fun hHeld => ?_)
        clear hK K
        refine norm_ (a' := ?_) ?_ ?_
        rotate_left
        · show Act.put _ (some 29) _ = _
          simp only [Act.put, List.setIfInBounds_toArray, List.set_cons_zero, List.set_cons_succ, i64_w, i32_w]
          rfl
        refine one_ (i := 3) (N := some 30) #[true, true, true, true, false] rfl rfl (by kernel_rfl) (by decide) (fun K hK => ?_)
        refine goes_ Try.func20 (by kernel_rfl) rfl #[.agg #[.slice Ao34 t388.length co34, .slice Ao38 t391.length co38], .agg #[.slice Ao53 t405.length co53, .slice Ao54 t408.length co54]] (by rfl) rfl rfl (by (try simp only [List.map_toArray, List.map_cons, List.map_nil]); first | done | rfl | (simp only [List.length_drop, List.length_take]; rfl)) ?_
        with_reducible refine (laws_eqJournal.calls k _ _ t388 _ _ t391 _ _ t405 _ _ t408 true _ ?side1 ?side2 ?side3 ?side4 ?side5 ?side6 ?side7 ?side8 A14.out).mono ?_
        (case side1 => exact kc_ ((Kd.R_reads' HO390.out).2.2))
        (case side2 => exact (Kd.R_reads' HO390.out).2.1)
        (case side3 => exact kc_ ((Kd.R_reads' HO393.out).2.2))
        (case side4 => exact (Kd.R_reads' HO393.out).2.1)
        (case side5 => exact kc_ ((Kd.R_reads' HO407.out).2.2))
        (case side6 => exact (Kd.R_reads' HO407.out).2.1)
        (case side7 => exact kc_ ((Kd.R_reads' HO410.out).2.2))
        (case side8 => exact (Kd.R_reads' HO410.out).2.1)
        rintro e w55 ⟨rfl, hb⟩
        refine ⟨_, rfl, ?_⟩
        have n0_ := Aside0.mk (Kd.R_below (kr_ HO375) hb)
        have n1_ := Aside0.mk (Kd.R_below (kr_ HO378) hb)
        have n2_ := Aside0.mk (Kd.R_below (kr_ HO383) hb)
        have n3_ := Aside0.mk (Kd.R_below (kr_ HO386) hb)
        have n4_ := Aside0.mk (Kd.R_below (kr_ HO390) hb)
        have n5_ := Aside0.mk (Kd.R_below (kr_ HO393) hb)
        have n6_ := Aside0.mk (Kd.R_below (kr_ HO399) hb)
        have n7_ := Aside0.mk (Kd.R_below (kr_ HO402) hb)
        have n8_ := Aside0.mk (Kd.R_below (kr_ HO407) hb)
        have n9_ := Aside0.mk (Kd.R_below (kr_ HO410) hb)
        have n10_ := Aside0.mk (blk_below (kb_ BK371) hb)
        have n11_ := Aside0.mk (blk_below (kb_ BK387) hb)
        have n12_ := Aside0.mk (blk_below (kb_ BK394) hb)
        have n13_ := Aside0.mk (blk_below (kb_ BK403) hb)
        have n14_ := Aside0.mk (below_step bb_ hb)
        clear HO375
        clear HO378
        clear HO383
        clear HO386
        clear HO390
        clear HO393
        clear HO399
        clear HO402
        clear HO407
        clear HO410
        clear BK371
        clear BK387
        clear BK394
        clear BK403
        clear HB
        have HO375 := n0_
        have HO378 := n1_
        have HO383 := n2_
        have HO386 := n3_
        have HO390 := n4_
        have HO393 := n5_
        have HO399 := n6_
        have HO402 := n7_
        have HO407 := n8_
        have HO410 := n9_
        have BK371 := n10_
        have BK387 := n11_
        have BK394 := n12_
        have BK403 := n13_
        have HB := n14_
        clear n0_ n1_ n2_ n3_ n4_ n5_ n6_ n7_ n8_ n9_ n10_ n11_ n12_ n13_ n14_
        (try clear hb)
        (try clear hb2)
        (try clear hk)
        (try clear hi)
        refine hK.out _ _ ⟨(blk_cell BK394.out 0).trans rfl, (blk_cell BK394.out 1).trans rfl, (blk_cell BK371.out 0).trans rfl, (blk_cell BK371.out 1).trans rfl⟩ (fun hHeld => ?_)
        clear hK K
        refine norm_ (a' := ?_) ?_ ?_
        rotate_left
        · show Act.put _ (some 30) _ = _
          simp only [Act.put, List.setIfInBounds_toArray, List.set_cons_zero, List.set_cons_succ, i64_w, i32_w]
          rfl
        refine pure_ (i := 4) (N := some 31) (v := ?_) (a' := ?_) #[true, true, true, true, true] rfl rfl (by kernel_rfl) (fun _ _ _ h => h) (Or.inl ⟨by rfl, ?_⟩) ?_ ?_
        rotate_left
        · intro w'
          go_simp
          (first | with_reducible rfl | (unfold Instr.field; go_simp; simp only [asAgg]; go_simp; with_reducible rfl))
        rotate_left
        · simp only [Act.put, List.setIfInBounds_toArray, List.set_cons_zero, List.set_cons_succ, i64_w, i32_w]
          rfl
        refine done_ (by kernel_rfl) ?_
        obtain ⟨hcz56_0, hcz56_1, hfz56_0, hfz56_1⟩ := cf2_ BK394
        go_upto_region 14 with (first | ((with_reducible refine gate_callee (f := 21) rfl ?_); refine goe_ (some 34) Try.func21 #[.agg #[.slice Ao34 t388.length co34, .slice Ao38 t391.length co38], .int .i64 1] ?_; (with_reducible refine (laws_markJournal.calls k (fun k_ => some k_ = (.slice Ao34 t388.length co34 : Value).ownBlock) (.slice Ao34 t388.length co34) t388 (fun k_ => some k_ = (.slice Ao38 t391.length co38 : Value).ownBlock) (.slice Ao38 t391.length co38) t391 1 t412 t413 t414 w _ ?side1 ?side2 ?side3 ?side4 ?side5 A16.out).mono ?_); (case side1 => exact bb_); (case side2 => exact Kd.R_tight rfl HO390.out); (case side3 => exact fun k_ e_ => (HO390.out.1 k_ e_.symm).1.1.1.1.2.2.2.2); (case side4 => exact Kd.R_tight rfl HO393.out); (case side5 => exact fun k_ e_ => (HO393.out.1 k_ e_.symm).1.1.1.1.2.2.2.2); rintro e w57 ⟨rfl, hy0, hy1, hb, hkp⟩; refine ⟨_, rfl, ?_⟩; replace BK371 := Aside0.mk (blk_kept (by (with_reducible repeat (first | refine blk_drewN ?_ _ | refine blk_drew ?_ | refine blk_alloc ?_ _)); exact BK371.out) hkp (fun hs_ => Or.elim hs_ (fun e_ => (fun e_ => (Kd.R_ne HO390.out BK371.out (by decide)) e_) e_) (fun e_ => (fun e_ => (Kd.R_ne HO393.out BK371.out (by decide)) e_) e_))); replace HO375 := Aside0.mk (Kd.R_mono (ok' := fun k_ => some k_ ≠ (.slice Ao24 t376.length co24 : Value).ownBlock ∧ some k_ ≠ (.slice Ao29 t381.length co29 : Value).ownBlock ∧ some k_ ≠ (.slice Ao30 t384.length co30 : Value).ownBlock ∧ some k_ ≠ (.slice Ao34 t388.length co34 : Value).ownBlock ∧ some k_ ≠ (.slice Ao38 t391.length co38 : Value).ownBlock ∧ some k_ ≠ (.slice Ao47 t397.length co47 : Value).ownBlock ∧ some k_ ≠ (.slice Ao48 t400.length co48 : Value).ownBlock ∧ some k_ ≠ (.slice Ao53 t405.length co53 : Value).ownBlock ∧ some k_ ≠ (.slice Ao54 t408.length co54 : Value).ownBlock) (Kd.R_keptB (HO375.out) hkp (fun k_ hk_ hs_ => Or.elim hs_ (fun e_ => (hk_.1.1.1.1.2.2.2.1) e_) (fun e_ => (hk_.1.1.1.1.2.2.2.2) e_))) (fun k_ hk_ => ⟨hk_.1.1.1.1.1.1, hk_.1.1.1.1.1.2.1, hk_.1.1.1.1.1.2.2.1, hk_.1.1.1.1.1.2.2.2.1, hk_.1.1.1.1.1.2.2.2.2, hk_.1.1.1.1.2, hk_.1.1.1.2, hk_.1.1.2, hk_.1.2⟩)); replace HO378 := Aside0.mk (Kd.R_mono (ok' := fun k_ => some k_ ≠ (.slice Ao23 t373.length co23 : Value).ownBlock ∧ some k_ ≠ (.slice Ao29 t381.length co29 : Value).ownBlock ∧ some k_ ≠ (.slice Ao30 t384.length co30 : Value).ownBlock ∧ some k_ ≠ (.slice Ao34 t388.length co34 : Value).ownBlock ∧ some k_ ≠ (.slice Ao38 t391.length co38 : Value).ownBlock ∧ some k_ ≠ (.slice Ao47 t397.length co47 : Value).ownBlock ∧ some k_ ≠ (.slice Ao48 t400.length co48 : Value).ownBlock ∧ some k_ ≠ (.slice Ao53 t405.length co53 : Value).ownBlock ∧ some k_ ≠ (.slice Ao54 t408.length co54 : Value).ownBlock) (Kd.R_keptB (HO378.out) hkp (fun k_ hk_ hs_ => Or.elim hs_ (fun e_ => (hk_.1.1.1.1.2.2.2.1) e_) (fun e_ => (hk_.1.1.1.1.2.2.2.2) e_))) (fun k_ hk_ => ⟨hk_.1.1.1.1.1.1, hk_.1.1.1.1.1.2.1, hk_.1.1.1.1.1.2.2.1, hk_.1.1.1.1.1.2.2.2.1, hk_.1.1.1.1.1.2.2.2.2, hk_.1.1.1.1.2, hk_.1.1.1.2, hk_.1.1.2, hk_.1.2⟩)); replace HO383 := Aside0.mk (Kd.R_mono (ok' := fun k_ => some k_ ≠ (.slice Ao23 t373.length co23 : Value).ownBlock ∧ some k_ ≠ (.slice Ao24 t376.length co24 : Value).ownBlock ∧ some k_ ≠ (.slice Ao30 t384.length co30 : Value).ownBlock ∧ some k_ ≠ (.slice Ao34 t388.length co34 : Value).ownBlock ∧ some k_ ≠ (.slice Ao38 t391.length co38 : Value).ownBlock ∧ some k_ ≠ (.slice Ao47 t397.length co47 : Value).ownBlock ∧ some k_ ≠ (.slice Ao48 t400.length co48 : Value).ownBlock ∧ some k_ ≠ (.slice Ao53 t405.length co53 : Value).ownBlock ∧ some k_ ≠ (.slice Ao54 t408.length co54 : Value).ownBlock) (Kd.R_keptB (HO383.out) hkp (fun k_ hk_ hs_ => Or.elim hs_ (fun e_ => (hk_.1.1.1.1.2.2.2.1) e_) (fun e_ => (hk_.1.1.1.1.2.2.2.2) e_))) (fun k_ hk_ => ⟨hk_.1.1.1.1.1.1, hk_.1.1.1.1.1.2.1, hk_.1.1.1.1.1.2.2.1, hk_.1.1.1.1.1.2.2.2.1, hk_.1.1.1.1.1.2.2.2.2, hk_.1.1.1.1.2, hk_.1.1.1.2, hk_.1.1.2, hk_.1.2⟩)); replace HO386 := Aside0.mk (Kd.R_mono (ok' := fun k_ => some k_ ≠ (.slice Ao23 t373.length co23 : Value).ownBlock ∧ some k_ ≠ (.slice Ao24 t376.length co24 : Value).ownBlock ∧ some k_ ≠ (.slice Ao29 t381.length co29 : Value).ownBlock ∧ some k_ ≠ (.slice Ao34 t388.length co34 : Value).ownBlock ∧ some k_ ≠ (.slice Ao38 t391.length co38 : Value).ownBlock ∧ some k_ ≠ (.slice Ao47 t397.length co47 : Value).ownBlock ∧ some k_ ≠ (.slice Ao48 t400.length co48 : Value).ownBlock ∧ some k_ ≠ (.slice Ao53 t405.length co53 : Value).ownBlock ∧ some k_ ≠ (.slice Ao54 t408.length co54 : Value).ownBlock) (Kd.R_keptB (HO386.out) hkp (fun k_ hk_ hs_ => Or.elim hs_ (fun e_ => (hk_.1.1.1.1.2.2.2.1) e_) (fun e_ => (hk_.1.1.1.1.2.2.2.2) e_))) (fun k_ hk_ => ⟨hk_.1.1.1.1.1.1, hk_.1.1.1.1.1.2.1, hk_.1.1.1.1.1.2.2.1, hk_.1.1.1.1.1.2.2.2.1, hk_.1.1.1.1.1.2.2.2.2, hk_.1.1.1.1.2, hk_.1.1.1.2, hk_.1.1.2, hk_.1.2⟩)); replace BK387 := Aside0.mk (blk_kept (by (with_reducible repeat (first | refine blk_drewN ?_ _ | refine blk_drew ?_ | refine blk_alloc ?_ _)); exact BK387.out) hkp (fun hs_ => Or.elim hs_ (fun e_ => (fun e_ => (Kd.R_ne HO390.out BK387.out (by decide)) e_) e_) (fun e_ => (fun e_ => (Kd.R_ne HO393.out BK387.out (by decide)) e_) e_))); replace BK394 := Aside0.mk (blk_kept (by (with_reducible repeat (first | refine blk_drewN ?_ _ | refine blk_drew ?_ | refine blk_alloc ?_ _)); exact BK394.out) hkp (fun hs_ => Or.elim hs_ (fun e_ => (fun e_ => (Kd.R_ne HO390.out BK394.out (by decide)) e_) e_) (fun e_ => (fun e_ => (Kd.R_ne HO393.out BK394.out (by decide)) e_) e_))); replace HO399 := Aside0.mk (Kd.R_mono (ok' := fun k_ => some k_ ≠ (.slice Ao23 t373.length co23 : Value).ownBlock ∧ some k_ ≠ (.slice Ao24 t376.length co24 : Value).ownBlock ∧ some k_ ≠ (.slice Ao29 t381.length co29 : Value).ownBlock ∧ some k_ ≠ (.slice Ao30 t384.length co30 : Value).ownBlock ∧ some k_ ≠ (.slice Ao34 t388.length co34 : Value).ownBlock ∧ some k_ ≠ (.slice Ao38 t391.length co38 : Value).ownBlock ∧ some k_ ≠ (.slice Ao48 t400.length co48 : Value).ownBlock ∧ some k_ ≠ (.slice Ao53 t405.length co53 : Value).ownBlock ∧ some k_ ≠ (.slice Ao54 t408.length co54 : Value).ownBlock) (Kd.R_keptB (HO399.out) hkp (fun k_ hk_ hs_ => Or.elim hs_ (fun e_ => (hk_.1.1.1.2) e_) (fun e_ => (hk_.1.1.2) e_))) (fun k_ hk_ => ⟨hk_.1.1.1.1.1.1.1.1.2, hk_.1.1.1.1.1.1.1.2, hk_.1.1.1.1.1.1.2, hk_.1.1.1.1.1.2, hk_.1.1.1.1.2, hk_.1.1.1.2, hk_.1.1.1.1.1.1.1.1.1, hk_.1.1.2, hk_.1.2⟩)); replace HO402 := Aside0.mk (Kd.R_mono (ok' := fun k_ => some k_ ≠ (.slice Ao23 t373.length co23 : Value).ownBlock ∧ some k_ ≠ (.slice Ao24 t376.length co24 : Value).ownBlock ∧ some k_ ≠ (.slice Ao29 t381.length co29 : Value).ownBlock ∧ some k_ ≠ (.slice Ao30 t384.length co30 : Value).ownBlock ∧ some k_ ≠ (.slice Ao34 t388.length co34 : Value).ownBlock ∧ some k_ ≠ (.slice Ao38 t391.length co38 : Value).ownBlock ∧ some k_ ≠ (.slice Ao47 t397.length co47 : Value).ownBlock ∧ some k_ ≠ (.slice Ao53 t405.length co53 : Value).ownBlock ∧ some k_ ≠ (.slice Ao54 t408.length co54 : Value).ownBlock) (Kd.R_keptB (HO402.out) hkp (fun k_ hk_ hs_ => Or.elim hs_ (fun e_ => (hk_.1.1.1.2) e_) (fun e_ => (hk_.1.1.2) e_))) (fun k_ hk_ => ⟨hk_.1.1.1.1.1.1.1.1.2, hk_.1.1.1.1.1.1.1.2, hk_.1.1.1.1.1.1.2, hk_.1.1.1.1.1.2, hk_.1.1.1.1.2, hk_.1.1.1.2, hk_.1.1.1.1.1.1.1.1.1, hk_.1.1.2, hk_.1.2⟩)); replace BK403 := Aside0.mk (blk_kept (by (with_reducible repeat (first | refine blk_drewN ?_ _ | refine blk_drew ?_ | refine blk_alloc ?_ _)); exact BK403.out) hkp (fun hs_ => Or.elim hs_ (fun e_ => (fun e_ => (Kd.R_ne HO390.out BK403.out (by decide)) e_) e_) (fun e_ => (fun e_ => (Kd.R_ne HO393.out BK403.out (by decide)) e_) e_))); replace HO390 := Aside0.mk (Kd.R_reok rfl hy0 (fun k_ e_ => HO390.out.1 k_ e_)); replace HO393 := Aside0.mk (Kd.R_reok rfl hy1 (fun k_ e_ => HO393.out.1 k_ e_)); replace HO407 := Aside0.mk (Kd.R_mono (ok' := fun k_ => some k_ ≠ (.slice Ao23 t373.length co23 : Value).ownBlock ∧ some k_ ≠ (.slice Ao24 t376.length co24 : Value).ownBlock ∧ some k_ ≠ (.slice Ao29 t381.length co29 : Value).ownBlock ∧ some k_ ≠ (.slice Ao30 t384.length co30 : Value).ownBlock ∧ some k_ ≠ (.slice Ao34 t388.length co34 : Value).ownBlock ∧ some k_ ≠ (.slice Ao38 t391.length co38 : Value).ownBlock ∧ some k_ ≠ (.slice Ao47 t397.length co47 : Value).ownBlock ∧ some k_ ≠ (.slice Ao48 t400.length co48 : Value).ownBlock ∧ some k_ ≠ (.slice Ao54 t408.length co54 : Value).ownBlock) (Kd.R_keptB (HO407.out) hkp (fun k_ hk_ hs_ => Or.elim hs_ (fun e_ => (hk_.1.1.1.2) e_) (fun e_ => (hk_.1.1.2) e_))) (fun k_ hk_ => ⟨hk_.1.1.1.1.1.1.1.1.2, hk_.1.1.1.1.1.1.1.2, hk_.1.1.1.1.1.1.2, hk_.1.1.1.1.1.2, hk_.1.1.1.1.2, hk_.1.1.1.2, hk_.1.1.2, hk_.1.2, hk_.1.1.1.1.1.1.1.1.1⟩)); replace HO410 := Aside0.mk (Kd.R_mono (ok' := fun k_ => some k_ ≠ (.slice Ao23 t373.length co23 : Value).ownBlock ∧ some k_ ≠ (.slice Ao24 t376.length co24 : Value).ownBlock ∧ some k_ ≠ (.slice Ao29 t381.length co29 : Value).ownBlock ∧ some k_ ≠ (.slice Ao30 t384.length co30 : Value).ownBlock ∧ some k_ ≠ (.slice Ao34 t388.length co34 : Value).ownBlock ∧ some k_ ≠ (.slice Ao38 t391.length co38 : Value).ownBlock ∧ some k_ ≠ (.slice Ao47 t397.length co47 : Value).ownBlock ∧ some k_ ≠ (.slice Ao48 t400.length co48 : Value).ownBlock ∧ some k_ ≠ (.slice Ao53 t405.length co53 : Value).ownBlock) (Kd.R_keptB (HO410.out) hkp (fun k_ hk_ hs_ => Or.elim hs_ (fun e_ => (hk_.1.1.1.2) e_) (fun e_ => (hk_.1.1.2) e_))) (fun k_ hk_ => ⟨hk_.1.1.1.1.1.1.1.1.2, hk_.1.1.1.1.1.1.1.2, hk_.1.1.1.1.1.1.2, hk_.1.1.1.1.1.2, hk_.1.1.1.1.2, hk_.1.1.1.2, hk_.1.1.2, hk_.1.2, hk_.1.1.1.1.1.1.1.1.1⟩)); replace HB := Aside0.mk (hb); (try clear hb); (try clear hkp); (try clear hy0); (try clear hy1)))
        (try simp only [Act.put, List.setIfInBounds_toArray, List.set_cons_zero, List.set_cons_succ])
        go_cut [42] (fun v42 wc => ∃ (kq : Nat) (x42_16 : Bool), v42 = .bool x42_16 ∧ Aside0 (laws_FnExactSyncJournal.j0 kq x42_16 l0_0 l0_1 t379 t380 t381 t384 t395 t396 t397 t400 = some true) ∧ Aside0 (kq ≤ k) ∧ Aside0 (Kd.R (Kd.int .u8) 5 wc w.heap.size (fun k_ => some k_ ≠ ((.slice Ao30 t384.length co30) : Value).ownBlock ∧ some k_ ≠ ((.slice Ao34 t388.length co34) : Value).ownBlock ∧ some k_ ≠ ((.slice Ao38 t391.length co38) : Value).ownBlock ∧ some k_ ≠ ((.slice Ao47 t397.length co47) : Value).ownBlock ∧ some k_ ≠ ((.slice Ao48 t400.length co48) : Value).ownBlock) (.slice Ao29 t381.length co29) t381) ∧ Aside0 (Kd.R (Kd.int .u8) 5 wc w.heap.size (fun k_ => some k_ ≠ ((.slice Ao29 t381.length co29) : Value).ownBlock ∧ some k_ ≠ ((.slice Ao34 t388.length co34) : Value).ownBlock ∧ some k_ ≠ ((.slice Ao38 t391.length co38) : Value).ownBlock ∧ some k_ ≠ ((.slice Ao47 t397.length co47) : Value).ownBlock ∧ some k_ ≠ ((.slice Ao48 t400.length co48) : Value).ownBlock) (.slice Ao30 t384.length co30) t384) ∧ Aside0 (Kd.R (Kd.int .u8) 5 wc w.heap.size (fun k_ => some k_ ≠ ((.slice Ao29 t381.length co29) : Value).ownBlock ∧ some k_ ≠ ((.slice Ao30 t384.length co30) : Value).ownBlock ∧ some k_ ≠ ((.slice Ao38 t391.length co38) : Value).ownBlock ∧ some k_ ≠ ((.slice Ao47 t397.length co47) : Value).ownBlock ∧ some k_ ≠ ((.slice Ao48 t400.length co48) : Value).ownBlock) (.slice Ao34 t388.length co34) t413) ∧ Aside0 (Kd.R (Kd.int .u8) 5 wc w.heap.size (fun k_ => some k_ ≠ ((.slice Ao29 t381.length co29) : Value).ownBlock ∧ some k_ ≠ ((.slice Ao30 t384.length co30) : Value).ownBlock ∧ some k_ ≠ ((.slice Ao34 t388.length co34) : Value).ownBlock ∧ some k_ ≠ ((.slice Ao47 t397.length co47) : Value).ownBlock ∧ some k_ ≠ ((.slice Ao48 t400.length co48) : Value).ownBlock) (.slice Ao38 t391.length co38) t414) ∧ Aside0 (Kd.R (Kd.int .u8) 5 wc w.heap.size (fun k_ => some k_ ≠ ((.slice Ao29 t381.length co29) : Value).ownBlock ∧ some k_ ≠ ((.slice Ao30 t384.length co30) : Value).ownBlock ∧ some k_ ≠ ((.slice Ao34 t388.length co34) : Value).ownBlock ∧ some k_ ≠ ((.slice Ao38 t391.length co38) : Value).ownBlock ∧ some k_ ≠ ((.slice Ao48 t400.length co48) : Value).ownBlock) (.slice Ao47 t397.length co47) t397) ∧ Aside0 (Kd.R (Kd.int .u8) 5 wc w.heap.size (fun k_ => some k_ ≠ ((.slice Ao29 t381.length co29) : Value).ownBlock ∧ some k_ ≠ ((.slice Ao30 t384.length co30) : Value).ownBlock ∧ some k_ ≠ ((.slice Ao34 t388.length co34) : Value).ownBlock ∧ some k_ ≠ ((.slice Ao38 t391.length co38) : Value).ownBlock ∧ some k_ ≠ ((.slice Ao47 t397.length co47) : Value).ownBlock) (.slice Ao48 t400.length co48) t400) ∧ Aside0 (wc.heap[gb371]? = some (.cells #[(.slice A0_0 l0_0.length c0_0), (.slice A0_1 l0_1.length c0_1)] 24 (0, 0))) ∧ Aside0 (wc.heap[gb387]? = some (.cells #[.int .i64 t379, .int .i64 t380, (.slice Ao29 t381.length co29), (.slice Ao30 t384.length co30)] 28 (0, 0))) ∧ Aside0 (wc.heap[gb394]? = some (.cells #[(.slice Ao34 t388.length co34), (.slice Ao38 t391.length co38)] 26 (0, 0))) ∧ Aside0 (wc.heap[gb403]? = some (.cells #[.int .i64 t395, .int .i64 t396, (.slice Ao47 t397.length co47), (.slice Ao48 t400.length co48)] 28 (0, 0))) ∧ Aside0 (Below w.heap.size w wc))
        case first =>
          have H := HC17.out
          clear HC17
          by_cases c58 : t412 < 0
          · rw [if_pos c58] at H
            have c58b0 : decide (t412 < 0) = true := decide_eq_true c58
            clear c58
            (first | rw [c58b0] | (simp only [i64_w, i32_w]; rw [c58b0]) | skip)
            have H' := Aside0.mk H
            clear H
            go_wp2
            go_meet
            case rel => exact ⟨_, (true), sd_, H', ⟨ol_⟩, ⟨by (with_reducible repeat (first | apply Kd.R_alloc | apply Kd.R_drewN | apply Kd.R_drew)); exact Kd.R_mono HO383.out (fun _ hk => ⟨hk.2.2.1, ⟨hk.2.2.2.1, ⟨hk.2.2.2.2.1, ⟨hk.2.2.2.2.2.1, hk.2.2.2.2.2.2.1⟩⟩⟩⟩)⟩, ⟨by (with_reducible repeat (first | apply Kd.R_alloc | apply Kd.R_drewN | apply Kd.R_drew)); exact Kd.R_mono HO386.out (fun _ hk => ⟨hk.2.2.1, ⟨hk.2.2.2.1, ⟨hk.2.2.2.2.1, ⟨hk.2.2.2.2.2.1, hk.2.2.2.2.2.2.1⟩⟩⟩⟩)⟩, ⟨by (with_reducible repeat (first | apply Kd.R_alloc | apply Kd.R_drewN | apply Kd.R_drew)); exact Kd.R_mono HO390.out (fun _ hk => ⟨hk.1.1.1.1.2.2.1, ⟨hk.1.1.1.1.2.2.2.1, ⟨hk.1.1.1.1.2.2.2.2, ⟨hk.1.1.1.2, hk.1.1.2⟩⟩⟩⟩)⟩, ⟨by (with_reducible repeat (first | apply Kd.R_alloc | apply Kd.R_drewN | apply Kd.R_drew)); exact Kd.R_mono HO393.out (fun _ hk => ⟨hk.1.1.1.1.2.2.1, ⟨hk.1.1.1.1.2.2.2.1, ⟨hk.1.1.1.1.2.2.2.2, ⟨hk.1.1.1.2, hk.1.1.2⟩⟩⟩⟩)⟩, ⟨by (with_reducible repeat (first | apply Kd.R_alloc | apply Kd.R_drewN | apply Kd.R_drew)); exact Kd.R_mono HO399.out (fun _ hk => ⟨hk.2.2.1, ⟨hk.2.2.2.1, ⟨hk.2.2.2.2.1, ⟨hk.2.2.2.2.2.1, hk.2.2.2.2.2.2.1⟩⟩⟩⟩)⟩, ⟨by (with_reducible repeat (first | apply Kd.R_alloc | apply Kd.R_drewN | apply Kd.R_drew)); exact Kd.R_mono HO402.out (fun _ hk => ⟨hk.2.2.1, ⟨hk.2.2.2.1, ⟨hk.2.2.2.2.1, ⟨hk.2.2.2.2.2.1, hk.2.2.2.2.2.2.1⟩⟩⟩⟩)⟩, ⟨by (with_reducible repeat (first | refine blk_drewN ?_ _ | refine blk_drew ?_ | refine blk_alloc ?_ _)); exact BK371.out⟩, ⟨by (with_reducible repeat (first | refine blk_drewN ?_ _ | refine blk_drew ?_ | refine blk_alloc ?_ _)); exact BK387.out⟩, ⟨by (with_reducible repeat (first | refine blk_drewN ?_ _ | refine blk_drew ?_ | refine blk_alloc ?_ _)); exact BK394.out⟩, ⟨by (with_reducible repeat (first | refine blk_drewN ?_ _ | refine blk_drew ?_ | refine blk_alloc ?_ _)); exact BK403.out⟩, ⟨bb_⟩⟩
          · rw [if_neg c58] at H
            have c58b0 : decide (t412 < 0) = false := decide_eq_false c58
            clear c58
            (first | rw [c58b0] | (simp only [i64_w, i32_w]; rw [c58b0]) | skip)
            replace H := Option.bind_eq_some_iff.mp H
            obtain ⟨t415, A590, H⟩ := H
            replace H : (laws_FnExactSyncJournal.j0 k (!t415) l0_0 l0_1 t379 t380 t381 t384 t395 t396 t397 t400) = some true := H
            have A59 := Aside0.mk A590
            clear A590
            have H' := Aside0.mk H
            clear H
            have hnb60 := NB403_371.out
            have hnc60 := NB371_403.out
            have hnb61 := NB403_387.out
            have hnc61 := NB387_403.out
            have hnb62 := NB403_394.out
            have hnc62 := NB394_403.out
            obtain ⟨hcz63_0, hcz63_1, hcz63_2, hcz63_3, hfz63_0, hfz63_1, hfz63_2, hfz63_3⟩ := cf4_ BK403
            have hnb64 := NB387_371.out
            have hnc64 := NB371_387.out
            have hnb65 := NB387_394.out
            have hnc65 := NB394_387.out
            obtain ⟨hcz66_0, hcz66_1, hcz66_2, hcz66_3, hfz66_0, hfz66_1, hfz66_2, hfz66_3⟩ := cf4_ BK387
            go_wp2_with (first | (go_at_call 19; (with_reducible refine (laws_eqJournalResult.calls k t395 t396 _ _ t397 _ _ t400 t379 t380 _ _ t381 _ _ t384 t415 _ ?side1 ?side2 ?side3 ?side4 ?side5 ?side6 ?side7 ?side8 A59.out).mono ?_); (case side1 => exact kc_ ((Kd.R_reads' HO399.out).2.2)); (case side2 => exact (Kd.R_reads' HO399.out).2.1); (case side3 => exact kc_ ((Kd.R_reads' HO402.out).2.2)); (case side4 => exact (Kd.R_reads' HO402.out).2.1); (case side5 => exact kc_ ((Kd.R_reads' HO383.out).2.2)); (case side6 => exact (Kd.R_reads' HO383.out).2.1); (case side7 => exact kc_ ((Kd.R_reads' HO386.out).2.2)); (case side8 => exact (Kd.R_reads' HO386.out).2.1); rintro e w67 ⟨rfl, hb⟩; replace HO375 := Aside0.mk (Kd.R_below (kr_ HO375) hb); replace HO378 := Aside0.mk (Kd.R_below (kr_ HO378) hb); replace HO383 := Aside0.mk (Kd.R_below (kr_ HO383) hb); replace HO386 := Aside0.mk (Kd.R_below (kr_ HO386) hb); replace HO390 := Aside0.mk (Kd.R_below (kr_ HO390) hb); replace HO393 := Aside0.mk (Kd.R_below (kr_ HO393) hb); replace HO399 := Aside0.mk (Kd.R_below (kr_ HO399) hb); replace HO402 := Aside0.mk (Kd.R_below (kr_ HO402) hb); replace HO407 := Aside0.mk (Kd.R_below (kr_ HO407) hb); replace HO410 := Aside0.mk (Kd.R_below (kr_ HO410) hb); replace BK371 := Aside0.mk (blk_below (kb_ BK371) hb); replace BK387 := Aside0.mk (blk_below (kb_ BK387) hb); replace BK394 := Aside0.mk (blk_below (kb_ BK394) hb); replace BK403 := Aside0.mk (blk_below (kb_ BK403) hb); replace HB := Aside0.mk (below_step bb_ hb); (try clear hb); (try clear hb2); (try clear hk); (try clear hi)))
            go_meet
            case rel => exact ⟨_, (!t415), sd_, H', ⟨ol_⟩, ⟨by (with_reducible repeat (first | apply Kd.R_alloc | apply Kd.R_drewN | apply Kd.R_drew)); exact Kd.R_mono HO383.out (fun _ hk => ⟨hk.2.2.1, ⟨hk.2.2.2.1, ⟨hk.2.2.2.2.1, ⟨hk.2.2.2.2.2.1, hk.2.2.2.2.2.2.1⟩⟩⟩⟩)⟩, ⟨by (with_reducible repeat (first | apply Kd.R_alloc | apply Kd.R_drewN | apply Kd.R_drew)); exact Kd.R_mono HO386.out (fun _ hk => ⟨hk.2.2.1, ⟨hk.2.2.2.1, ⟨hk.2.2.2.2.1, ⟨hk.2.2.2.2.2.1, hk.2.2.2.2.2.2.1⟩⟩⟩⟩)⟩, ⟨by (with_reducible repeat (first | apply Kd.R_alloc | apply Kd.R_drewN | apply Kd.R_drew)); exact Kd.R_mono HO390.out (fun _ hk => ⟨hk.1.1.1.1.2.2.1, ⟨hk.1.1.1.1.2.2.2.1, ⟨hk.1.1.1.1.2.2.2.2, ⟨hk.1.1.1.2, hk.1.1.2⟩⟩⟩⟩)⟩, ⟨by (with_reducible repeat (first | apply Kd.R_alloc | apply Kd.R_drewN | apply Kd.R_drew)); exact Kd.R_mono HO393.out (fun _ hk => ⟨hk.1.1.1.1.2.2.1, ⟨hk.1.1.1.1.2.2.2.1, ⟨hk.1.1.1.1.2.2.2.2, ⟨hk.1.1.1.2, hk.1.1.2⟩⟩⟩⟩)⟩, ⟨by (with_reducible repeat (first | apply Kd.R_alloc | apply Kd.R_drewN | apply Kd.R_drew)); exact Kd.R_mono HO399.out (fun _ hk => ⟨hk.2.2.1, ⟨hk.2.2.2.1, ⟨hk.2.2.2.2.1, ⟨hk.2.2.2.2.2.1, hk.2.2.2.2.2.2.1⟩⟩⟩⟩)⟩, ⟨by (with_reducible repeat (first | apply Kd.R_alloc | apply Kd.R_drewN | apply Kd.R_drew)); exact Kd.R_mono HO402.out (fun _ hk => ⟨hk.2.2.1, ⟨hk.2.2.2.1, ⟨hk.2.2.2.2.1, ⟨hk.2.2.2.2.2.1, hk.2.2.2.2.2.2.1⟩⟩⟩⟩)⟩, ⟨by (with_reducible repeat (first | refine blk_drewN ?_ _ | refine blk_drew ?_ | refine blk_alloc ?_ _)); exact BK371.out⟩, ⟨by (with_reducible repeat (first | refine blk_drewN ?_ _ | refine blk_drew ?_ | refine blk_alloc ?_ _)); exact BK387.out⟩, ⟨by (with_reducible repeat (first | refine blk_drewN ?_ _ | refine blk_drew ?_ | refine blk_alloc ?_ _)); exact BK394.out⟩, ⟨by (with_reducible repeat (first | refine blk_drewN ?_ _ | refine blk_drew ?_ | refine blk_alloc ?_ _)); exact BK403.out⟩, ⟨bb_⟩⟩
        case rest =>
          clear HC17
          try clear c1
          try clear c2
          try clear p2
          try clear c3
          try clear c3b0
          try clear c4
          try clear c5
          try clear c6
          try clear c12
          try clear c15
          try clear c16
          try clear c17
          try clear c18
          try clear c19
          try clear c20
          try clear c21
          try clear c27
          try clear c35
          try clear c36
          try clear c43
          try clear c44
          try clear c45
          try clear c58
          try clear c58b0
          try clear c60
          try clear c61
          try clear c62
          try clear c64
          try clear c65
          try clear hcz19_0
          try clear hcz19_1
          try clear hcz21_0
          try clear hcz21_1
          try clear hcz28_0
          try clear hcz28_1
          try clear hcz28_2
          try clear hcz28_3
          try clear hcz31_0
          try clear hcz31_1
          try clear hcz37_0
          try clear hcz37_1
          try clear hcz40_0
          try clear hcz40_1
          try clear hcz46_0
          try clear hcz46_1
          try clear hcz46_2
          try clear hcz46_3
          try clear hcz49_0
          try clear hcz49_1
          try clear hcz49_2
          try clear hcz49_3
          try clear hcz56_0
          try clear hcz56_1
          try clear hcz5_0
          try clear hcz5_1
          try clear hcz63_0
          try clear hcz63_1
          try clear hcz63_2
          try clear hcz63_3
          try clear hcz66_0
          try clear hcz66_1
          try clear hcz66_2
          try clear hcz66_3
          try clear hfz19_0
          try clear hfz19_1
          try clear hfz21_0
          try clear hfz21_1
          try clear hfz28_0
          try clear hfz28_1
          try clear hfz28_2
          try clear hfz28_3
          try clear hfz31_0
          try clear hfz31_1
          try clear hfz37_0
          try clear hfz37_1
          try clear hfz40_0
          try clear hfz40_1
          try clear hfz46_0
          try clear hfz46_1
          try clear hfz46_2
          try clear hfz46_3
          try clear hfz49_0
          try clear hfz49_1
          try clear hfz49_2
          try clear hfz49_3
          try clear hfz56_0
          try clear hfz56_1
          try clear hfz5_0
          try clear hfz5_1
          try clear hfz63_0
          try clear hfz63_1
          try clear hfz63_2
          try clear hfz63_3
          try clear hfz66_0
          try clear hfz66_1
          try clear hfz66_2
          try clear hfz66_3
          obtain ⟨kq, x42_16, rfl, HA, HJ16, HO_388002, HO_388003, HO_395000, HO_395001, HO_404002, HO_404003, BK371, BK387, BK394, BK403, HB⟩ := hcut
          have hl395000_16 := (Kd.R_reads' HO_395000.out).1
          rw [hl395000_16] at HO_395000
          (try simp only [hl395000_16])
          (try simp only [hl395000_16] at BK371)
          (try simp only [hl395000_16] at BK387)
          (try simp only [hl395000_16] at BK394)
          (try simp only [hl395000_16] at BK403)
          (try simp only [hl395000_16] at HO_388002)
          (try simp only [hl395000_16] at HO_388003)
          (try simp only [hl395000_16] at HO_395001)
          (try simp only [hl395000_16] at HO_404002)
          (try simp only [hl395000_16] at HO_404003)
          have hl395001_16 := (Kd.R_reads' HO_395001.out).1
          rw [hl395001_16] at HO_395001
          (try simp only [hl395001_16])
          (try simp only [hl395001_16] at BK371)
          (try simp only [hl395001_16] at BK387)
          (try simp only [hl395001_16] at BK394)
          (try simp only [hl395001_16] at BK403)
          (try simp only [hl395001_16] at HO_388002)
          (try simp only [hl395001_16] at HO_388003)
          (try simp only [hl395001_16] at HO_395000)
          (try simp only [hl395001_16] at HO_404002)
          (try simp only [hl395001_16] at HO_404003)
          cases kq with
          | zero => exact absurd HA.out (by simp [laws_FnExactSyncJournal.j0])
          | succ kj16 =>
            have H := HA.out
            clear HA
            simp only [laws_FnExactSyncJournal.j0] at H
            by_cases c68 : x42_16 = true
            · subst c68
              have H1 : (some false) = some true := by rw [if_pos rfl] at H; exact H
              clear H
              have H := H1
              clear H1
              exact absurd H (by simp)
            · replace c68 := Bool.eq_false_iff.mpr c68
              subst c68
              have H1 : ((laws_markJournalResult.f kj16 t395 t396 t397 t400 1).bind fun bt416 => ((laws_heldJournalResult.f kj16 t395 t396 bt416.2.1 bt416.2.2 1).bind fun t419 => (if t419 < 0 then (some false) else (if t419 = bt416.1 then ((laws_toJournal.f kj16 l0_0 l0_1).bind fun bt420 => ((impl_SyncJournal.f kj16 bt420.1 bt420.2).bind fun bt426 => ((laws_eqJournalResult.f kj16 bt426.1 bt426.2.1 bt426.2.2.1 bt426.2.2.2 t379 t380 t381 t384).bind fun t435 => (if t435 = true then ((laws_heldJournalResult.f kj16 t395 t396 bt416.2.1 bt416.2.2 1).bind fun t436 => (if t436 < 0 then (some false) else (if t436 = bt416.1 then (some true) else (some false)))) else (some false))))) else (some false))))) = some true := by rw [if_neg (show ¬ (false = true) by decide)] at H; exact H
              clear H
              have H := H1
              clear H1
              replace H := Option.bind_eq_some_iff.mp H
              obtain ⟨⟨t416, t417, t418⟩, A690, H⟩ := H
              replace H : ((laws_heldJournalResult.f kj16 t395 t396 t417 t418 1).bind fun t419 => (if t419 < 0 then (some false) else (if t419 = t416 then ((laws_toJournal.f kj16 l0_0 l0_1).bind fun bt420 => ((impl_SyncJournal.f kj16 bt420.1 bt420.2).bind fun bt426 => ((laws_eqJournalResult.f kj16 bt426.1 bt426.2.1 bt426.2.2.1 bt426.2.2.2 t379 t380 t381 t384).bind fun t435 => (if t435 = true then ((laws_heldJournalResult.f kj16 t395 t396 t417 t418 1).bind fun t436 => (if t436 < 0 then (some false) else (if t436 = t416 then (some true) else (some false)))) else (some false))))) else (some false)))) = some true := H
              have A69 := Aside0.mk A690
              clear A690
              replace H := Option.bind_eq_some_iff.mp H
              obtain ⟨t419, A700, H⟩ := H
              replace H : (if t419 < 0 then (some false) else (if t419 = t416 then ((laws_toJournal.f kj16 l0_0 l0_1).bind fun bt420 => ((impl_SyncJournal.f kj16 bt420.1 bt420.2).bind fun bt426 => ((laws_eqJournalResult.f kj16 bt426.1 bt426.2.1 bt426.2.2.1 bt426.2.2.2 t379 t380 t381 t384).bind fun t435 => (if t435 = true then ((laws_heldJournalResult.f kj16 t395 t396 t417 t418 1).bind fun t436 => (if t436 < 0 then (some false) else (if t436 = t416 then (some true) else (some false)))) else (some false))))) else (some false))) = some true := H
              have A70 := Aside0.mk A700
              clear A700
              by_cases c71 : t419 < 0
              · rw [if_pos c71] at H
                have c71b0 : decide (t419 < 0) = true := decide_eq_true c71
                clear c71
                exact absurd H (by simp)
              · rw [if_neg c71] at H
                have c71b0 : decide (t419 < 0) = false := decide_eq_false c71
                clear c71
                by_cases c79 : t419 = t416
                · rw [if_pos c79] at H
                  have c79b0 : (t419 == t416) = true := beq_iff_eq.mpr c79
                  have c79b1 : (t419 != t416) = false := bne_eq_false_iff_eq.mpr c79
                  clear c79
                  replace H := Option.bind_eq_some_iff.mp H
                  obtain ⟨⟨t420, t423⟩, A800, H⟩ := H
                  replace H : ((impl_SyncJournal.f kj16 t420 t423).bind fun bt426 => ((laws_eqJournalResult.f kj16 bt426.1 bt426.2.1 bt426.2.2.1 bt426.2.2.2 t379 t380 t381 t384).bind fun t435 => (if t435 = true then ((laws_heldJournalResult.f kj16 t395 t396 t417 t418 1).bind fun t436 => (if t436 < 0 then (some false) else (if t436 = t416 then (some true) else (some false)))) else (some false)))) = some true := H
                  have A80 := Aside0.mk A800
                  clear A800
                  replace H := Option.bind_eq_some_iff.mp H
                  obtain ⟨⟨t426, t427, t428, t431⟩, A810, H⟩ := H
                  replace H : ((laws_eqJournalResult.f kj16 t426 t427 t428 t431 t379 t380 t381 t384).bind fun t435 => (if t435 = true then ((laws_heldJournalResult.f kj16 t395 t396 t417 t418 1).bind fun t436 => (if t436 < 0 then (some false) else (if t436 = t416 then (some true) else (some false)))) else (some false))) = some true := H
                  have A81 := Aside0.mk A810
                  clear A810
                  replace H := Option.bind_eq_some_iff.mp H
                  obtain ⟨t435, A820, H⟩ := H
                  replace H : (if t435 = true then ((laws_heldJournalResult.f kj16 t395 t396 t417 t418 1).bind fun t436 => (if t436 < 0 then (some false) else (if t436 = t416 then (some true) else (some false)))) else (some false)) = some true := H
                  have A82 := Aside0.mk A820
                  clear A820
                  by_cases c83 : t435 = true
                  · subst c83
                    have H1 : ((laws_heldJournalResult.f kj16 t395 t396 t417 t418 1).bind fun t436 => (if t436 < 0 then (some false) else (if t436 = t416 then (some true) else (some false)))) = some true := by rw [if_pos rfl] at H; exact H
                    clear H
                    have H := H1
                    clear H1
                    replace H := Option.bind_eq_some_iff.mp H
                    obtain ⟨t436, A840, H⟩ := H
                    replace H : (if t436 < 0 then (some false) else (if t436 = t416 then (some true) else (some false))) = some true := H
                    have A84 := Aside0.mk A840
                    clear A840
                    by_cases c85 : t436 < 0
                    · rw [if_pos c85] at H
                      have c85b0 : decide (t436 < 0) = true := decide_eq_true c85
                      clear c85
                      exact absurd H (by simp)
                    · rw [if_neg c85] at H
                      have c85b0 : decide (t436 < 0) = false := decide_eq_false c85
                      clear c85
                      by_cases c113 : t436 = t416
                      · rw [if_pos c113] at H
                        have c113b0 : (t436 == t416) = true := beq_iff_eq.mpr c113
                        have c113b1 : (t436 != t416) = false := bne_eq_false_iff_eq.mpr c113
                        clear c113
                        clear H
                        have hnb114 := NB403_371.out
                        have hnc114 := NB371_403.out
                        have hnb115 := NB403_387.out
                        have hnc115 := NB387_403.out
                        have hnb116 := NB403_394.out
                        have hnc116 := NB394_403.out
                        obtain ⟨hcz117_0, hcz117_1, hcz117_2, hcz117_3, hfz117_0, hfz117_1, hfz117_2, hfz117_3⟩ := cf4_ BK403
                        go_wp2_with (first | ((with_reducible refine gate_callee (f := 22) rfl ?_); refine goe_ (some 45) Try.func22 #[.agg #[.int .i64 t395, .int .i64 t396, .slice Ao47 t397.length co47, .slice Ao48 t400.length co48], .int .i64 1] ?_; (with_reducible refine (laws_markJournalResult.calls kj16 t395 t396 (fun k_ => some k_ = (.slice Ao47 t397.length co47 : Value).ownBlock) (.slice Ao47 t397.length co47) t397 (fun k_ => some k_ = (.slice Ao48 t400.length co48 : Value).ownBlock) (.slice Ao48 t400.length co48) t400 1 t416 t417 t418 w _ ?side1 ?side2 ?side3 ?side4 ?side5 A69.out).mono ?_); (case side1 => exact bb_); (case side2 => exact Kd.R_tight rfl HO_404002.out); (case side3 => exact fun k_ e_ => (HO_404002.out.1 k_ e_.symm).2.2.2.2); (case side4 => exact Kd.R_tight rfl HO_404003.out); (case side5 => exact fun k_ e_ => (HO_404003.out.1 k_ e_.symm).2.2.2.2); rintro e w118 ⟨rfl, hy0, hy1, hb, hkp⟩; refine ⟨_, rfl, ?_⟩; replace HO_388002 := Aside0.mk (Kd.R_mono (ok' := fun k_ => some k_ ≠ (.slice Ao30 t384.length co30 : Value).ownBlock ∧ some k_ ≠ (.slice Ao34 t413.length co34 : Value).ownBlock ∧ some k_ ≠ (.slice Ao38 t414.length co38 : Value).ownBlock ∧ some k_ ≠ (.slice Ao47 t397.length co47 : Value).ownBlock ∧ some k_ ≠ (.slice Ao48 t400.length co48 : Value).ownBlock) (Kd.R_keptB (HO_388002.out) hkp (fun k_ hk_ hs_ => Or.elim hs_ (fun e_ => (hk_.2.2.2.1) e_) (fun e_ => (hk_.2.2.2.2) e_))) (fun k_ hk_ => ⟨hk_.1.1, hk_.1.2.1, hk_.1.2.2.1, hk_.1.2.2.2.1, hk_.1.2.2.2.2⟩)); replace HO_388003 := Aside0.mk (Kd.R_mono (ok' := fun k_ => some k_ ≠ (.slice Ao29 t381.length co29 : Value).ownBlock ∧ some k_ ≠ (.slice Ao34 t413.length co34 : Value).ownBlock ∧ some k_ ≠ (.slice Ao38 t414.length co38 : Value).ownBlock ∧ some k_ ≠ (.slice Ao47 t397.length co47 : Value).ownBlock ∧ some k_ ≠ (.slice Ao48 t400.length co48 : Value).ownBlock) (Kd.R_keptB (HO_388003.out) hkp (fun k_ hk_ hs_ => Or.elim hs_ (fun e_ => (hk_.2.2.2.1) e_) (fun e_ => (hk_.2.2.2.2) e_))) (fun k_ hk_ => ⟨hk_.1.1, hk_.1.2.1, hk_.1.2.2.1, hk_.1.2.2.2.1, hk_.1.2.2.2.2⟩)); replace HO_395000 := Aside0.mk (Kd.R_mono (ok' := fun k_ => some k_ ≠ (.slice Ao29 t381.length co29 : Value).ownBlock ∧ some k_ ≠ (.slice Ao30 t384.length co30 : Value).ownBlock ∧ some k_ ≠ (.slice Ao38 t414.length co38 : Value).ownBlock ∧ some k_ ≠ (.slice Ao47 t397.length co47 : Value).ownBlock ∧ some k_ ≠ (.slice Ao48 t400.length co48 : Value).ownBlock) (Kd.R_keptB (HO_395000.out) hkp (fun k_ hk_ hs_ => Or.elim hs_ (fun e_ => (hk_.2.2.2.1) e_) (fun e_ => (hk_.2.2.2.2) e_))) (fun k_ hk_ => ⟨hk_.1.1, hk_.1.2.1, hk_.1.2.2.1, hk_.1.2.2.2.1, hk_.1.2.2.2.2⟩)); replace HO_395001 := Aside0.mk (Kd.R_mono (ok' := fun k_ => some k_ ≠ (.slice Ao29 t381.length co29 : Value).ownBlock ∧ some k_ ≠ (.slice Ao30 t384.length co30 : Value).ownBlock ∧ some k_ ≠ (.slice Ao34 t413.length co34 : Value).ownBlock ∧ some k_ ≠ (.slice Ao47 t397.length co47 : Value).ownBlock ∧ some k_ ≠ (.slice Ao48 t400.length co48 : Value).ownBlock) (Kd.R_keptB (HO_395001.out) hkp (fun k_ hk_ hs_ => Or.elim hs_ (fun e_ => (hk_.2.2.2.1) e_) (fun e_ => (hk_.2.2.2.2) e_))) (fun k_ hk_ => ⟨hk_.1.1, hk_.1.2.1, hk_.1.2.2.1, hk_.1.2.2.2.1, hk_.1.2.2.2.2⟩)); replace BK371 := Aside0.mk (blk_kept (by (with_reducible repeat (first | refine blk_drewN ?_ _ | refine blk_drew ?_ | refine blk_alloc ?_ _)); exact BK371.out) hkp (fun hs_ => Or.elim hs_ (fun e_ => (fun e_ => (Kd.R_ne HO_404002.out BK371.out (by decide)) e_) e_) (fun e_ => (fun e_ => (Kd.R_ne HO_404003.out BK371.out (by decide)) e_) e_))); replace BK387 := Aside0.mk (blk_kept (by (with_reducible repeat (first | refine blk_drewN ?_ _ | refine blk_drew ?_ | refine blk_alloc ?_ _)); exact BK387.out) hkp (fun hs_ => Or.elim hs_ (fun e_ => (fun e_ => (Kd.R_ne HO_404002.out BK387.out (by decide)) e_) e_) (fun e_ => (fun e_ => (Kd.R_ne HO_404003.out BK387.out (by decide)) e_) e_))); replace BK394 := Aside0.mk (blk_kept (by (with_reducible repeat (first | refine blk_drewN ?_ _ | refine blk_drew ?_ | refine blk_alloc ?_ _)); exact BK394.out) hkp (fun hs_ => Or.elim hs_ (fun e_ => (fun e_ => (Kd.R_ne HO_404002.out BK394.out (by decide)) e_) e_) (fun e_ => (fun e_ => (Kd.R_ne HO_404003.out BK394.out (by decide)) e_) e_))); replace BK403 := Aside0.mk (blk_kept (by (with_reducible repeat (first | refine blk_drewN ?_ _ | refine blk_drew ?_ | refine blk_alloc ?_ _)); exact BK403.out) hkp (fun hs_ => Or.elim hs_ (fun e_ => (fun e_ => (Kd.R_ne HO_404002.out BK403.out (by decide)) e_) e_) (fun e_ => (fun e_ => (Kd.R_ne HO_404003.out BK403.out (by decide)) e_) e_))); replace HO_404002 := Aside0.mk (Kd.R_reok rfl hy0 (fun k_ e_ => HO_404002.out.1 k_ e_)); replace HO_404003 := Aside0.mk (Kd.R_reok rfl hy1 (fun k_ e_ => HO_404003.out.1 k_ e_)); replace HB := Aside0.mk (hb); (try clear hb); (try clear hkp); (try clear hy0); (try clear hy1); obtain ⟨hcz119_0, hcz119_1, hcz119_2, hcz119_3, hfz119_0, hfz119_1, hfz119_2, hfz119_3⟩ := cf4_ BK403) | ((with_reducible refine gate_callee (f := 23) rfl ?_); refine goesL_ (some 48) rfl rfl Try.func23 (by kernel_rfl) rfl #[.agg #[.int .i64 t395, .int .i64 t396, .slice Ao47 t417.length co47, .slice Ao48 t418.length co48], .int .i64 1] rfl (by (try simp only [List.map_toArray, List.map_cons, List.map_nil]); first | done | (rw [show t417.length = t397.length from (Kd.R_reads' HO_404002.out).1.symm, show t418.length = t400.length from (Kd.R_reads' HO_404003.out).1.symm] <;> rfl) | rfl | (simp only [List.length_drop, List.length_take]; rfl)) ?_; (with_reducible refine (laws_heldJournalResult.calls kj16 t395 t396 _ _ t417 _ _ t418 1 t419 _ ?side1 ?side2 ?side3 ?side4 A70.out).mono ?_); (case side1 => exact kc_ ((Kd.R_reads' HO_404002.out).2.2)); (case side2 => rw [show t417.length = t397.length from (Kd.R_reads' HO_404002.out).1.symm]; exact (Kd.R_reads' HO_404002.out).2.1); (case side3 => exact kc_ ((Kd.R_reads' HO_404003.out).2.2)); (case side4 => rw [show t418.length = t400.length from (Kd.R_reads' HO_404003.out).1.symm]; exact (Kd.R_reads' HO_404003.out).2.1); rintro e w120 ⟨rfl, hb⟩; refine ⟨_, rfl, ?_⟩; replace HO_388002 := Aside0.mk (Kd.R_below (kr_ HO_388002) hb); replace HO_388003 := Aside0.mk (Kd.R_below (kr_ HO_388003) hb); replace HO_395000 := Aside0.mk (Kd.R_below (kr_ HO_395000) hb); replace HO_395001 := Aside0.mk (Kd.R_below (kr_ HO_395001) hb); replace HO_404002 := Aside0.mk (Kd.R_below (kr_ HO_404002) hb); replace HO_404003 := Aside0.mk (Kd.R_below (kr_ HO_404003) hb); replace BK371 := Aside0.mk (blk_below (kb_ BK371) hb); replace BK387 := Aside0.mk (blk_below (kb_ BK387) hb); replace BK394 := Aside0.mk (blk_below (kb_ BK394) hb); replace BK403 := Aside0.mk (blk_below (kb_ BK403) hb); replace HB := Aside0.mk (below_step bb_ hb); (try clear hb); (try clear hb2); (try clear hk); (try clear hi); have hnb121 := NB371_387.out; have hnc121 := NB387_371.out; have hnb122 := NB371_394.out; have hnc122 := NB394_371.out; obtain ⟨hcz123_0, hcz123_1, hfz123_0, hfz123_1⟩ := cf2_ BK371) | ((with_reducible refine gate_callee (f := 17) rfl ?_); refine goe_ (some 55) Try.func17 #[.agg #[.slice A0_0 l0_0.length c0_0, .slice A0_1 l0_1.length c0_1]] ?_; (with_reducible refine (laws_toJournal.calls kj16 _ _ l0_0 _ _ l0_1 t420 t423 _ ?side1 ?side2 ?side3 ?side4 A80.out).mono ?_); (case side1 => exact kc_ (Kd.C_below HR0_0.out HB.out)); (case side2 => exact HC0_0.out); (case side3 => exact kc_ (Kd.C_below HR0_1.out HB.out)); (case side4 => exact HC0_1.out); rintro e w124 ⟨v421, v424, rfl, ho0, ho1, hb⟩; refine ⟨_, rfl, ?_⟩; have HO422 := Aside0.mk (Kd.R_lower (Kd.R_new' (Kd.R_new' (Kd.R_new' (Kd.R_new' (Kd.R_new' (Kd.R_new' ho0 (Kd.R_lt (kr_ HO_388002))) (Kd.R_lt (kr_ HO_388003))) (Kd.R_lt (kr_ HO_395000))) (Kd.R_lt (kr_ HO_395001))) (Kd.R_lt (kr_ HO_404002))) (Kd.R_lt (kr_ HO_404003))) (below_size bb_)); have HO425 := Aside0.mk (Kd.R_lower (Kd.R_new' (Kd.R_new' (Kd.R_new' (Kd.R_new' (Kd.R_new' (Kd.R_new' ho1 (Kd.R_lt (kr_ HO_388002))) (Kd.R_lt (kr_ HO_388003))) (Kd.R_lt (kr_ HO_395000))) (Kd.R_lt (kr_ HO_395001))) (Kd.R_lt (kr_ HO_404002))) (Kd.R_lt (kr_ HO_404003))) (below_size bb_)); replace HO_388002 := Aside0.mk (Kd.R_mono (Kd.R_told (Kd.R_told (Kd.R_old (kr_ HO_388002) hb) (Kd.R_base ho0)) (Kd.R_base ho1)) (fun _ h_ => h_.1)); replace HO_388003 := Aside0.mk (Kd.R_mono (Kd.R_told (Kd.R_told (Kd.R_old (kr_ HO_388003) hb) (Kd.R_base ho0)) (Kd.R_base ho1)) (fun _ h_ => h_.1)); replace HO_395000 := Aside0.mk (Kd.R_mono (Kd.R_told (Kd.R_told (Kd.R_old (kr_ HO_395000) hb) (Kd.R_base ho0)) (Kd.R_base ho1)) (fun _ h_ => h_.1)); replace HO_395001 := Aside0.mk (Kd.R_mono (Kd.R_told (Kd.R_told (Kd.R_old (kr_ HO_395001) hb) (Kd.R_base ho0)) (Kd.R_base ho1)) (fun _ h_ => h_.1)); replace HO_404002 := Aside0.mk (Kd.R_mono (Kd.R_told (Kd.R_told (Kd.R_old (kr_ HO_404002) hb) (Kd.R_base ho0)) (Kd.R_base ho1)) (fun _ h_ => h_.1)); replace HO_404003 := Aside0.mk (Kd.R_mono (Kd.R_told (Kd.R_told (Kd.R_old (kr_ HO_404003) hb) (Kd.R_base ho0)) (Kd.R_base ho1)) (fun _ h_ => h_.1)); replace BK371 := Aside0.mk (blk_below (kb_ BK371) hb); replace BK387 := Aside0.mk (blk_below (kb_ BK387) hb); replace BK394 := Aside0.mk (blk_below (kb_ BK394) hb); replace BK403 := Aside0.mk (blk_below (kb_ BK403) hb); replace HB := Aside0.mk (below_step bb_ hb); (try clear hb); (try clear hb2); (try clear hk); (try clear hi); (try clear ho0); (try clear ho1); obtain ⟨Ao125, co125, eo125⟩ := Kd.R_slice HO422.out; subst eo125; obtain ⟨Ao126, co126, eo126⟩ := Kd.R_slice HO425.out; subst eo126) | ((with_reducible refine gate_callee (f := 18) rfl ?_); refine goe_ (some 56) Try.func18 #[.agg #[.slice Ao125 t420.length co125, .slice Ao126 t423.length co126]] ?_; (with_reducible refine (impl_SyncJournal.calls kj16 (fun k_ => some k_ = (.slice Ao125 t420.length co125 : Value).ownBlock) _ _ t420 (fun k_ => some k_ = (.slice Ao126 t423.length co126 : Value).ownBlock) _ _ t423 t426 t427 t428 t431 _ ?side1 ?side2 A81.out).mono ?_); (case side1 => exact Kd.R_V (Kd.R_tight rfl (Kd.R_types (Kd.R_types (Kd.R_types (Kd.R_types (HO422.out) BK371.out (by decide)) BK387.out (by decide)) BK394.out (by decide)) BK403.out (by decide)))); (case side2 => exact Kd.R_V (Kd.R_tight rfl (Kd.R_types (Kd.R_types (Kd.R_types (Kd.R_types (HO425.out) BK371.out (by decide)) BK387.out (by decide)) BK394.out (by decide)) BK403.out (by decide)))); rintro e w127 ⟨v429, v432, rfl, ho0, ho1, hb⟩; refine ⟨_, rfl, ?_⟩; have HO430 := Aside0.mk (Kd.R_lower (Kd.R_new' (Kd.R_new' (Kd.R_new' (Kd.R_new' (Kd.R_new' (Kd.R_new' (Kd.R_new' (Kd.R_new' (Kd.R_mono (ok' := fun k_ => some k_ ≠ (v432 : Value).ownBlock) ho0 (fun _ hk_ => hk_.2)) (Kd.R_lt (kr_ HO_388002))) (Kd.R_lt (kr_ HO_388003))) (Kd.R_lt (kr_ HO_395000))) (Kd.R_lt (kr_ HO_395001))) (Kd.R_lt (kr_ HO_404002))) (Kd.R_lt (kr_ HO_404003))) (Kd.R_lt (kr_ HO422))) (Kd.R_lt (kr_ HO425))) (below_size bb_)); have HO433 := Aside0.mk (Kd.R_lower (Kd.R_new' (Kd.R_new' (Kd.R_new' (Kd.R_new' (Kd.R_new' (Kd.R_new' (Kd.R_new' (Kd.R_new' (Kd.R_mono (ok' := fun k_ => some k_ ≠ (v429 : Value).ownBlock) ho1 (fun _ hk_ => hk_.2)) (Kd.R_lt (kr_ HO_388002))) (Kd.R_lt (kr_ HO_388003))) (Kd.R_lt (kr_ HO_395000))) (Kd.R_lt (kr_ HO_395001))) (Kd.R_lt (kr_ HO_404002))) (Kd.R_lt (kr_ HO_404003))) (Kd.R_lt (kr_ HO422))) (Kd.R_lt (kr_ HO425))) (below_size bb_)); replace HO_388002 := Aside0.mk (Kd.R_mono (Kd.R_told (Kd.R_told (Kd.R_old (kr_ HO_388002) hb) (Kd.R_base ho0)) (Kd.R_base ho1)) (fun _ h_ => h_.1)); replace HO_388003 := Aside0.mk (Kd.R_mono (Kd.R_told (Kd.R_told (Kd.R_old (kr_ HO_388003) hb) (Kd.R_base ho0)) (Kd.R_base ho1)) (fun _ h_ => h_.1)); replace HO_395000 := Aside0.mk (Kd.R_mono (Kd.R_told (Kd.R_told (Kd.R_old (kr_ HO_395000) hb) (Kd.R_base ho0)) (Kd.R_base ho1)) (fun _ h_ => h_.1)); replace HO_395001 := Aside0.mk (Kd.R_mono (Kd.R_told (Kd.R_told (Kd.R_old (kr_ HO_395001) hb) (Kd.R_base ho0)) (Kd.R_base ho1)) (fun _ h_ => h_.1)); replace HO_404002 := Aside0.mk (Kd.R_mono (Kd.R_told (Kd.R_told (Kd.R_old (kr_ HO_404002) hb) (Kd.R_base ho0)) (Kd.R_base ho1)) (fun _ h_ => h_.1)); replace HO_404003 := Aside0.mk (Kd.R_mono (Kd.R_told (Kd.R_told (Kd.R_old (kr_ HO_404003) hb) (Kd.R_base ho0)) (Kd.R_base ho1)) (fun _ h_ => h_.1)); replace HO422 := Aside0.mk (Kd.R_mono (Kd.R_told (Kd.R_told (Kd.R_old (kr_ HO422) hb) (Kd.R_base ho0)) (Kd.R_base ho1)) (fun _ h_ => h_.1)); replace HO425 := Aside0.mk (Kd.R_mono (Kd.R_told (Kd.R_told (Kd.R_old (kr_ HO425) hb) (Kd.R_base ho0)) (Kd.R_base ho1)) (fun _ h_ => h_.1)); replace BK371 := Aside0.mk (blk_below (kb_ BK371) hb); replace BK387 := Aside0.mk (blk_below (kb_ BK387) hb); replace BK394 := Aside0.mk (blk_below (kb_ BK394) hb); replace BK403 := Aside0.mk (blk_below (kb_ BK403) hb); replace HB := Aside0.mk (below_step bb_ hb); (try clear hb); (try clear hb2); (try clear hk); (try clear hi); (try clear ho0); (try clear ho1)) | ((with_reducible refine gate_dst (N := 10) rfl ?_); refine box_e_ 10 #[.int .i64 0, .int .i64 0, .slice none 0 0, .slice none 0 0] 28 ?_; intro gb434 hg w128 hbox hb; replace HO_388002 := Aside0.mk (Kd.R_below (kr_ HO_388002) hb); replace HO_388003 := Aside0.mk (Kd.R_below (kr_ HO_388003) hb); replace HO_395000 := Aside0.mk (Kd.R_below (kr_ HO_395000) hb); replace HO_395001 := Aside0.mk (Kd.R_below (kr_ HO_395001) hb); replace HO_404002 := Aside0.mk (Kd.R_below (kr_ HO_404002) hb); replace HO_404003 := Aside0.mk (Kd.R_below (kr_ HO_404003) hb); replace HO422 := Aside0.mk (Kd.R_below (kr_ HO422) hb); replace HO425 := Aside0.mk (Kd.R_below (kr_ HO425) hb); replace HO430 := Aside0.mk (Kd.R_below (kr_ HO430) hb); replace HO433 := Aside0.mk (Kd.R_below (kr_ HO433) hb); have BK434 := Aside0.mk (hbox); have GW434 := (bs_ hg : Aside0 (w.heap.size ≤ _)); have GE434 := (bs_ hg : Aside0 (w.heap.size ≤ _)); replace HB := Aside0.mk (below_step bb_ hb); have NB371_434 := (nl_ hg BK371 : Aside0 (gb371 ≠ gb434)); have NB434_371 := (nr_ hg BK371 : Aside0 (gb434 ≠ gb371)); replace BK371 := Aside0.mk (blk_below (kb_ BK371) hb); have NB387_434 := (nl_ hg BK387 : Aside0 (gb387 ≠ gb434)); have NB434_387 := (nr_ hg BK387 : Aside0 (gb434 ≠ gb387)); replace BK387 := Aside0.mk (blk_below (kb_ BK387) hb); have NB394_434 := (nl_ hg BK394 : Aside0 (gb394 ≠ gb434)); have NB434_394 := (nr_ hg BK394 : Aside0 (gb434 ≠ gb394)); replace BK394 := Aside0.mk (blk_below (kb_ BK394) hb); have NB403_434 := (nl_ hg BK403 : Aside0 (gb403 ≠ gb434)); have NB434_403 := (nr_ hg BK403 : Aside0 (gb434 ≠ gb403)); replace BK403 := Aside0.mk (blk_below (kb_ BK403) hb); clear hb hbox hg; have hnb129 := NB434_371.out; have hnc129 := NB371_434.out; have hnb130 := NB434_387.out; have hnc130 := NB387_434.out; have hnb131 := NB434_394.out; have hnc131 := NB394_434.out; have hnb132 := NB434_403.out; have hnc132 := NB403_434.out; obtain ⟨hcz133_0, hcz133_1, hcz133_2, hcz133_3, hfz133_0, hfz133_1, hfz133_2, hfz133_3⟩ := cf4_ BK434; obtain ⟨Ao134, co134, eo134⟩ := Kd.R_slice HO430.out; subst eo134; obtain ⟨Ao135, co135, eo135⟩ := Kd.R_slice HO433.out; subst eo135; have hnb136 := NB387_394.out; have hnc136 := NB394_387.out; obtain ⟨hcz137_0, hcz137_1, hcz137_2, hcz137_3, hfz137_0, hfz137_1, hfz137_2, hfz137_3⟩ := cf4_ BK387) | ((with_reducible refine gate_callee (f := 19) rfl ?_); refine goe_ (some 59) Try.func19 #[.agg #[.int .i64 t426, .int .i64 t427, .slice Ao134 t428.length co134, .slice Ao135 t431.length co135], .agg #[.int .i64 t379, .int .i64 t380, .slice Ao29 t381.length co29, .slice Ao30 t384.length co30]] ?_; (with_reducible refine (laws_eqJournalResult.calls kj16 t426 t427 _ _ t428 _ _ t431 t379 t380 _ _ t381 _ _ t384 true _ ?side1 ?side2 ?side3 ?side4 ?side5 ?side6 ?side7 ?side8 A82.out).mono ?_); (case side1 => refine (Kd.R_reads' (e := 5) (base := w.heap.size) (ok := fun k_ => ((((((((some k_ ≠ (.slice Ao135 t431.length co135 : Value).ownBlock ∧ some k_ ≠ (.slice Ao29 t381.length co29 : Value).ownBlock) ∧ some k_ ≠ (.slice Ao30 t384.length co30 : Value).ownBlock) ∧ some k_ ≠ (.slice Ao34 t413.length co34 : Value).ownBlock) ∧ some k_ ≠ (.slice Ao38 t414.length co38 : Value).ownBlock) ∧ some k_ ≠ (.slice Ao47 t397.length co47 : Value).ownBlock) ∧ some k_ ≠ (.slice Ao48 t400.length co48 : Value).ownBlock) ∧ some k_ ≠ (.slice Ao125 t420.length co125 : Value).ownBlock) ∧ some k_ ≠ (.slice Ao126 t423.length co126 : Value).ownBlock)) (n := t428.length) (c := co134) ?_).2.2; exact (by (with_reducible repeat (first | apply Kd.R_alloc | apply Kd.R_drewN | apply Kd.R_drew)); exact (Kd.R_mono (Kd.R_far (p := ⟨gb434, 3, none⟩) (Kd.R_far (p := ⟨gb434, 2, none⟩) (Kd.R_far (p := ⟨gb434, 1, none⟩) (Kd.R_far (p := ⟨gb434, 0, none⟩) (Kd.R_types HO430.out BK434.out (by decide)) (fun _ hk => hk.2) (.int .i64 t426)) (fun _ hk => hk.2) (.int .i64 t427)) (fun _ hk => hk.2) (.slice Ao134 t428.length co134)) (fun _ hk => hk.2) (.slice Ao135 t431.length co135)) (fun _ h_ => h_.1)))); (case side2 => exact (Kd.R_reads' HO430.out).2.1); (case side3 => refine (Kd.R_reads' (e := 5) (base := w.heap.size) (ok := fun k_ => ((((((((some k_ ≠ (.slice Ao134 t428.length co134 : Value).ownBlock ∧ some k_ ≠ (.slice Ao29 t381.length co29 : Value).ownBlock) ∧ some k_ ≠ (.slice Ao30 t384.length co30 : Value).ownBlock) ∧ some k_ ≠ (.slice Ao34 t413.length co34 : Value).ownBlock) ∧ some k_ ≠ (.slice Ao38 t414.length co38 : Value).ownBlock) ∧ some k_ ≠ (.slice Ao47 t397.length co47 : Value).ownBlock) ∧ some k_ ≠ (.slice Ao48 t400.length co48 : Value).ownBlock) ∧ some k_ ≠ (.slice Ao125 t420.length co125 : Value).ownBlock) ∧ some k_ ≠ (.slice Ao126 t423.length co126 : Value).ownBlock)) (n := t431.length) (c := co135) ?_).2.2; exact (by (with_reducible repeat (first | apply Kd.R_alloc | apply Kd.R_drewN | apply Kd.R_drew)); exact (Kd.R_mono (Kd.R_far (p := ⟨gb434, 3, none⟩) (Kd.R_far (p := ⟨gb434, 2, none⟩) (Kd.R_far (p := ⟨gb434, 1, none⟩) (Kd.R_far (p := ⟨gb434, 0, none⟩) (Kd.R_types HO433.out BK434.out (by decide)) (fun _ hk => hk.2) (.int .i64 t426)) (fun _ hk => hk.2) (.int .i64 t427)) (fun _ hk => hk.2) (.slice Ao134 t428.length co134)) (fun _ hk => hk.2) (.slice Ao135 t431.length co135)) (fun _ h_ => h_.1)))); (case side4 => exact (Kd.R_reads' HO433.out).2.1); (case side5 => refine (Kd.R_reads' (e := 5) (base := w.heap.size) (ok := fun k_ => (((((some k_ ≠ (.slice Ao30 t384.length co30 : Value).ownBlock ∧ (some k_ ≠ (.slice Ao34 t413.length co34 : Value).ownBlock ∧ (some k_ ≠ (.slice Ao38 t414.length co38 : Value).ownBlock ∧ (some k_ ≠ (.slice Ao47 t397.length co47 : Value).ownBlock ∧ some k_ ≠ (.slice Ao48 t400.length co48 : Value).ownBlock)))) ∧ some k_ ≠ (.slice Ao125 t420.length co125 : Value).ownBlock) ∧ some k_ ≠ (.slice Ao126 t423.length co126 : Value).ownBlock) ∧ some k_ ≠ (.slice Ao134 t428.length co134 : Value).ownBlock) ∧ some k_ ≠ (.slice Ao135 t431.length co135 : Value).ownBlock)) (n := t381.length) (c := co29) ?_).2.2; exact (by (with_reducible repeat (first | apply Kd.R_alloc | apply Kd.R_drewN | apply Kd.R_drew)); exact (Kd.R_mono (Kd.R_far (p := ⟨gb434, 3, none⟩) (Kd.R_far (p := ⟨gb434, 2, none⟩) (Kd.R_far (p := ⟨gb434, 1, none⟩) (Kd.R_far (p := ⟨gb434, 0, none⟩) (Kd.R_types HO_388002.out BK434.out (by decide)) (fun _ hk => hk.2) (.int .i64 t426)) (fun _ hk => hk.2) (.int .i64 t427)) (fun _ hk => hk.2) (.slice Ao134 t428.length co134)) (fun _ hk => hk.2) (.slice Ao135 t431.length co135)) (fun _ h_ => h_.1)))); (case side6 => exact (Kd.R_reads' HO_388002.out).2.1); (case side7 => refine (Kd.R_reads' (e := 5) (base := w.heap.size) (ok := fun k_ => (((((some k_ ≠ (.slice Ao29 t381.length co29 : Value).ownBlock ∧ (some k_ ≠ (.slice Ao34 t413.length co34 : Value).ownBlock ∧ (some k_ ≠ (.slice Ao38 t414.length co38 : Value).ownBlock ∧ (some k_ ≠ (.slice Ao47 t397.length co47 : Value).ownBlock ∧ some k_ ≠ (.slice Ao48 t400.length co48 : Value).ownBlock)))) ∧ some k_ ≠ (.slice Ao125 t420.length co125 : Value).ownBlock) ∧ some k_ ≠ (.slice Ao126 t423.length co126 : Value).ownBlock) ∧ some k_ ≠ (.slice Ao134 t428.length co134 : Value).ownBlock) ∧ some k_ ≠ (.slice Ao135 t431.length co135 : Value).ownBlock)) (n := t384.length) (c := co30) ?_).2.2; exact (by (with_reducible repeat (first | apply Kd.R_alloc | apply Kd.R_drewN | apply Kd.R_drew)); exact (Kd.R_mono (Kd.R_far (p := ⟨gb434, 3, none⟩) (Kd.R_far (p := ⟨gb434, 2, none⟩) (Kd.R_far (p := ⟨gb434, 1, none⟩) (Kd.R_far (p := ⟨gb434, 0, none⟩) (Kd.R_types HO_388003.out BK434.out (by decide)) (fun _ hk => hk.2) (.int .i64 t426)) (fun _ hk => hk.2) (.int .i64 t427)) (fun _ hk => hk.2) (.slice Ao134 t428.length co134)) (fun _ hk => hk.2) (.slice Ao135 t431.length co135)) (fun _ h_ => h_.1)))); (case side8 => exact (Kd.R_reads' HO_388003.out).2.1); rintro e w138 ⟨rfl, hb⟩; refine ⟨_, rfl, ?_⟩; replace HO_388002 := Aside0.mk (Kd.R_below (by (with_reducible repeat (first | apply Kd.R_alloc | apply Kd.R_drewN | apply Kd.R_drew)); exact (Kd.R_mono (Kd.R_far (p := ⟨gb434, 3, none⟩) (Kd.R_far (p := ⟨gb434, 2, none⟩) (Kd.R_far (p := ⟨gb434, 1, none⟩) (Kd.R_far (p := ⟨gb434, 0, none⟩) (Kd.R_types HO_388002.out BK434.out (by decide)) (fun _ hk => hk.2) (.int .i64 t426)) (fun _ hk => hk.2) (.int .i64 t427)) (fun _ hk => hk.2) (.slice Ao134 t428.length co134)) (fun _ hk => hk.2) (.slice Ao135 t431.length co135)) (fun _ h_ => h_.1))) hb); replace HO_388003 := Aside0.mk (Kd.R_below (by (with_reducible repeat (first | apply Kd.R_alloc | apply Kd.R_drewN | apply Kd.R_drew)); exact (Kd.R_mono (Kd.R_far (p := ⟨gb434, 3, none⟩) (Kd.R_far (p := ⟨gb434, 2, none⟩) (Kd.R_far (p := ⟨gb434, 1, none⟩) (Kd.R_far (p := ⟨gb434, 0, none⟩) (Kd.R_types HO_388003.out BK434.out (by decide)) (fun _ hk => hk.2) (.int .i64 t426)) (fun _ hk => hk.2) (.int .i64 t427)) (fun _ hk => hk.2) (.slice Ao134 t428.length co134)) (fun _ hk => hk.2) (.slice Ao135 t431.length co135)) (fun _ h_ => h_.1))) hb); replace HO_395000 := Aside0.mk (Kd.R_below (by (with_reducible repeat (first | apply Kd.R_alloc | apply Kd.R_drewN | apply Kd.R_drew)); exact (Kd.R_mono (Kd.R_far (p := ⟨gb434, 3, none⟩) (Kd.R_far (p := ⟨gb434, 2, none⟩) (Kd.R_far (p := ⟨gb434, 1, none⟩) (Kd.R_far (p := ⟨gb434, 0, none⟩) (Kd.R_types HO_395000.out BK434.out (by decide)) (fun _ hk => hk.2) (.int .i64 t426)) (fun _ hk => hk.2) (.int .i64 t427)) (fun _ hk => hk.2) (.slice Ao134 t428.length co134)) (fun _ hk => hk.2) (.slice Ao135 t431.length co135)) (fun _ h_ => h_.1))) hb); replace HO_395001 := Aside0.mk (Kd.R_below (by (with_reducible repeat (first | apply Kd.R_alloc | apply Kd.R_drewN | apply Kd.R_drew)); exact (Kd.R_mono (Kd.R_far (p := ⟨gb434, 3, none⟩) (Kd.R_far (p := ⟨gb434, 2, none⟩) (Kd.R_far (p := ⟨gb434, 1, none⟩) (Kd.R_far (p := ⟨gb434, 0, none⟩) (Kd.R_types HO_395001.out BK434.out (by decide)) (fun _ hk => hk.2) (.int .i64 t426)) (fun _ hk => hk.2) (.int .i64 t427)) (fun _ hk => hk.2) (.slice Ao134 t428.length co134)) (fun _ hk => hk.2) (.slice Ao135 t431.length co135)) (fun _ h_ => h_.1))) hb); replace HO_404002 := Aside0.mk (Kd.R_below (by (with_reducible repeat (first | apply Kd.R_alloc | apply Kd.R_drewN | apply Kd.R_drew)); exact (Kd.R_mono (Kd.R_far (p := ⟨gb434, 3, none⟩) (Kd.R_far (p := ⟨gb434, 2, none⟩) (Kd.R_far (p := ⟨gb434, 1, none⟩) (Kd.R_far (p := ⟨gb434, 0, none⟩) (Kd.R_types HO_404002.out BK434.out (by decide)) (fun _ hk => hk.2) (.int .i64 t426)) (fun _ hk => hk.2) (.int .i64 t427)) (fun _ hk => hk.2) (.slice Ao134 t428.length co134)) (fun _ hk => hk.2) (.slice Ao135 t431.length co135)) (fun _ h_ => h_.1))) hb); replace HO_404003 := Aside0.mk (Kd.R_below (by (with_reducible repeat (first | apply Kd.R_alloc | apply Kd.R_drewN | apply Kd.R_drew)); exact (Kd.R_mono (Kd.R_far (p := ⟨gb434, 3, none⟩) (Kd.R_far (p := ⟨gb434, 2, none⟩) (Kd.R_far (p := ⟨gb434, 1, none⟩) (Kd.R_far (p := ⟨gb434, 0, none⟩) (Kd.R_types HO_404003.out BK434.out (by decide)) (fun _ hk => hk.2) (.int .i64 t426)) (fun _ hk => hk.2) (.int .i64 t427)) (fun _ hk => hk.2) (.slice Ao134 t428.length co134)) (fun _ hk => hk.2) (.slice Ao135 t431.length co135)) (fun _ h_ => h_.1))) hb); replace HO422 := Aside0.mk (Kd.R_below (by (with_reducible repeat (first | apply Kd.R_alloc | apply Kd.R_drewN | apply Kd.R_drew)); exact (Kd.R_mono (Kd.R_far (p := ⟨gb434, 3, none⟩) (Kd.R_far (p := ⟨gb434, 2, none⟩) (Kd.R_far (p := ⟨gb434, 1, none⟩) (Kd.R_far (p := ⟨gb434, 0, none⟩) (Kd.R_types HO422.out BK434.out (by decide)) (fun _ hk => hk.2) (.int .i64 t426)) (fun _ hk => hk.2) (.int .i64 t427)) (fun _ hk => hk.2) (.slice Ao134 t428.length co134)) (fun _ hk => hk.2) (.slice Ao135 t431.length co135)) (fun _ h_ => h_.1))) hb); replace HO425 := Aside0.mk (Kd.R_below (by (with_reducible repeat (first | apply Kd.R_alloc | apply Kd.R_drewN | apply Kd.R_drew)); exact (Kd.R_mono (Kd.R_far (p := ⟨gb434, 3, none⟩) (Kd.R_far (p := ⟨gb434, 2, none⟩) (Kd.R_far (p := ⟨gb434, 1, none⟩) (Kd.R_far (p := ⟨gb434, 0, none⟩) (Kd.R_types HO425.out BK434.out (by decide)) (fun _ hk => hk.2) (.int .i64 t426)) (fun _ hk => hk.2) (.int .i64 t427)) (fun _ hk => hk.2) (.slice Ao134 t428.length co134)) (fun _ hk => hk.2) (.slice Ao135 t431.length co135)) (fun _ h_ => h_.1))) hb); replace HO430 := Aside0.mk (Kd.R_below (by (with_reducible repeat (first | apply Kd.R_alloc | apply Kd.R_drewN | apply Kd.R_drew)); exact (Kd.R_mono (Kd.R_far (p := ⟨gb434, 3, none⟩) (Kd.R_far (p := ⟨gb434, 2, none⟩) (Kd.R_far (p := ⟨gb434, 1, none⟩) (Kd.R_far (p := ⟨gb434, 0, none⟩) (Kd.R_types HO430.out BK434.out (by decide)) (fun _ hk => hk.2) (.int .i64 t426)) (fun _ hk => hk.2) (.int .i64 t427)) (fun _ hk => hk.2) (.slice Ao134 t428.length co134)) (fun _ hk => hk.2) (.slice Ao135 t431.length co135)) (fun _ h_ => h_.1))) hb); replace HO433 := Aside0.mk (Kd.R_below (by (with_reducible repeat (first | apply Kd.R_alloc | apply Kd.R_drewN | apply Kd.R_drew)); exact (Kd.R_mono (Kd.R_far (p := ⟨gb434, 3, none⟩) (Kd.R_far (p := ⟨gb434, 2, none⟩) (Kd.R_far (p := ⟨gb434, 1, none⟩) (Kd.R_far (p := ⟨gb434, 0, none⟩) (Kd.R_types HO433.out BK434.out (by decide)) (fun _ hk => hk.2) (.int .i64 t426)) (fun _ hk => hk.2) (.int .i64 t427)) (fun _ hk => hk.2) (.slice Ao134 t428.length co134)) (fun _ hk => hk.2) (.slice Ao135 t431.length co135)) (fun _ h_ => h_.1))) hb); replace BK371 := Aside0.mk (blk_below (kb_ BK371) hb); replace BK387 := Aside0.mk (blk_below (kb_ BK387) hb); replace BK394 := Aside0.mk (blk_below (kb_ BK394) hb); replace BK403 := Aside0.mk (blk_below (kb_ BK403) hb); replace BK434 := Aside0.mk (blk_below (g := gb434) (o := .cells #[.int .i64 t426, .int .i64 t427, .slice Ao134 t428.length co134, .slice Ao135 t431.length co135] 28 (0, 0)) (by (with_reducible repeat (first | refine blk_drewN ?_ _ | refine blk_drew ?_ | refine blk_alloc ?_ _)); refine blk_put (cs := #[.int .i64 t426, .int .i64 t427, .slice Ao134 t428.length co134, .slice none 0 0]) ?_ 3 _ rfl; (with_reducible repeat (first | refine blk_drewN ?_ _ | refine blk_drew ?_ | refine blk_alloc ?_ _)); refine blk_put (cs := #[.int .i64 t426, .int .i64 t427, .slice none 0 0, .slice none 0 0]) ?_ 2 _ rfl; (with_reducible repeat (first | refine blk_drewN ?_ _ | refine blk_drew ?_ | refine blk_alloc ?_ _)); refine blk_put (cs := #[.int .i64 t426, .int .i64 0, .slice none 0 0, .slice none 0 0]) ?_ 1 _ rfl; (with_reducible repeat (first | refine blk_drewN ?_ _ | refine blk_drew ?_ | refine blk_alloc ?_ _)); refine blk_put (cs := #[.int .i64 0, .int .i64 0, .slice none 0 0, .slice none 0 0]) ?_ 0 _ rfl; (with_reducible repeat (first | refine blk_drewN ?_ _ | refine blk_drew ?_ | refine blk_alloc ?_ _)); exact BK434.out) hb); replace HB := Aside0.mk (below_step bb_ hb); (try clear hb); (try clear hb2); (try clear hk); (try clear hi); obtain ⟨hcz139_0, hcz139_1, hcz139_2, hcz139_3, hfz139_0, hfz139_1, hfz139_2, hfz139_3⟩ := cf4_ BK403) | ((with_reducible refine gate_callee (f := 23) rfl ?_); refine goesL_ (some 63) rfl rfl Try.func23 (by kernel_rfl) rfl #[.agg #[.int .i64 t395, .int .i64 t396, .slice Ao47 t417.length co47, .slice Ao48 t418.length co48], .int .i64 1] rfl (by (try simp only [List.map_toArray, List.map_cons, List.map_nil]); first | done | (rw [show t417.length = t397.length from (Kd.R_reads' HO_404002.out).1.symm, show t418.length = t400.length from (Kd.R_reads' HO_404003.out).1.symm] <;> rfl) | rfl | (simp only [List.length_drop, List.length_take]; rfl)) ?_; (with_reducible refine (laws_heldJournalResult.calls kj16 t395 t396 _ _ t417 _ _ t418 1 t436 _ ?side1 ?side2 ?side3 ?side4 A84.out).mono ?_); (case side1 => exact kc_ ((Kd.R_reads' HO_404002.out).2.2)); (case side2 => rw [show t417.length = t397.length from (Kd.R_reads' HO_404002.out).1.symm]; exact (Kd.R_reads' HO_404002.out).2.1); (case side3 => exact kc_ ((Kd.R_reads' HO_404003.out).2.2)); (case side4 => rw [show t418.length = t400.length from (Kd.R_reads' HO_404003.out).1.symm]; exact (Kd.R_reads' HO_404003.out).2.1); rintro e w140 ⟨rfl, hb⟩; refine ⟨_, rfl, ?_⟩; replace HO_388002 := Aside0.mk (Kd.R_below (kr_ HO_388002) hb); replace HO_388003 := Aside0.mk (Kd.R_below (kr_ HO_388003) hb); replace HO_395000 := Aside0.mk (Kd.R_below (kr_ HO_395000) hb); replace HO_395001 := Aside0.mk (Kd.R_below (kr_ HO_395001) hb); replace HO_404002 := Aside0.mk (Kd.R_below (kr_ HO_404002) hb); replace HO_404003 := Aside0.mk (Kd.R_below (kr_ HO_404003) hb); replace HO422 := Aside0.mk (Kd.R_below (kr_ HO422) hb); replace HO425 := Aside0.mk (Kd.R_below (kr_ HO425) hb); replace HO430 := Aside0.mk (Kd.R_below (kr_ HO430) hb); replace HO433 := Aside0.mk (Kd.R_below (kr_ HO433) hb); replace BK371 := Aside0.mk (blk_below (kb_ BK371) hb); replace BK387 := Aside0.mk (blk_below (kb_ BK387) hb); replace BK394 := Aside0.mk (blk_below (kb_ BK394) hb); replace BK403 := Aside0.mk (blk_below (kb_ BK403) hb); replace BK434 := Aside0.mk (blk_below (kb_ BK434) hb); replace HB := Aside0.mk (below_step bb_ hb); (try clear hb); (try clear hb2); (try clear hk); (try clear hi)))
                        go_ret
                        exact ⟨er_, bb_⟩
                      · rw [if_neg c113] at H
                        have c113b0 : (t436 == t416) = false := beq_eq_false_iff_ne.mpr c113
                        have c113b1 : (t436 != t416) = true := bne_iff_ne.mpr c113
                        exact absurd H (by simp)
                  · replace c83 := Bool.eq_false_iff.mpr c83
                    subst c83
                    have H1 : (some false) = some true := by rw [if_neg (show ¬ (false = true) by decide)] at H; exact H
                    clear H
                    have H := H1
                    clear H1
                    exact absurd H (by simp)
                · rw [if_neg c79] at H
                  have c79b0 : (t419 == t416) = false := beq_eq_false_iff_ne.mpr c79
                  have c79b1 : (t419 != t416) = true := bne_iff_ne.mpr c79
                  exact absurd H (by simp)
      · replace c15 := Bool.eq_false_iff.mpr c15
        subst c15
        have H1 : (some false) = some true := by rw [if_neg (show ¬ (false = true) by decide)] at H; exact H
        clear H
        have H := H1
        clear H1
        exact absurd H (by simp)
    · replace c12 := Bool.eq_false_iff.mpr c12
      subst c12
      have H1 : (some false) = some true := by rw [if_neg (show ¬ (false = true) by decide)] at H; exact H
      clear H
      have H := H1
      clear H1
      exact absurd H (by simp)
end Go.Proofs.Ythmkjapmnlhflaa.PFnExactSyncJournal
