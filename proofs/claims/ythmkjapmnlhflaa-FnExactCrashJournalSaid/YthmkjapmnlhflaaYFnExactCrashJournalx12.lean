/- The functions that the law FnExactCrashJournal reaches: each as a plain Lean function, with the proof that the call does what it says. -/
import Derived.Test.YthmkjapmnlhflaaYFnExactCrashJournalx0
import Derived.Test.YthmkjapmnlhflaaYFnExactCrashJournalx1
import Derived.Test.YthmkjapmnlhflaaYFnExactCrashJournalx2
import Derived.Test.YthmkjapmnlhflaaYFnExactCrashJournalx6
import Derived.Test.YthmkjapmnlhflaaYFnExactCrashJournalx11
namespace Go.Proofs.Ythmkjapmnlhflaa.PFnExactCrashJournal
open Go.RowKit Go.Proofs.YthmkjapmnlhflaaW.PrintWords Go.Proofs.YthmkjapmnlhflaaW.PrintLast Go.Proofs.YthmkjapmnlhflaaW.PrintMore
attribute [local go_sem] max2_int min2_int max_two min_two max_three min_three max_four min_four
set_option linter.unusedVariables false
set_option linter.unusedSimpArgs false
def laws_FnExactCrashJournal.j0 : Nat → Int → Bool → List Int → List Int → Int → Int → List Int → List Int → Int → Int → List Int → List Int → Option (Bool)
  | 0, _, _, _, _, _, _, _, _, _, _, _, _ => none
  | k + 1, x1, x46, x398000, x398001, x414000, x414001, x414002, x414003, x430000, x430001, x430002, x430003 => if x46 = true then (some false) else ((laws_markJournalResult.f k x430000 x430001 x430002 x430003 1).bind fun bt442 => ((laws_heldJournalResult.f k x430000 x430001 bt442.2.1 bt442.2.2 1).bind fun t445 => (if t445 < 0 then (some false) else (if t445 = bt442.1 then ((laws_toJournal.f k x398000 x398001).bind fun bt446 => ((impl_CrashJournal.f k bt446.1 bt446.2 x1).bind fun bt452 => ((laws_eqJournalResult.f k bt452.1 bt452.2.1 bt452.2.2.1 bt452.2.2.2 x414000 x414001 x414002 x414003).bind fun t461 => (if t461 = true then ((laws_heldJournalResult.f k x430000 x430001 bt442.2.1 bt442.2.2 1).bind fun t462 => (if t462 < 0 then (some false) else (if t462 = bt442.1 then (some true) else (some false)))) else (some false))))) else (some false)))))
def laws_FnExactCrashJournal.f (k : Nat) (l0_0 : List Int) (l0_1 : List Int) (a1 : Int) : Option (Bool) := (laws_szJournal.f l0_0 l0_1 1048576).bind fun t398 => (if t398 < 0 then (some true) else ((laws_toJournal.f k l0_0 l0_1).bind fun bt399 => ((spec_CrashJournal.f k bt399.1 bt399.2 a1).bind fun bt405 => ((laws_toJournal.f k l0_0 l0_1).bind fun bt414 => ((impl_CrashJournal.f k bt414.1 bt414.2 a1).bind fun bt421 => ((laws_eqJournalResult.f k bt421.1 bt421.2.1 bt421.2.2.1 bt421.2.2.2 bt405.1 bt405.2.1 bt405.2.2.1 bt405.2.2.2).bind fun t430 => (if t430 = true then ((laws_toJournal.f k l0_0 l0_1).bind fun bt431 => ((laws_eqJournal.f k bt414.1 bt414.2 bt431.1 bt431.2).bind fun t437 => (if t437 = true then ((laws_markJournal.f k bt414.1 bt414.2 1).bind fun bt438 => (if bt438.1 < 0 then (laws_FnExactCrashJournal.j0 k a1 true l0_0 l0_1 bt405.1 bt405.2.1 bt405.2.2.1 bt405.2.2.2 bt421.1 bt421.2.1 bt421.2.2.1 bt421.2.2.2) else ((laws_eqJournalResult.f k bt421.1 bt421.2.1 bt421.2.2.1 bt421.2.2.2 bt405.1 bt405.2.1 bt405.2.2.1 bt405.2.2.2).bind fun t441 => (laws_FnExactCrashJournal.j0 k a1 (!t441) l0_0 l0_1 bt405.1 bt405.2.1 bt405.2.2.1 bt405.2.2.2 bt421.1 bt421.2.1 bt421.2.2.1 bt421.2.2.2)))) else (some false)))) else (some false))))))))
theorem laws_FnExactCrashJournal.mono_l : ∀ k, (∀ y0 y1 y2 y3 y4 y5 y6 y7 y8 y9 y10 y11, LeO (laws_FnExactCrashJournal.j0 k y0 y1 y2 y3 y4 y5 y6 y7 y8 y9 y10 y11) (laws_FnExactCrashJournal.j0 (k + 1) y0 y1 y2 y3 y4 y5 y6 y7 y8 y9 y10 y11))
  | 0 => fun _ _ _ _ _ _ _ _ _ _ _ _ r h => by simp [laws_FnExactCrashJournal.j0] at h
  | k + 1 => by
    have ih0 := laws_FnExactCrashJournal.mono_l k
    · intro y0 y1 y2 y3 y4 y5 y6 y7 y8 y9 y10 y11
      unfold laws_FnExactCrashJournal.j0
      repeat' first
      | (with_reducible exact ih0 _ _ _ _ _ _ _ _ _ _ _ _)
      | (with_reducible exact impl_CrashJournal.mono _ _ _ _)
      | (with_reducible exact laws_eqJournal.mono _ _ _ _ _)
      | (with_reducible exact laws_eqJournalResult.mono _ _ _ _ _ _ _ _ _)
      | (with_reducible exact laws_heldJournalResult.mono _ _ _ _ _ _)
      | (with_reducible exact laws_markJournal.mono _ _ _ _)
      | (with_reducible exact laws_markJournalResult.mono _ _ _ _ _ _)
      | (with_reducible exact laws_toJournal.mono _ _ _)
      | (with_reducible exact spec_CrashJournal.mono _ _ _ _)
      | (with_reducible exact LeO.refl _)
      | (with_reducible exact LeO.none _)
      | (with_reducible refine LeO.ite ?_ ?_)
      | (with_reducible refine LeO.bind ?_ (fun _ => ?_))
      | exact ih0 _ _ _ _ _ _ _ _ _ _ _ _
      | exact impl_CrashJournal.mono _ _ _ _
      | exact laws_eqJournal.mono _ _ _ _ _
      | exact laws_eqJournalResult.mono _ _ _ _ _ _ _ _ _
      | exact laws_heldJournalResult.mono _ _ _ _ _ _
      | exact laws_markJournal.mono _ _ _ _
      | exact laws_markJournalResult.mono _ _ _ _ _ _
      | exact laws_toJournal.mono _ _ _
      | exact spec_CrashJournal.mono _ _ _ _
      | exact LeO.none _
      | refine LeO.ite ?_ ?_
      | refine LeO.bind ?_ (fun _ => ?_)
theorem laws_FnExactCrashJournal.mono : ∀ a0 a1 a2 k, LeO (laws_FnExactCrashJournal.f k a0 a1 a2) (laws_FnExactCrashJournal.f (k + 1) a0 a1 a2) := by
  intro a0 a1 a2 k
  have ih0 := laws_FnExactCrashJournal.mono_l k
  unfold laws_FnExactCrashJournal.f
  repeat' first
      | (with_reducible exact ih0 _ _ _ _ _ _ _ _ _ _ _ _)
      | (with_reducible exact impl_CrashJournal.mono _ _ _ _)
      | (with_reducible exact laws_eqJournal.mono _ _ _ _ _)
      | (with_reducible exact laws_eqJournalResult.mono _ _ _ _ _ _ _ _ _)
      | (with_reducible exact laws_heldJournalResult.mono _ _ _ _ _ _)
      | (with_reducible exact laws_markJournal.mono _ _ _ _)
      | (with_reducible exact laws_markJournalResult.mono _ _ _ _ _ _)
      | (with_reducible exact laws_toJournal.mono _ _ _)
      | (with_reducible exact spec_CrashJournal.mono _ _ _ _)
      | (with_reducible exact LeO.refl _)
      | (with_reducible exact LeO.none _)
      | (with_reducible refine LeO.ite ?_ ?_)
      | (with_reducible refine LeO.bind ?_ (fun _ => ?_))
      | exact ih0 _ _ _ _ _ _ _ _ _ _ _ _
      | exact impl_CrashJournal.mono _ _ _ _
      | exact laws_eqJournal.mono _ _ _ _ _
      | exact laws_eqJournalResult.mono _ _ _ _ _ _ _ _ _
      | exact laws_heldJournalResult.mono _ _ _ _ _ _
      | exact laws_markJournal.mono _ _ _ _
      | exact laws_markJournalResult.mono _ _ _ _ _ _
      | exact laws_toJournal.mono _ _ _
      | exact spec_CrashJournal.mono _ _ _ _
      | exact LeO.none _
      | refine LeO.ite ?_ ?_
      | refine LeO.bind ?_ (fun _ => ?_)
set_option maxHeartbeats 8000000 in
set_option maxRecDepth 100000 in
theorem laws_FnExactCrashJournal.calls (k : Nat) (A0_0 : Option Addr) (c0_0 : Nat) (l0_0 : List Int) (A0_1 : Option Addr) (c0_1 : Nat) (l0_1 : List Int) (a1 : Int) (w : World) (hr0_0 : Kd.C (Kd.int .u8) w A0_0 l0_0.length l0_0) (hc0_0 : l0_0.length ≤ c0_0) (hr0_1 : Kd.C (Kd.int .u8) w A0_1 l0_1.length l0_1) (hc0_1 : l0_1.length ≤ c0_1) (h : laws_FnExactCrashJournal.f k l0_0 l0_1 a1 = some true) :
    Calls Try.prog 4 #[.agg #[.slice A0_0 l0_0.length c0_0, .slice A0_1 l0_1.length c0_1], .int .i64 a1] w fun e w' => e = .returned (.bool true) ∧ Below w.heap.size w w' := by
  have hu24 := Try.underlying24
  have hu28 := Try.underlying28
  have hu26 := Try.underlying26
  have HR0_0 := Aside0.mk hr0_0
  have HC0_0 := Aside0.mk hc0_0
  clear hr0_0 hc0_0
  have HR0_1 := Aside0.mk hr0_1
  have HC0_1 := Aside0.mk hc0_1
  clear hr0_1 hc0_1
  have HB := Aside0.mk (Below.refl w.heap.size w)
  have H : ((laws_szJournal.f l0_0 l0_1 1048576).bind fun t398 => (if t398 < 0 then (some true) else ((laws_toJournal.f k l0_0 l0_1).bind fun bt399 => ((spec_CrashJournal.f k bt399.1 bt399.2 a1).bind fun bt405 => ((laws_toJournal.f k l0_0 l0_1).bind fun bt414 => ((impl_CrashJournal.f k bt414.1 bt414.2 a1).bind fun bt421 => ((laws_eqJournalResult.f k bt421.1 bt421.2.1 bt421.2.2.1 bt421.2.2.2 bt405.1 bt405.2.1 bt405.2.2.1 bt405.2.2.2).bind fun t430 => (if t430 = true then ((laws_toJournal.f k l0_0 l0_1).bind fun bt431 => ((laws_eqJournal.f k bt414.1 bt414.2 bt431.1 bt431.2).bind fun t437 => (if t437 = true then ((laws_markJournal.f k bt414.1 bt414.2 1).bind fun bt438 => (if bt438.1 < 0 then (laws_FnExactCrashJournal.j0 k a1 true l0_0 l0_1 bt405.1 bt405.2.1 bt405.2.2.1 bt405.2.2.2 bt421.1 bt421.2.1 bt421.2.2.1 bt421.2.2.2) else ((laws_eqJournalResult.f k bt421.1 bt421.2.1 bt421.2.2.1 bt421.2.2.2 bt405.1 bt405.2.1 bt405.2.2.1 bt405.2.2.2).bind fun t441 => (laws_FnExactCrashJournal.j0 k a1 (!t441) l0_0 l0_1 bt405.1 bt405.2.1 bt405.2.2.1 bt405.2.2.2 bt421.1 bt421.2.1 bt421.2.2.1 bt421.2.2.2)))) else (some false)))) else (some false))))))))) = some true := h
  clear h
  replace H := Option.bind_eq_some_iff.mp H
  obtain ⟨t398, A30, H⟩ := H
  replace H : (if t398 < 0 then (some true) else ((laws_toJournal.f k l0_0 l0_1).bind fun bt399 => ((spec_CrashJournal.f k bt399.1 bt399.2 a1).bind fun bt405 => ((laws_toJournal.f k l0_0 l0_1).bind fun bt414 => ((impl_CrashJournal.f k bt414.1 bt414.2 a1).bind fun bt421 => ((laws_eqJournalResult.f k bt421.1 bt421.2.1 bt421.2.2.1 bt421.2.2.2 bt405.1 bt405.2.1 bt405.2.2.1 bt405.2.2.2).bind fun t430 => (if t430 = true then ((laws_toJournal.f k l0_0 l0_1).bind fun bt431 => ((laws_eqJournal.f k bt414.1 bt414.2 bt431.1 bt431.2).bind fun t437 => (if t437 = true then ((laws_markJournal.f k bt414.1 bt414.2 1).bind fun bt438 => (if bt438.1 < 0 then (laws_FnExactCrashJournal.j0 k a1 true l0_0 l0_1 bt405.1 bt405.2.1 bt405.2.2.1 bt405.2.2.2 bt421.1 bt421.2.1 bt421.2.2.1 bt421.2.2.2) else ((laws_eqJournalResult.f k bt421.1 bt421.2.1 bt421.2.2.1 bt421.2.2.2 bt405.1 bt405.2.1 bt405.2.2.1 bt405.2.2.2).bind fun t441 => (laws_FnExactCrashJournal.j0 k a1 (!t441) l0_0 l0_1 bt405.1 bt405.2.1 bt405.2.2.1 bt405.2.2.2 bt421.1 bt421.2.1 bt421.2.2.1 bt421.2.2.2)))) else (some false)))) else (some false)))))))) = some true := H
  have A3 := Aside0.mk A30
  clear A30
  by_cases c4 : t398 < 0
  · rw [if_pos c4] at H
    have c4b0 : decide (t398 < 0) = true := decide_eq_true c4
    clear c4
    clear H
    go_enter Try.func4, Try.ntmps4
    go_wp2_with (first | ((with_reducible refine gate_dst (N := 2) rfl ?_); refine box_e_ 2 #[.slice A0_0 l0_0.length c0_0, .slice A0_1 l0_1.length c0_1] 24 ?_; intro gb397 hg w5 hbox hb; have BK397 := Aside0.mk (hbox); have GW397 := (bs_ hg : Aside0 (w.heap.size ≤ _)); have GE397 := (bs_ hg : Aside0 (w.heap.size ≤ _)); replace HB := Aside0.mk (below_step bb_ hb); clear hb hbox hg; obtain ⟨hcz6_0, hcz6_1, hfz6_0, hfz6_1⟩ := cf2_ BK397) | ((with_reducible refine gate_callee (f := 15) rfl ?_); refine goe_ (some 15) Try.func15 #[.agg #[.slice A0_0 l0_0.length c0_0, .slice A0_1 l0_1.length c0_1], .int .i64 1048576] ?_; (with_reducible refine (laws_szJournal.calls _ _ l0_0 _ _ l0_1 1048576 t398 _ ?side1 ?side2 ?side3 ?side4 A3.out).mono ?_); (case side1 => exact kc_ (Kd.C_below HR0_0.out HB.out)); (case side2 => exact HC0_0.out); (case side3 => exact kc_ (Kd.C_below HR0_1.out HB.out)); (case side4 => exact HC0_1.out); rintro e w7 ⟨rfl, hb⟩; refine ⟨_, rfl, ?_⟩; replace BK397 := Aside0.mk (blk_below (kb_ BK397) hb); replace HB := Aside0.mk (below_step bb_ hb); (try clear hb); (try clear hb2); (try clear hk); (try clear hi)))
    go_ret
    exact ⟨er_, bb_⟩
  · rw [if_neg c4] at H
    have c4b0 : decide (t398 < 0) = false := decide_eq_false c4
    clear c4
    replace H := Option.bind_eq_some_iff.mp H
    obtain ⟨⟨t399, t402⟩, A80, H⟩ := H
    replace H : ((spec_CrashJournal.f k t399 t402 a1).bind fun bt405 => ((laws_toJournal.f k l0_0 l0_1).bind fun bt414 => ((impl_CrashJournal.f k bt414.1 bt414.2 a1).bind fun bt421 => ((laws_eqJournalResult.f k bt421.1 bt421.2.1 bt421.2.2.1 bt421.2.2.2 bt405.1 bt405.2.1 bt405.2.2.1 bt405.2.2.2).bind fun t430 => (if t430 = true then ((laws_toJournal.f k l0_0 l0_1).bind fun bt431 => ((laws_eqJournal.f k bt414.1 bt414.2 bt431.1 bt431.2).bind fun t437 => (if t437 = true then ((laws_markJournal.f k bt414.1 bt414.2 1).bind fun bt438 => (if bt438.1 < 0 then (laws_FnExactCrashJournal.j0 k a1 true l0_0 l0_1 bt405.1 bt405.2.1 bt405.2.2.1 bt405.2.2.2 bt421.1 bt421.2.1 bt421.2.2.1 bt421.2.2.2) else ((laws_eqJournalResult.f k bt421.1 bt421.2.1 bt421.2.2.1 bt421.2.2.2 bt405.1 bt405.2.1 bt405.2.2.1 bt405.2.2.2).bind fun t441 => (laws_FnExactCrashJournal.j0 k a1 (!t441) l0_0 l0_1 bt405.1 bt405.2.1 bt405.2.2.1 bt405.2.2.2 bt421.1 bt421.2.1 bt421.2.2.1 bt421.2.2.2)))) else (some false)))) else (some false)))))) = some true := H
    have A8 := Aside0.mk A80
    clear A80
    replace H := Option.bind_eq_some_iff.mp H
    obtain ⟨⟨t405, t406, t407, t410⟩, A90, H⟩ := H
    replace H : ((laws_toJournal.f k l0_0 l0_1).bind fun bt414 => ((impl_CrashJournal.f k bt414.1 bt414.2 a1).bind fun bt421 => ((laws_eqJournalResult.f k bt421.1 bt421.2.1 bt421.2.2.1 bt421.2.2.2 t405 t406 t407 t410).bind fun t430 => (if t430 = true then ((laws_toJournal.f k l0_0 l0_1).bind fun bt431 => ((laws_eqJournal.f k bt414.1 bt414.2 bt431.1 bt431.2).bind fun t437 => (if t437 = true then ((laws_markJournal.f k bt414.1 bt414.2 1).bind fun bt438 => (if bt438.1 < 0 then (laws_FnExactCrashJournal.j0 k a1 true l0_0 l0_1 t405 t406 t407 t410 bt421.1 bt421.2.1 bt421.2.2.1 bt421.2.2.2) else ((laws_eqJournalResult.f k bt421.1 bt421.2.1 bt421.2.2.1 bt421.2.2.2 t405 t406 t407 t410).bind fun t441 => (laws_FnExactCrashJournal.j0 k a1 (!t441) l0_0 l0_1 t405 t406 t407 t410 bt421.1 bt421.2.1 bt421.2.2.1 bt421.2.2.2)))) else (some false)))) else (some false))))) = some true := H
    have A9 := Aside0.mk A90
    clear A90
    replace H := Option.bind_eq_some_iff.mp H
    obtain ⟨⟨t414, t417⟩, A100, H⟩ := H
    replace H : ((impl_CrashJournal.f k t414 t417 a1).bind fun bt421 => ((laws_eqJournalResult.f k bt421.1 bt421.2.1 bt421.2.2.1 bt421.2.2.2 t405 t406 t407 t410).bind fun t430 => (if t430 = true then ((laws_toJournal.f k l0_0 l0_1).bind fun bt431 => ((laws_eqJournal.f k t414 t417 bt431.1 bt431.2).bind fun t437 => (if t437 = true then ((laws_markJournal.f k t414 t417 1).bind fun bt438 => (if bt438.1 < 0 then (laws_FnExactCrashJournal.j0 k a1 true l0_0 l0_1 t405 t406 t407 t410 bt421.1 bt421.2.1 bt421.2.2.1 bt421.2.2.2) else ((laws_eqJournalResult.f k bt421.1 bt421.2.1 bt421.2.2.1 bt421.2.2.2 t405 t406 t407 t410).bind fun t441 => (laws_FnExactCrashJournal.j0 k a1 (!t441) l0_0 l0_1 t405 t406 t407 t410 bt421.1 bt421.2.1 bt421.2.2.1 bt421.2.2.2)))) else (some false)))) else (some false)))) = some true := H
    have A10 := Aside0.mk A100
    clear A100
    replace H := Option.bind_eq_some_iff.mp H
    obtain ⟨⟨t421, t422, t423, t426⟩, A110, H⟩ := H
    replace H : ((laws_eqJournalResult.f k t421 t422 t423 t426 t405 t406 t407 t410).bind fun t430 => (if t430 = true then ((laws_toJournal.f k l0_0 l0_1).bind fun bt431 => ((laws_eqJournal.f k t414 t417 bt431.1 bt431.2).bind fun t437 => (if t437 = true then ((laws_markJournal.f k t414 t417 1).bind fun bt438 => (if bt438.1 < 0 then (laws_FnExactCrashJournal.j0 k a1 true l0_0 l0_1 t405 t406 t407 t410 t421 t422 t423 t426) else ((laws_eqJournalResult.f k t421 t422 t423 t426 t405 t406 t407 t410).bind fun t441 => (laws_FnExactCrashJournal.j0 k a1 (!t441) l0_0 l0_1 t405 t406 t407 t410 t421 t422 t423 t426)))) else (some false)))) else (some false))) = some true := H
    have A11 := Aside0.mk A110
    clear A110
    replace H := Option.bind_eq_some_iff.mp H
    obtain ⟨t430, A120, H⟩ := H
    replace H : (if t430 = true then ((laws_toJournal.f k l0_0 l0_1).bind fun bt431 => ((laws_eqJournal.f k t414 t417 bt431.1 bt431.2).bind fun t437 => (if t437 = true then ((laws_markJournal.f k t414 t417 1).bind fun bt438 => (if bt438.1 < 0 then (laws_FnExactCrashJournal.j0 k a1 true l0_0 l0_1 t405 t406 t407 t410 t421 t422 t423 t426) else ((laws_eqJournalResult.f k t421 t422 t423 t426 t405 t406 t407 t410).bind fun t441 => (laws_FnExactCrashJournal.j0 k a1 (!t441) l0_0 l0_1 t405 t406 t407 t410 t421 t422 t423 t426)))) else (some false)))) else (some false)) = some true := H
    have A12 := Aside0.mk A120
    clear A120
    by_cases c13 : t430 = true
    · subst c13
      have H1 : ((laws_toJournal.f k l0_0 l0_1).bind fun bt431 => ((laws_eqJournal.f k t414 t417 bt431.1 bt431.2).bind fun t437 => (if t437 = true then ((laws_markJournal.f k t414 t417 1).bind fun bt438 => (if bt438.1 < 0 then (laws_FnExactCrashJournal.j0 k a1 true l0_0 l0_1 t405 t406 t407 t410 t421 t422 t423 t426) else ((laws_eqJournalResult.f k t421 t422 t423 t426 t405 t406 t407 t410).bind fun t441 => (laws_FnExactCrashJournal.j0 k a1 (!t441) l0_0 l0_1 t405 t406 t407 t410 t421 t422 t423 t426)))) else (some false)))) = some true := by rw [if_pos rfl] at H; exact H
      clear H
      have H := H1
      clear H1
      replace H := Option.bind_eq_some_iff.mp H
      obtain ⟨⟨t431, t434⟩, A140, H⟩ := H
      replace H : ((laws_eqJournal.f k t414 t417 t431 t434).bind fun t437 => (if t437 = true then ((laws_markJournal.f k t414 t417 1).bind fun bt438 => (if bt438.1 < 0 then (laws_FnExactCrashJournal.j0 k a1 true l0_0 l0_1 t405 t406 t407 t410 t421 t422 t423 t426) else ((laws_eqJournalResult.f k t421 t422 t423 t426 t405 t406 t407 t410).bind fun t441 => (laws_FnExactCrashJournal.j0 k a1 (!t441) l0_0 l0_1 t405 t406 t407 t410 t421 t422 t423 t426)))) else (some false))) = some true := H
      have A14 := Aside0.mk A140
      clear A140
      replace H := Option.bind_eq_some_iff.mp H
      obtain ⟨t437, A150, H⟩ := H
      replace H : (if t437 = true then ((laws_markJournal.f k t414 t417 1).bind fun bt438 => (if bt438.1 < 0 then (laws_FnExactCrashJournal.j0 k a1 true l0_0 l0_1 t405 t406 t407 t410 t421 t422 t423 t426) else ((laws_eqJournalResult.f k t421 t422 t423 t426 t405 t406 t407 t410).bind fun t441 => (laws_FnExactCrashJournal.j0 k a1 (!t441) l0_0 l0_1 t405 t406 t407 t410 t421 t422 t423 t426)))) else (some false)) = some true := H
      have A15 := Aside0.mk A150
      clear A150
      by_cases c16 : t437 = true
      · subst c16
        have H1 : ((laws_markJournal.f k t414 t417 1).bind fun bt438 => (if bt438.1 < 0 then (laws_FnExactCrashJournal.j0 k a1 true l0_0 l0_1 t405 t406 t407 t410 t421 t422 t423 t426) else ((laws_eqJournalResult.f k t421 t422 t423 t426 t405 t406 t407 t410).bind fun t441 => (laws_FnExactCrashJournal.j0 k a1 (!t441) l0_0 l0_1 t405 t406 t407 t410 t421 t422 t423 t426)))) = some true := by rw [if_pos rfl] at H; exact H
        clear H
        have H := H1
        clear H1
        replace H := Option.bind_eq_some_iff.mp H
        obtain ⟨⟨t438, t439, t440⟩, A170, H⟩ := H
        replace H : (if t438 < 0 then (laws_FnExactCrashJournal.j0 k a1 true l0_0 l0_1 t405 t406 t407 t410 t421 t422 t423 t426) else ((laws_eqJournalResult.f k t421 t422 t423 t426 t405 t406 t407 t410).bind fun t441 => (laws_FnExactCrashJournal.j0 k a1 (!t441) l0_0 l0_1 t405 t406 t407 t410 t421 t422 t423 t426))) = some true := H
        have A17 := Aside0.mk A170
        clear A170
        have HC18 := Aside0.mk H
        clear H
        go_enter Try.func4, Try.ntmps4
        try go_wp2_with (first | ((with_reducible refine gate_dst (N := 2) rfl ?_); refine box_e_ 2 #[.slice A0_0 l0_0.length c0_0, .slice A0_1 l0_1.length c0_1] 24 ?_; intro gb397 hg w19 hbox hb; have BK397 := Aside0.mk (hbox); have GW397 := (bs_ hg : Aside0 (w.heap.size ≤ _)); have GE397 := (bs_ hg : Aside0 (w.heap.size ≤ _)); replace HB := Aside0.mk (below_step bb_ hb); clear hb hbox hg; obtain ⟨hcz20_0, hcz20_1, hfz20_0, hfz20_1⟩ := cf2_ BK397) | ((with_reducible refine gate_callee (f := 15) rfl ?_); refine goe_ (some 15) Try.func15 #[.agg #[.slice A0_0 l0_0.length c0_0, .slice A0_1 l0_1.length c0_1], .int .i64 1048576] ?_; (with_reducible refine (laws_szJournal.calls _ _ l0_0 _ _ l0_1 1048576 t398 _ ?side1 ?side2 ?side3 ?side4 A3.out).mono ?_); (case side1 => exact kc_ (Kd.C_below HR0_0.out HB.out)); (case side2 => exact HC0_0.out); (case side3 => exact kc_ (Kd.C_below HR0_1.out HB.out)); (case side4 => exact HC0_1.out); rintro e w21 ⟨rfl, hb⟩; refine ⟨_, rfl, ?_⟩; replace BK397 := Aside0.mk (blk_below (kb_ BK397) hb); replace HB := Aside0.mk (below_step bb_ hb); (try clear hb); (try clear hb2); (try clear hk); (try clear hi); obtain ⟨hcz22_0, hcz22_1, hfz22_0, hfz22_1⟩ := cf2_ BK397) | ((with_reducible refine gate_callee (f := 17) rfl ?_); refine goe_ (some 19) Try.func17 #[.agg #[.slice A0_0 l0_0.length c0_0, .slice A0_1 l0_1.length c0_1]] ?_; (with_reducible refine (laws_toJournal.calls k _ _ l0_0 _ _ l0_1 t399 t402 _ ?side1 ?side2 ?side3 ?side4 A8.out).mono ?_); (case side1 => exact kc_ (Kd.C_below HR0_0.out HB.out)); (case side2 => exact HC0_0.out); (case side3 => exact kc_ (Kd.C_below HR0_1.out HB.out)); (case side4 => exact HC0_1.out); rintro e w23 ⟨v400, v403, rfl, ho0, ho1, hb⟩; refine ⟨_, rfl, ?_⟩; have HO401 := Aside0.mk (Kd.R_lower ho0 (below_size bb_)); have HO404 := Aside0.mk (Kd.R_lower ho1 (below_size bb_)); replace BK397 := Aside0.mk (blk_below (kb_ BK397) hb); replace HB := Aside0.mk (below_step bb_ hb); (try clear hb); (try clear hb2); (try clear hk); (try clear hi); (try clear ho0); (try clear ho1); obtain ⟨Ao24, co24, eo24⟩ := Kd.R_slice HO401.out; subst eo24; obtain ⟨Ao25, co25, eo25⟩ := Kd.R_slice HO404.out; subst eo25) | ((with_reducible refine gate_callee (f := 24) rfl ?_); refine goe_ (some 21) Try.func24 #[.agg #[.slice Ao24 t399.length co24, .slice Ao25 t402.length co25], .int .i64 a1] ?_; (with_reducible refine (spec_CrashJournal.calls k _ _ t399 _ _ t402 a1 t405 t406 t407 t410 _ ?side1 ?side2 ?side3 ?side4 A9.out).mono ?_); (case side1 => exact kc_ ((Kd.R_reads' HO401.out).2.2)); (case side2 => exact (Kd.R_reads' HO401.out).2.1); (case side3 => exact kc_ ((Kd.R_reads' HO404.out).2.2)); (case side4 => exact (Kd.R_reads' HO404.out).2.1); rintro e w26 ⟨v408, v411, rfl, ho0, ho1, hb⟩; refine ⟨_, rfl, ?_⟩; have HO409 := Aside0.mk (Kd.R_lower (Kd.R_new' (Kd.R_new' ho0 (Kd.R_lt (kr_ HO401))) (Kd.R_lt (kr_ HO404))) (below_size bb_)); have HO412 := Aside0.mk (Kd.R_lower (Kd.R_new' (Kd.R_new' ho1 (Kd.R_lt (kr_ HO401))) (Kd.R_lt (kr_ HO404))) (below_size bb_)); replace HO401 := Aside0.mk (Kd.R_mono (Kd.R_told (Kd.R_told (Kd.R_old (kr_ HO401) hb) (Kd.R_base ho0)) (Kd.R_base ho1)) (fun _ h_ => h_.1)); replace HO404 := Aside0.mk (Kd.R_mono (Kd.R_told (Kd.R_told (Kd.R_old (kr_ HO404) hb) (Kd.R_base ho0)) (Kd.R_base ho1)) (fun _ h_ => h_.1)); replace BK397 := Aside0.mk (blk_below (kb_ BK397) hb); replace HB := Aside0.mk (below_step bb_ hb); (try clear hb); (try clear hb2); (try clear hk); (try clear hi); (try clear ho0); (try clear ho1)) | ((with_reducible refine gate_dst (N := 6) rfl ?_); refine box_e_ 6 #[.int .i64 0, .int .i64 0, .slice none 0 0, .slice none 0 0] 28 ?_; intro gb413 hg w27 hbox hb; replace HO401 := Aside0.mk (Kd.R_below (kr_ HO401) hb); replace HO404 := Aside0.mk (Kd.R_below (kr_ HO404) hb); replace HO409 := Aside0.mk (Kd.R_below (kr_ HO409) hb); replace HO412 := Aside0.mk (Kd.R_below (kr_ HO412) hb); have BK413 := Aside0.mk (hbox); have GW413 := (bs_ hg : Aside0 (w.heap.size ≤ _)); have GE413 := (bs_ hg : Aside0 (w.heap.size ≤ _)); replace HB := Aside0.mk (below_step bb_ hb); have NB397_413 := (nl_ hg BK397 : Aside0 (gb397 ≠ gb413)); have NB413_397 := (nr_ hg BK397 : Aside0 (gb413 ≠ gb397)); replace BK397 := Aside0.mk (blk_below (kb_ BK397) hb); clear hb hbox hg; have hnb28 := NB413_397.out; have hnc28 := NB397_413.out; obtain ⟨hcz29_0, hcz29_1, hcz29_2, hcz29_3, hfz29_0, hfz29_1, hfz29_2, hfz29_3⟩ := cf4_ BK413; obtain ⟨Ao30, co30, eo30⟩ := Kd.R_slice HO409.out; subst eo30; obtain ⟨Ao31, co31, eo31⟩ := Kd.R_slice HO412.out; subst eo31; obtain ⟨hcz32_0, hcz32_1, hfz32_0, hfz32_1⟩ := cf2_ BK397) | ((with_reducible refine gate_callee (f := 17) rfl ?_); refine goe_ (some 23) Try.func17 #[.agg #[.slice A0_0 l0_0.length c0_0, .slice A0_1 l0_1.length c0_1]] ?_; (with_reducible refine (laws_toJournal.calls k _ _ l0_0 _ _ l0_1 t414 t417 _ ?side1 ?side2 ?side3 ?side4 A10.out).mono ?_); (case side1 => exact Kd.C_below HR0_0.out bb_); (case side2 => exact HC0_0.out); (case side3 => exact Kd.C_below HR0_1.out bb_); (case side4 => exact HC0_1.out); rintro e w33 ⟨v415, v418, rfl, ho0, ho1, hb⟩; refine ⟨_, rfl, ?_⟩; have HO416 := Aside0.mk (Kd.R_lower (Kd.R_new' (Kd.R_new' (Kd.R_new' (Kd.R_new' ho0 (Kd.R_lt (by (with_reducible repeat (first | apply Kd.R_alloc | apply Kd.R_drewN | apply Kd.R_drew)); exact (Kd.R_mono (Kd.R_far (p := ⟨gb413, 3, none⟩) (Kd.R_far (p := ⟨gb413, 2, none⟩) (Kd.R_far (p := ⟨gb413, 1, none⟩) (Kd.R_far (p := ⟨gb413, 0, none⟩) (Kd.R_types HO401.out BK413.out (by decide)) (fun _ hk => hk.2) (.int .i64 t405)) (fun _ hk => hk.2) (.int .i64 t406)) (fun _ hk => hk.2) (.slice Ao30 t407.length co30)) (fun _ hk => hk.2) (.slice Ao31 t410.length co31)) (fun _ h_ => h_.1))))) (Kd.R_lt (by (with_reducible repeat (first | apply Kd.R_alloc | apply Kd.R_drewN | apply Kd.R_drew)); exact (Kd.R_mono (Kd.R_far (p := ⟨gb413, 3, none⟩) (Kd.R_far (p := ⟨gb413, 2, none⟩) (Kd.R_far (p := ⟨gb413, 1, none⟩) (Kd.R_far (p := ⟨gb413, 0, none⟩) (Kd.R_types HO404.out BK413.out (by decide)) (fun _ hk => hk.2) (.int .i64 t405)) (fun _ hk => hk.2) (.int .i64 t406)) (fun _ hk => hk.2) (.slice Ao30 t407.length co30)) (fun _ hk => hk.2) (.slice Ao31 t410.length co31)) (fun _ h_ => h_.1))))) (Kd.R_lt (by (with_reducible repeat (first | apply Kd.R_alloc | apply Kd.R_drewN | apply Kd.R_drew)); exact (Kd.R_mono (Kd.R_far (p := ⟨gb413, 3, none⟩) (Kd.R_far (p := ⟨gb413, 2, none⟩) (Kd.R_far (p := ⟨gb413, 1, none⟩) (Kd.R_far (p := ⟨gb413, 0, none⟩) (Kd.R_types HO409.out BK413.out (by decide)) (fun _ hk => hk.2) (.int .i64 t405)) (fun _ hk => hk.2) (.int .i64 t406)) (fun _ hk => hk.2) (.slice Ao30 t407.length co30)) (fun _ hk => hk.2) (.slice Ao31 t410.length co31)) (fun _ h_ => h_.1))))) (Kd.R_lt (by (with_reducible repeat (first | apply Kd.R_alloc | apply Kd.R_drewN | apply Kd.R_drew)); exact (Kd.R_mono (Kd.R_far (p := ⟨gb413, 3, none⟩) (Kd.R_far (p := ⟨gb413, 2, none⟩) (Kd.R_far (p := ⟨gb413, 1, none⟩) (Kd.R_far (p := ⟨gb413, 0, none⟩) (Kd.R_types HO412.out BK413.out (by decide)) (fun _ hk => hk.2) (.int .i64 t405)) (fun _ hk => hk.2) (.int .i64 t406)) (fun _ hk => hk.2) (.slice Ao30 t407.length co30)) (fun _ hk => hk.2) (.slice Ao31 t410.length co31)) (fun _ h_ => h_.1))))) (below_size bb_)); have HO419 := Aside0.mk (Kd.R_lower (Kd.R_new' (Kd.R_new' (Kd.R_new' (Kd.R_new' ho1 (Kd.R_lt (by (with_reducible repeat (first | apply Kd.R_alloc | apply Kd.R_drewN | apply Kd.R_drew)); exact (Kd.R_mono (Kd.R_far (p := ⟨gb413, 3, none⟩) (Kd.R_far (p := ⟨gb413, 2, none⟩) (Kd.R_far (p := ⟨gb413, 1, none⟩) (Kd.R_far (p := ⟨gb413, 0, none⟩) (Kd.R_types HO401.out BK413.out (by decide)) (fun _ hk => hk.2) (.int .i64 t405)) (fun _ hk => hk.2) (.int .i64 t406)) (fun _ hk => hk.2) (.slice Ao30 t407.length co30)) (fun _ hk => hk.2) (.slice Ao31 t410.length co31)) (fun _ h_ => h_.1))))) (Kd.R_lt (by (with_reducible repeat (first | apply Kd.R_alloc | apply Kd.R_drewN | apply Kd.R_drew)); exact (Kd.R_mono (Kd.R_far (p := ⟨gb413, 3, none⟩) (Kd.R_far (p := ⟨gb413, 2, none⟩) (Kd.R_far (p := ⟨gb413, 1, none⟩) (Kd.R_far (p := ⟨gb413, 0, none⟩) (Kd.R_types HO404.out BK413.out (by decide)) (fun _ hk => hk.2) (.int .i64 t405)) (fun _ hk => hk.2) (.int .i64 t406)) (fun _ hk => hk.2) (.slice Ao30 t407.length co30)) (fun _ hk => hk.2) (.slice Ao31 t410.length co31)) (fun _ h_ => h_.1))))) (Kd.R_lt (by (with_reducible repeat (first | apply Kd.R_alloc | apply Kd.R_drewN | apply Kd.R_drew)); exact (Kd.R_mono (Kd.R_far (p := ⟨gb413, 3, none⟩) (Kd.R_far (p := ⟨gb413, 2, none⟩) (Kd.R_far (p := ⟨gb413, 1, none⟩) (Kd.R_far (p := ⟨gb413, 0, none⟩) (Kd.R_types HO409.out BK413.out (by decide)) (fun _ hk => hk.2) (.int .i64 t405)) (fun _ hk => hk.2) (.int .i64 t406)) (fun _ hk => hk.2) (.slice Ao30 t407.length co30)) (fun _ hk => hk.2) (.slice Ao31 t410.length co31)) (fun _ h_ => h_.1))))) (Kd.R_lt (by (with_reducible repeat (first | apply Kd.R_alloc | apply Kd.R_drewN | apply Kd.R_drew)); exact (Kd.R_mono (Kd.R_far (p := ⟨gb413, 3, none⟩) (Kd.R_far (p := ⟨gb413, 2, none⟩) (Kd.R_far (p := ⟨gb413, 1, none⟩) (Kd.R_far (p := ⟨gb413, 0, none⟩) (Kd.R_types HO412.out BK413.out (by decide)) (fun _ hk => hk.2) (.int .i64 t405)) (fun _ hk => hk.2) (.int .i64 t406)) (fun _ hk => hk.2) (.slice Ao30 t407.length co30)) (fun _ hk => hk.2) (.slice Ao31 t410.length co31)) (fun _ h_ => h_.1))))) (below_size bb_)); replace HO401 := Aside0.mk (Kd.R_mono (Kd.R_told (Kd.R_told (Kd.R_old (by (with_reducible repeat (first | apply Kd.R_alloc | apply Kd.R_drewN | apply Kd.R_drew)); exact (Kd.R_mono (Kd.R_far (p := ⟨gb413, 3, none⟩) (Kd.R_far (p := ⟨gb413, 2, none⟩) (Kd.R_far (p := ⟨gb413, 1, none⟩) (Kd.R_far (p := ⟨gb413, 0, none⟩) (Kd.R_types HO401.out BK413.out (by decide)) (fun _ hk => hk.2) (.int .i64 t405)) (fun _ hk => hk.2) (.int .i64 t406)) (fun _ hk => hk.2) (.slice Ao30 t407.length co30)) (fun _ hk => hk.2) (.slice Ao31 t410.length co31)) (fun _ h_ => h_.1))) hb) (Kd.R_base ho0)) (Kd.R_base ho1)) (fun _ h_ => h_.1)); replace HO404 := Aside0.mk (Kd.R_mono (Kd.R_told (Kd.R_told (Kd.R_old (by (with_reducible repeat (first | apply Kd.R_alloc | apply Kd.R_drewN | apply Kd.R_drew)); exact (Kd.R_mono (Kd.R_far (p := ⟨gb413, 3, none⟩) (Kd.R_far (p := ⟨gb413, 2, none⟩) (Kd.R_far (p := ⟨gb413, 1, none⟩) (Kd.R_far (p := ⟨gb413, 0, none⟩) (Kd.R_types HO404.out BK413.out (by decide)) (fun _ hk => hk.2) (.int .i64 t405)) (fun _ hk => hk.2) (.int .i64 t406)) (fun _ hk => hk.2) (.slice Ao30 t407.length co30)) (fun _ hk => hk.2) (.slice Ao31 t410.length co31)) (fun _ h_ => h_.1))) hb) (Kd.R_base ho0)) (Kd.R_base ho1)) (fun _ h_ => h_.1)); replace HO409 := Aside0.mk (Kd.R_mono (Kd.R_told (Kd.R_told (Kd.R_old (by (with_reducible repeat (first | apply Kd.R_alloc | apply Kd.R_drewN | apply Kd.R_drew)); exact (Kd.R_mono (Kd.R_far (p := ⟨gb413, 3, none⟩) (Kd.R_far (p := ⟨gb413, 2, none⟩) (Kd.R_far (p := ⟨gb413, 1, none⟩) (Kd.R_far (p := ⟨gb413, 0, none⟩) (Kd.R_types HO409.out BK413.out (by decide)) (fun _ hk => hk.2) (.int .i64 t405)) (fun _ hk => hk.2) (.int .i64 t406)) (fun _ hk => hk.2) (.slice Ao30 t407.length co30)) (fun _ hk => hk.2) (.slice Ao31 t410.length co31)) (fun _ h_ => h_.1))) hb) (Kd.R_base ho0)) (Kd.R_base ho1)) (fun _ h_ => h_.1)); replace HO412 := Aside0.mk (Kd.R_mono (Kd.R_told (Kd.R_told (Kd.R_old (by (with_reducible repeat (first | apply Kd.R_alloc | apply Kd.R_drewN | apply Kd.R_drew)); exact (Kd.R_mono (Kd.R_far (p := ⟨gb413, 3, none⟩) (Kd.R_far (p := ⟨gb413, 2, none⟩) (Kd.R_far (p := ⟨gb413, 1, none⟩) (Kd.R_far (p := ⟨gb413, 0, none⟩) (Kd.R_types HO412.out BK413.out (by decide)) (fun _ hk => hk.2) (.int .i64 t405)) (fun _ hk => hk.2) (.int .i64 t406)) (fun _ hk => hk.2) (.slice Ao30 t407.length co30)) (fun _ hk => hk.2) (.slice Ao31 t410.length co31)) (fun _ h_ => h_.1))) hb) (Kd.R_base ho0)) (Kd.R_base ho1)) (fun _ h_ => h_.1)); replace BK397 := Aside0.mk (blk_below (kb_ BK397) hb); replace BK413 := Aside0.mk (blk_below (g := gb413) (o := .cells #[.int .i64 t405, .int .i64 t406, .slice Ao30 t407.length co30, .slice Ao31 t410.length co31] 28 (0, 0)) (by (with_reducible repeat (first | refine blk_drewN ?_ _ | refine blk_drew ?_ | refine blk_alloc ?_ _)); refine blk_put (cs := #[.int .i64 t405, .int .i64 t406, .slice Ao30 t407.length co30, .slice none 0 0]) ?_ 3 _ rfl; (with_reducible repeat (first | refine blk_drewN ?_ _ | refine blk_drew ?_ | refine blk_alloc ?_ _)); refine blk_put (cs := #[.int .i64 t405, .int .i64 t406, .slice none 0 0, .slice none 0 0]) ?_ 2 _ rfl; (with_reducible repeat (first | refine blk_drewN ?_ _ | refine blk_drew ?_ | refine blk_alloc ?_ _)); refine blk_put (cs := #[.int .i64 t405, .int .i64 0, .slice none 0 0, .slice none 0 0]) ?_ 1 _ rfl; (with_reducible repeat (first | refine blk_drewN ?_ _ | refine blk_drew ?_ | refine blk_alloc ?_ _)); refine blk_put (cs := #[.int .i64 0, .int .i64 0, .slice none 0 0, .slice none 0 0]) ?_ 0 _ rfl; (with_reducible repeat (first | refine blk_drewN ?_ _ | refine blk_drew ?_ | refine blk_alloc ?_ _)); exact BK413.out) hb); replace HB := Aside0.mk (below_step bb_ hb); (try clear hb); (try clear hb2); (try clear hk); (try clear hi); (try clear ho0); (try clear ho1)) | ((with_reducible refine gate_dst (N := 7) rfl ?_); refine box_e_ 7 #[.slice none 0 0, .slice none 0 0] 26 ?_; intro gb420 hg w34 hbox hb; replace HO401 := Aside0.mk (Kd.R_below (kr_ HO401) hb); replace HO404 := Aside0.mk (Kd.R_below (kr_ HO404) hb); replace HO409 := Aside0.mk (Kd.R_below (kr_ HO409) hb); replace HO412 := Aside0.mk (Kd.R_below (kr_ HO412) hb); replace HO416 := Aside0.mk (Kd.R_below (kr_ HO416) hb); replace HO419 := Aside0.mk (Kd.R_below (kr_ HO419) hb); have BK420 := Aside0.mk (hbox); have GW420 := (bs_ hg : Aside0 (w.heap.size ≤ _)); have GE420 := (bs_ hg : Aside0 (w.heap.size ≤ _)); replace HB := Aside0.mk (below_step bb_ hb); have NB397_420 := (nl_ hg BK397 : Aside0 (gb397 ≠ gb420)); have NB420_397 := (nr_ hg BK397 : Aside0 (gb420 ≠ gb397)); replace BK397 := Aside0.mk (blk_below (kb_ BK397) hb); have NB413_420 := (nl_ hg BK413 : Aside0 (gb413 ≠ gb420)); have NB420_413 := (nr_ hg BK413 : Aside0 (gb420 ≠ gb413)); replace BK413 := Aside0.mk (blk_below (kb_ BK413) hb); clear hb hbox hg; obtain ⟨Ao35, co35, eo35⟩ := Kd.R_slice HO416.out; subst eo35; have hnb36 := NB420_397.out; have hnc36 := NB397_420.out; have hnb37 := NB420_413.out; have hnc37 := NB413_420.out; obtain ⟨hcz38_0, hcz38_1, hfz38_0, hfz38_1⟩ := cf2_ BK420; obtain ⟨Ao39, co39, eo39⟩ := Kd.R_slice HO419.out; subst eo39) | ((with_reducible refine gate_store (t := 26) (p := 7) rfl ?_); refine store_event (t := 26) (p := 7) (v := ?vo_w40) (w1 := ((w34.setCell ⟨gb420, 0, none⟩ (.slice Ao35 t414.length co35)).setCell ⟨gb420, 1, none⟩ (.slice Ao39 t417.length co39))) ?hg ?ho ?hn ?hr ?_; (case ho => rfl); (case hg => rfl); (case hn => rfl); (case hr => first | (go_simp; done) | (go_simp; rfl)); intro w40 hw; have n0_ : Aside0 (Kd.R (Kd.int .u8) 5 w40 w.heap.size (fun k_ => some k_ ≠ (.slice Ao25 t402.length co25 : Value).ownBlock ∧ some k_ ≠ (.slice Ao30 t407.length co30 : Value).ownBlock ∧ some k_ ≠ (.slice Ao31 t410.length co31 : Value).ownBlock ∧ some k_ ≠ (.slice Ao35 t414.length co35 : Value).ownBlock ∧ some k_ ≠ (.slice Ao39 t417.length co39 : Value).ownBlock) (.slice Ao24 t399.length co24) t399) := ⟨(by rw [hw]; exact (by (with_reducible repeat (first | apply Kd.R_alloc | apply Kd.R_drewN | apply Kd.R_drew)); exact Kd.R_mono (Kd.R_far (p := ⟨gb420, 1, none⟩) (Kd.R_far (p := ⟨gb420, 0, none⟩) (Kd.R_types HO401.out BK420.out (by decide)) (fun _ hk => hk.2) (.slice Ao35 t414.length co35)) (fun _ hk => hk.2) (.slice Ao39 t417.length co39)) (fun _ hk => ⟨hk.1.1.1.1.1, ⟨hk.1.1.1.1.2, ⟨hk.1.1.1.2, ⟨hk.1.1.2, hk.1.2⟩⟩⟩⟩)))⟩; have n1_ : Aside0 (Kd.R (Kd.int .u8) 5 w40 w.heap.size (fun k_ => some k_ ≠ (.slice Ao24 t399.length co24 : Value).ownBlock ∧ some k_ ≠ (.slice Ao30 t407.length co30 : Value).ownBlock ∧ some k_ ≠ (.slice Ao31 t410.length co31 : Value).ownBlock ∧ some k_ ≠ (.slice Ao35 t414.length co35 : Value).ownBlock ∧ some k_ ≠ (.slice Ao39 t417.length co39 : Value).ownBlock) (.slice Ao25 t402.length co25) t402) := ⟨(by rw [hw]; exact (by (with_reducible repeat (first | apply Kd.R_alloc | apply Kd.R_drewN | apply Kd.R_drew)); exact Kd.R_mono (Kd.R_far (p := ⟨gb420, 1, none⟩) (Kd.R_far (p := ⟨gb420, 0, none⟩) (Kd.R_types HO404.out BK420.out (by decide)) (fun _ hk => hk.2) (.slice Ao35 t414.length co35)) (fun _ hk => hk.2) (.slice Ao39 t417.length co39)) (fun _ hk => ⟨hk.1.1.1.1.1, ⟨hk.1.1.1.1.2, ⟨hk.1.1.1.2, ⟨hk.1.1.2, hk.1.2⟩⟩⟩⟩)))⟩; have n2_ : Aside0 (Kd.R (Kd.int .u8) 5 w40 w.heap.size (fun k_ => some k_ ≠ (.slice Ao24 t399.length co24 : Value).ownBlock ∧ some k_ ≠ (.slice Ao25 t402.length co25 : Value).ownBlock ∧ some k_ ≠ (.slice Ao31 t410.length co31 : Value).ownBlock ∧ some k_ ≠ (.slice Ao35 t414.length co35 : Value).ownBlock ∧ some k_ ≠ (.slice Ao39 t417.length co39 : Value).ownBlock) (.slice Ao30 t407.length co30) t407) := ⟨(by rw [hw]; exact (by (with_reducible repeat (first | apply Kd.R_alloc | apply Kd.R_drewN | apply Kd.R_drew)); exact Kd.R_mono (Kd.R_far (p := ⟨gb420, 1, none⟩) (Kd.R_far (p := ⟨gb420, 0, none⟩) (Kd.R_types HO409.out BK420.out (by decide)) (fun _ hk => hk.2) (.slice Ao35 t414.length co35)) (fun _ hk => hk.2) (.slice Ao39 t417.length co39)) (fun _ hk => ⟨hk.1.1.1.1.2, ⟨hk.1.1.1.2, ⟨hk.1.1.1.1.1, ⟨hk.1.1.2, hk.1.2⟩⟩⟩⟩)))⟩; have n3_ : Aside0 (Kd.R (Kd.int .u8) 5 w40 w.heap.size (fun k_ => some k_ ≠ (.slice Ao24 t399.length co24 : Value).ownBlock ∧ some k_ ≠ (.slice Ao25 t402.length co25 : Value).ownBlock ∧ some k_ ≠ (.slice Ao30 t407.length co30 : Value).ownBlock ∧ some k_ ≠ (.slice Ao35 t414.length co35 : Value).ownBlock ∧ some k_ ≠ (.slice Ao39 t417.length co39 : Value).ownBlock) (.slice Ao31 t410.length co31) t410) := ⟨(by rw [hw]; exact (by (with_reducible repeat (first | apply Kd.R_alloc | apply Kd.R_drewN | apply Kd.R_drew)); exact Kd.R_mono (Kd.R_far (p := ⟨gb420, 1, none⟩) (Kd.R_far (p := ⟨gb420, 0, none⟩) (Kd.R_types HO412.out BK420.out (by decide)) (fun _ hk => hk.2) (.slice Ao35 t414.length co35)) (fun _ hk => hk.2) (.slice Ao39 t417.length co39)) (fun _ hk => ⟨hk.1.1.1.1.2, ⟨hk.1.1.1.2, ⟨hk.1.1.1.1.1, ⟨hk.1.1.2, hk.1.2⟩⟩⟩⟩)))⟩; have n4_ : Aside0 (Kd.R (Kd.int .u8) 5 w40 w.heap.size (fun k_ => some k_ ≠ (.slice Ao24 t399.length co24 : Value).ownBlock ∧ some k_ ≠ (.slice Ao25 t402.length co25 : Value).ownBlock ∧ some k_ ≠ (.slice Ao30 t407.length co30 : Value).ownBlock ∧ some k_ ≠ (.slice Ao31 t410.length co31 : Value).ownBlock ∧ some k_ ≠ (.slice Ao39 t417.length co39 : Value).ownBlock) (.slice Ao35 t414.length co35) t414) := ⟨(by rw [hw]; exact (by (with_reducible repeat (first | apply Kd.R_alloc | apply Kd.R_drewN | apply Kd.R_drew)); exact Kd.R_mono (Kd.R_far (p := ⟨gb420, 1, none⟩) (Kd.R_far (p := ⟨gb420, 0, none⟩) (Kd.R_types HO416.out BK420.out (by decide)) (fun _ hk => hk.2) (.slice Ao35 t414.length co35)) (fun _ hk => hk.2) (.slice Ao39 t417.length co39)) (fun _ hk => ⟨hk.1.1.1.1.2, ⟨hk.1.1.1.2, ⟨hk.1.1.2, ⟨hk.1.2, hk.1.1.1.1.1⟩⟩⟩⟩)))⟩; have n5_ : Aside0 (Kd.R (Kd.int .u8) 5 w40 w.heap.size (fun k_ => some k_ ≠ (.slice Ao24 t399.length co24 : Value).ownBlock ∧ some k_ ≠ (.slice Ao25 t402.length co25 : Value).ownBlock ∧ some k_ ≠ (.slice Ao30 t407.length co30 : Value).ownBlock ∧ some k_ ≠ (.slice Ao31 t410.length co31 : Value).ownBlock ∧ some k_ ≠ (.slice Ao35 t414.length co35 : Value).ownBlock) (.slice Ao39 t417.length co39) t417) := ⟨(by rw [hw]; exact (by (with_reducible repeat (first | apply Kd.R_alloc | apply Kd.R_drewN | apply Kd.R_drew)); exact Kd.R_mono (Kd.R_far (p := ⟨gb420, 1, none⟩) (Kd.R_far (p := ⟨gb420, 0, none⟩) (Kd.R_types HO419.out BK420.out (by decide)) (fun _ hk => hk.2) (.slice Ao35 t414.length co35)) (fun _ hk => hk.2) (.slice Ao39 t417.length co39)) (fun _ hk => ⟨hk.1.1.1.1.2, ⟨hk.1.1.1.2, ⟨hk.1.1.2, ⟨hk.1.2, hk.1.1.1.1.1⟩⟩⟩⟩)))⟩; have n6_ : Aside0 (w40.heap[gb397]? = some (.cells #[.slice A0_0 l0_0.length c0_0, .slice A0_1 l0_1.length c0_1] 24 (0, 0))) := ⟨(by rw [hw]; exact (by (with_reducible repeat (first | refine blk_drewN ?_ _ | refine blk_drew ?_ | refine blk_alloc ?_ _)); refine blk_far ?_ NB397_420.out _; (with_reducible repeat (first | refine blk_drewN ?_ _ | refine blk_drew ?_ | refine blk_alloc ?_ _)); refine blk_far ?_ NB397_420.out _; (with_reducible repeat (first | refine blk_drewN ?_ _ | refine blk_drew ?_ | refine blk_alloc ?_ _)); exact BK397.out))⟩; have n7_ : Aside0 (w40.heap[gb413]? = some (.cells #[.int .i64 t405, .int .i64 t406, .slice Ao30 t407.length co30, .slice Ao31 t410.length co31] 28 (0, 0))) := ⟨(by rw [hw]; exact (by (with_reducible repeat (first | refine blk_drewN ?_ _ | refine blk_drew ?_ | refine blk_alloc ?_ _)); refine blk_far ?_ NB413_420.out _; (with_reducible repeat (first | refine blk_drewN ?_ _ | refine blk_drew ?_ | refine blk_alloc ?_ _)); refine blk_far ?_ NB413_420.out _; (with_reducible repeat (first | refine blk_drewN ?_ _ | refine blk_drew ?_ | refine blk_alloc ?_ _)); exact BK413.out))⟩; have n8_ : Aside0 (w40.heap[gb420]? = some (.cells #[.slice Ao35 t414.length co35, .slice Ao39 t417.length co39] 26 (0, 0))) := ⟨(by rw [hw]; exact (by (with_reducible repeat (first | refine blk_drewN ?_ _ | refine blk_drew ?_ | refine blk_alloc ?_ _)); refine blk_put (cs := #[.slice Ao35 t414.length co35, .slice none 0 0]) ?_ 1 _ rfl; (with_reducible repeat (first | refine blk_drewN ?_ _ | refine blk_drew ?_ | refine blk_alloc ?_ _)); refine blk_put (cs := #[.slice none 0 0, .slice none 0 0]) ?_ 0 _ rfl; (with_reducible repeat (first | refine blk_drewN ?_ _ | refine blk_drew ?_ | refine blk_alloc ?_ _)); exact BK420.out))⟩; have n9_ : Aside0 (Below w.heap.size w w40) := ⟨(by rw [hw]; exact bb_)⟩; clear hw; clear HO401; clear HO404; clear HO409; clear HO412; clear HO416; clear HO419; clear BK397; clear BK413; clear BK420; clear HB; have HO401 := n0_; have HO404 := n1_; have HO409 := n2_; have HO412 := n3_; have HO416 := n4_; have HO419 := n5_; have BK397 := n6_; have BK413 := n7_; have BK420 := n8_; have HB := n9_; clear n0_ n1_ n2_ n3_ n4_ n5_ n6_ n7_ n8_ n9_; obtain ⟨hcz41_0, hcz41_1, hfz41_0, hfz41_1⟩ := cf2_ BK420) | ((with_reducible refine gate_callee (f := 25) rfl ?_); refine goe_ (some 26) Try.func25 #[.agg #[.slice Ao35 t414.length co35, .slice Ao39 t417.length co39], .int .i64 a1] ?_; (with_reducible refine (impl_CrashJournal.calls k (fun k_ => some k_ = (.slice Ao35 t414.length co35 : Value).ownBlock) _ _ t414 (fun k_ => some k_ = (.slice Ao39 t417.length co39 : Value).ownBlock) _ _ t417 a1 t421 t422 t423 t426 _ ?side1 ?side2 A11.out).mono ?_); (case side1 => exact Kd.R_V (Kd.R_tight rfl (Kd.R_types (Kd.R_types (Kd.R_types (HO416.out) BK397.out (by decide)) BK413.out (by decide)) BK420.out (by decide)))); (case side2 => exact Kd.R_V (Kd.R_tight rfl (Kd.R_types (Kd.R_types (Kd.R_types (HO419.out) BK397.out (by decide)) BK413.out (by decide)) BK420.out (by decide)))); rintro e w42 ⟨v424, v427, rfl, ho0, ho1, hb⟩; refine ⟨_, rfl, ?_⟩; have HO425 := Aside0.mk (Kd.R_lower (Kd.R_new' (Kd.R_new' (Kd.R_new' (Kd.R_new' (Kd.R_new' (Kd.R_new' (Kd.R_mono (ok' := fun k_ => some k_ ≠ (v427 : Value).ownBlock) ho0 (fun _ hk_ => hk_.2)) (Kd.R_lt (kr_ HO401))) (Kd.R_lt (kr_ HO404))) (Kd.R_lt (kr_ HO409))) (Kd.R_lt (kr_ HO412))) (Kd.R_lt (kr_ HO416))) (Kd.R_lt (kr_ HO419))) (below_size bb_)); have HO428 := Aside0.mk (Kd.R_lower (Kd.R_new' (Kd.R_new' (Kd.R_new' (Kd.R_new' (Kd.R_new' (Kd.R_new' (Kd.R_mono (ok' := fun k_ => some k_ ≠ (v424 : Value).ownBlock) ho1 (fun _ hk_ => hk_.2)) (Kd.R_lt (kr_ HO401))) (Kd.R_lt (kr_ HO404))) (Kd.R_lt (kr_ HO409))) (Kd.R_lt (kr_ HO412))) (Kd.R_lt (kr_ HO416))) (Kd.R_lt (kr_ HO419))) (below_size bb_)); replace HO401 := Aside0.mk (Kd.R_mono (Kd.R_told (Kd.R_told (Kd.R_old (kr_ HO401) hb) (Kd.R_base ho0)) (Kd.R_base ho1)) (fun _ h_ => h_.1)); replace HO404 := Aside0.mk (Kd.R_mono (Kd.R_told (Kd.R_told (Kd.R_old (kr_ HO404) hb) (Kd.R_base ho0)) (Kd.R_base ho1)) (fun _ h_ => h_.1)); replace HO409 := Aside0.mk (Kd.R_mono (Kd.R_told (Kd.R_told (Kd.R_old (kr_ HO409) hb) (Kd.R_base ho0)) (Kd.R_base ho1)) (fun _ h_ => h_.1)); replace HO412 := Aside0.mk (Kd.R_mono (Kd.R_told (Kd.R_told (Kd.R_old (kr_ HO412) hb) (Kd.R_base ho0)) (Kd.R_base ho1)) (fun _ h_ => h_.1)); replace HO416 := Aside0.mk (Kd.R_mono (Kd.R_told (Kd.R_told (Kd.R_old (kr_ HO416) hb) (Kd.R_base ho0)) (Kd.R_base ho1)) (fun _ h_ => h_.1)); replace HO419 := Aside0.mk (Kd.R_mono (Kd.R_told (Kd.R_told (Kd.R_old (kr_ HO419) hb) (Kd.R_base ho0)) (Kd.R_base ho1)) (fun _ h_ => h_.1)); replace BK397 := Aside0.mk (blk_below (kb_ BK397) hb); replace BK413 := Aside0.mk (blk_below (kb_ BK413) hb); replace BK420 := Aside0.mk (blk_below (kb_ BK420) hb); replace HB := Aside0.mk (below_step bb_ hb); (try clear hb); (try clear hb2); (try clear hk); (try clear hi); (try clear ho0); (try clear ho1)) | ((with_reducible refine gate_dst (N := 8) rfl ?_); refine box_e_ 8 #[.int .i64 0, .int .i64 0, .slice none 0 0, .slice none 0 0] 28 ?_; intro gb429 hg w43 hbox hb; replace HO401 := Aside0.mk (Kd.R_below (kr_ HO401) hb); replace HO404 := Aside0.mk (Kd.R_below (kr_ HO404) hb); replace HO409 := Aside0.mk (Kd.R_below (kr_ HO409) hb); replace HO412 := Aside0.mk (Kd.R_below (kr_ HO412) hb); replace HO416 := Aside0.mk (Kd.R_below (kr_ HO416) hb); replace HO419 := Aside0.mk (Kd.R_below (kr_ HO419) hb); replace HO425 := Aside0.mk (Kd.R_below (kr_ HO425) hb); replace HO428 := Aside0.mk (Kd.R_below (kr_ HO428) hb); have BK429 := Aside0.mk (hbox); have GW429 := (bs_ hg : Aside0 (w.heap.size ≤ _)); have GE429 := (bs_ hg : Aside0 (w.heap.size ≤ _)); replace HB := Aside0.mk (below_step bb_ hb); have NB397_429 := (nl_ hg BK397 : Aside0 (gb397 ≠ gb429)); have NB429_397 := (nr_ hg BK397 : Aside0 (gb429 ≠ gb397)); replace BK397 := Aside0.mk (blk_below (kb_ BK397) hb); have NB413_429 := (nl_ hg BK413 : Aside0 (gb413 ≠ gb429)); have NB429_413 := (nr_ hg BK413 : Aside0 (gb429 ≠ gb413)); replace BK413 := Aside0.mk (blk_below (kb_ BK413) hb); have NB420_429 := (nl_ hg BK420 : Aside0 (gb420 ≠ gb429)); have NB429_420 := (nr_ hg BK420 : Aside0 (gb429 ≠ gb420)); replace BK420 := Aside0.mk (blk_below (kb_ BK420) hb); clear hb hbox hg; have hnb44 := NB429_397.out; have hnc44 := NB397_429.out; have hnb45 := NB429_413.out; have hnc45 := NB413_429.out; have hnb46 := NB429_420.out; have hnc46 := NB420_429.out; obtain ⟨hcz47_0, hcz47_1, hcz47_2, hcz47_3, hfz47_0, hfz47_1, hfz47_2, hfz47_3⟩ := cf4_ BK429; obtain ⟨Ao48, co48, eo48⟩ := Kd.R_slice HO425.out; subst eo48; obtain ⟨Ao49, co49, eo49⟩ := Kd.R_slice HO428.out; subst eo49; obtain ⟨hcz50_0, hcz50_1, hcz50_2, hcz50_3, hfz50_0, hfz50_1, hfz50_2, hfz50_3⟩ := cf4_ BK413) | ((with_reducible refine gate_callee (f := 19) rfl ?_); refine goe_ (some 29) Try.func19 #[.agg #[.int .i64 t421, .int .i64 t422, .slice Ao48 t423.length co48, .slice Ao49 t426.length co49], .agg #[.int .i64 t405, .int .i64 t406, .slice Ao30 t407.length co30, .slice Ao31 t410.length co31]] ?_; (with_reducible refine (laws_eqJournalResult.calls k t421 t422 _ _ t423 _ _ t426 t405 t406 _ _ t407 _ _ t410 true _ ?side1 ?side2 ?side3 ?side4 ?side5 ?side6 ?side7 ?side8 A12.out).mono ?_); (case side1 => refine (Kd.R_reads' (e := 5) (base := w.heap.size) (ok := fun k_ => ((((((some k_ ≠ (.slice Ao49 t426.length co49 : Value).ownBlock ∧ some k_ ≠ (.slice Ao24 t399.length co24 : Value).ownBlock) ∧ some k_ ≠ (.slice Ao25 t402.length co25 : Value).ownBlock) ∧ some k_ ≠ (.slice Ao30 t407.length co30 : Value).ownBlock) ∧ some k_ ≠ (.slice Ao31 t410.length co31 : Value).ownBlock) ∧ some k_ ≠ (.slice Ao35 t414.length co35 : Value).ownBlock) ∧ some k_ ≠ (.slice Ao39 t417.length co39 : Value).ownBlock)) (n := t423.length) (c := co48) ?_).2.2; exact (by (with_reducible repeat (first | apply Kd.R_alloc | apply Kd.R_drewN | apply Kd.R_drew)); exact (Kd.R_mono (Kd.R_far (p := ⟨gb429, 3, none⟩) (Kd.R_far (p := ⟨gb429, 2, none⟩) (Kd.R_far (p := ⟨gb429, 1, none⟩) (Kd.R_far (p := ⟨gb429, 0, none⟩) (Kd.R_types HO425.out BK429.out (by decide)) (fun _ hk => hk.2) (.int .i64 t421)) (fun _ hk => hk.2) (.int .i64 t422)) (fun _ hk => hk.2) (.slice Ao48 t423.length co48)) (fun _ hk => hk.2) (.slice Ao49 t426.length co49)) (fun _ h_ => h_.1)))); (case side2 => exact (Kd.R_reads' HO425.out).2.1); (case side3 => refine (Kd.R_reads' (e := 5) (base := w.heap.size) (ok := fun k_ => ((((((some k_ ≠ (.slice Ao48 t423.length co48 : Value).ownBlock ∧ some k_ ≠ (.slice Ao24 t399.length co24 : Value).ownBlock) ∧ some k_ ≠ (.slice Ao25 t402.length co25 : Value).ownBlock) ∧ some k_ ≠ (.slice Ao30 t407.length co30 : Value).ownBlock) ∧ some k_ ≠ (.slice Ao31 t410.length co31 : Value).ownBlock) ∧ some k_ ≠ (.slice Ao35 t414.length co35 : Value).ownBlock) ∧ some k_ ≠ (.slice Ao39 t417.length co39 : Value).ownBlock)) (n := t426.length) (c := co49) ?_).2.2; exact (by (with_reducible repeat (first | apply Kd.R_alloc | apply Kd.R_drewN | apply Kd.R_drew)); exact (Kd.R_mono (Kd.R_far (p := ⟨gb429, 3, none⟩) (Kd.R_far (p := ⟨gb429, 2, none⟩) (Kd.R_far (p := ⟨gb429, 1, none⟩) (Kd.R_far (p := ⟨gb429, 0, none⟩) (Kd.R_types HO428.out BK429.out (by decide)) (fun _ hk => hk.2) (.int .i64 t421)) (fun _ hk => hk.2) (.int .i64 t422)) (fun _ hk => hk.2) (.slice Ao48 t423.length co48)) (fun _ hk => hk.2) (.slice Ao49 t426.length co49)) (fun _ h_ => h_.1)))); (case side4 => exact (Kd.R_reads' HO428.out).2.1); (case side5 => refine (Kd.R_reads' (e := 5) (base := w.heap.size) (ok := fun k_ => (((some k_ ≠ (.slice Ao24 t399.length co24 : Value).ownBlock ∧ (some k_ ≠ (.slice Ao25 t402.length co25 : Value).ownBlock ∧ (some k_ ≠ (.slice Ao31 t410.length co31 : Value).ownBlock ∧ (some k_ ≠ (.slice Ao35 t414.length co35 : Value).ownBlock ∧ some k_ ≠ (.slice Ao39 t417.length co39 : Value).ownBlock)))) ∧ some k_ ≠ (.slice Ao48 t423.length co48 : Value).ownBlock) ∧ some k_ ≠ (.slice Ao49 t426.length co49 : Value).ownBlock)) (n := t407.length) (c := co30) ?_).2.2; exact (by (with_reducible repeat (first | apply Kd.R_alloc | apply Kd.R_drewN | apply Kd.R_drew)); exact (Kd.R_mono (Kd.R_far (p := ⟨gb429, 3, none⟩) (Kd.R_far (p := ⟨gb429, 2, none⟩) (Kd.R_far (p := ⟨gb429, 1, none⟩) (Kd.R_far (p := ⟨gb429, 0, none⟩) (Kd.R_types HO409.out BK429.out (by decide)) (fun _ hk => hk.2) (.int .i64 t421)) (fun _ hk => hk.2) (.int .i64 t422)) (fun _ hk => hk.2) (.slice Ao48 t423.length co48)) (fun _ hk => hk.2) (.slice Ao49 t426.length co49)) (fun _ h_ => h_.1)))); (case side6 => exact (Kd.R_reads' HO409.out).2.1); (case side7 => refine (Kd.R_reads' (e := 5) (base := w.heap.size) (ok := fun k_ => (((some k_ ≠ (.slice Ao24 t399.length co24 : Value).ownBlock ∧ (some k_ ≠ (.slice Ao25 t402.length co25 : Value).ownBlock ∧ (some k_ ≠ (.slice Ao30 t407.length co30 : Value).ownBlock ∧ (some k_ ≠ (.slice Ao35 t414.length co35 : Value).ownBlock ∧ some k_ ≠ (.slice Ao39 t417.length co39 : Value).ownBlock)))) ∧ some k_ ≠ (.slice Ao48 t423.length co48 : Value).ownBlock) ∧ some k_ ≠ (.slice Ao49 t426.length co49 : Value).ownBlock)) (n := t410.length) (c := co31) ?_).2.2; exact (by (with_reducible repeat (first | apply Kd.R_alloc | apply Kd.R_drewN | apply Kd.R_drew)); exact (Kd.R_mono (Kd.R_far (p := ⟨gb429, 3, none⟩) (Kd.R_far (p := ⟨gb429, 2, none⟩) (Kd.R_far (p := ⟨gb429, 1, none⟩) (Kd.R_far (p := ⟨gb429, 0, none⟩) (Kd.R_types HO412.out BK429.out (by decide)) (fun _ hk => hk.2) (.int .i64 t421)) (fun _ hk => hk.2) (.int .i64 t422)) (fun _ hk => hk.2) (.slice Ao48 t423.length co48)) (fun _ hk => hk.2) (.slice Ao49 t426.length co49)) (fun _ h_ => h_.1)))); (case side8 => exact (Kd.R_reads' HO412.out).2.1); rintro e w51 ⟨rfl, hb⟩; refine ⟨_, rfl, ?_⟩; replace HO401 := Aside0.mk (Kd.R_below (by (with_reducible repeat (first | apply Kd.R_alloc | apply Kd.R_drewN | apply Kd.R_drew)); exact (Kd.R_mono (Kd.R_far (p := ⟨gb429, 3, none⟩) (Kd.R_far (p := ⟨gb429, 2, none⟩) (Kd.R_far (p := ⟨gb429, 1, none⟩) (Kd.R_far (p := ⟨gb429, 0, none⟩) (Kd.R_types HO401.out BK429.out (by decide)) (fun _ hk => hk.2) (.int .i64 t421)) (fun _ hk => hk.2) (.int .i64 t422)) (fun _ hk => hk.2) (.slice Ao48 t423.length co48)) (fun _ hk => hk.2) (.slice Ao49 t426.length co49)) (fun _ h_ => h_.1))) hb); replace HO404 := Aside0.mk (Kd.R_below (by (with_reducible repeat (first | apply Kd.R_alloc | apply Kd.R_drewN | apply Kd.R_drew)); exact (Kd.R_mono (Kd.R_far (p := ⟨gb429, 3, none⟩) (Kd.R_far (p := ⟨gb429, 2, none⟩) (Kd.R_far (p := ⟨gb429, 1, none⟩) (Kd.R_far (p := ⟨gb429, 0, none⟩) (Kd.R_types HO404.out BK429.out (by decide)) (fun _ hk => hk.2) (.int .i64 t421)) (fun _ hk => hk.2) (.int .i64 t422)) (fun _ hk => hk.2) (.slice Ao48 t423.length co48)) (fun _ hk => hk.2) (.slice Ao49 t426.length co49)) (fun _ h_ => h_.1))) hb); replace HO409 := Aside0.mk (Kd.R_below (by (with_reducible repeat (first | apply Kd.R_alloc | apply Kd.R_drewN | apply Kd.R_drew)); exact (Kd.R_mono (Kd.R_far (p := ⟨gb429, 3, none⟩) (Kd.R_far (p := ⟨gb429, 2, none⟩) (Kd.R_far (p := ⟨gb429, 1, none⟩) (Kd.R_far (p := ⟨gb429, 0, none⟩) (Kd.R_types HO409.out BK429.out (by decide)) (fun _ hk => hk.2) (.int .i64 t421)) (fun _ hk => hk.2) (.int .i64 t422)) (fun _ hk => hk.2) (.slice Ao48 t423.length co48)) (fun _ hk => hk.2) (.slice Ao49 t426.length co49)) (fun _ h_ => h_.1))) hb); replace HO412 := Aside0.mk (Kd.R_below (by (with_reducible repeat (first | apply Kd.R_alloc | apply Kd.R_drewN | apply Kd.R_drew)); exact (Kd.R_mono (Kd.R_far (p := ⟨gb429, 3, none⟩) (Kd.R_far (p := ⟨gb429, 2, none⟩) (Kd.R_far (p := ⟨gb429, 1, none⟩) (Kd.R_far (p := ⟨gb429, 0, none⟩) (Kd.R_types HO412.out BK429.out (by decide)) (fun _ hk => hk.2) (.int .i64 t421)) (fun _ hk => hk.2) (.int .i64 t422)) (fun _ hk => hk.2) (.slice Ao48 t423.length co48)) (fun _ hk => hk.2) (.slice Ao49 t426.length co49)) (fun _ h_ => h_.1))) hb); replace HO416 := Aside0.mk (Kd.R_below (by (with_reducible repeat (first | apply Kd.R_alloc | apply Kd.R_drewN | apply Kd.R_drew)); exact (Kd.R_mono (Kd.R_far (p := ⟨gb429, 3, none⟩) (Kd.R_far (p := ⟨gb429, 2, none⟩) (Kd.R_far (p := ⟨gb429, 1, none⟩) (Kd.R_far (p := ⟨gb429, 0, none⟩) (Kd.R_types HO416.out BK429.out (by decide)) (fun _ hk => hk.2) (.int .i64 t421)) (fun _ hk => hk.2) (.int .i64 t422)) (fun _ hk => hk.2) (.slice Ao48 t423.length co48)) (fun _ hk => hk.2) (.slice Ao49 t426.length co49)) (fun _ h_ => h_.1))) hb); replace HO419 := Aside0.mk (Kd.R_below (by (with_reducible repeat (first | apply Kd.R_alloc | apply Kd.R_drewN | apply Kd.R_drew)); exact (Kd.R_mono (Kd.R_far (p := ⟨gb429, 3, none⟩) (Kd.R_far (p := ⟨gb429, 2, none⟩) (Kd.R_far (p := ⟨gb429, 1, none⟩) (Kd.R_far (p := ⟨gb429, 0, none⟩) (Kd.R_types HO419.out BK429.out (by decide)) (fun _ hk => hk.2) (.int .i64 t421)) (fun _ hk => hk.2) (.int .i64 t422)) (fun _ hk => hk.2) (.slice Ao48 t423.length co48)) (fun _ hk => hk.2) (.slice Ao49 t426.length co49)) (fun _ h_ => h_.1))) hb); replace HO425 := Aside0.mk (Kd.R_below (by (with_reducible repeat (first | apply Kd.R_alloc | apply Kd.R_drewN | apply Kd.R_drew)); exact (Kd.R_mono (Kd.R_far (p := ⟨gb429, 3, none⟩) (Kd.R_far (p := ⟨gb429, 2, none⟩) (Kd.R_far (p := ⟨gb429, 1, none⟩) (Kd.R_far (p := ⟨gb429, 0, none⟩) (Kd.R_types HO425.out BK429.out (by decide)) (fun _ hk => hk.2) (.int .i64 t421)) (fun _ hk => hk.2) (.int .i64 t422)) (fun _ hk => hk.2) (.slice Ao48 t423.length co48)) (fun _ hk => hk.2) (.slice Ao49 t426.length co49)) (fun _ h_ => h_.1))) hb); replace HO428 := Aside0.mk (Kd.R_below (by (with_reducible repeat (first | apply Kd.R_alloc | apply Kd.R_drewN | apply Kd.R_drew)); exact (Kd.R_mono (Kd.R_far (p := ⟨gb429, 3, none⟩) (Kd.R_far (p := ⟨gb429, 2, none⟩) (Kd.R_far (p := ⟨gb429, 1, none⟩) (Kd.R_far (p := ⟨gb429, 0, none⟩) (Kd.R_types HO428.out BK429.out (by decide)) (fun _ hk => hk.2) (.int .i64 t421)) (fun _ hk => hk.2) (.int .i64 t422)) (fun _ hk => hk.2) (.slice Ao48 t423.length co48)) (fun _ hk => hk.2) (.slice Ao49 t426.length co49)) (fun _ h_ => h_.1))) hb); replace BK397 := Aside0.mk (blk_below (kb_ BK397) hb); replace BK413 := Aside0.mk (blk_below (kb_ BK413) hb); replace BK420 := Aside0.mk (blk_below (kb_ BK420) hb); replace BK429 := Aside0.mk (blk_below (g := gb429) (o := .cells #[.int .i64 t421, .int .i64 t422, .slice Ao48 t423.length co48, .slice Ao49 t426.length co49] 28 (0, 0)) (by (with_reducible repeat (first | refine blk_drewN ?_ _ | refine blk_drew ?_ | refine blk_alloc ?_ _)); refine blk_put (cs := #[.int .i64 t421, .int .i64 t422, .slice Ao48 t423.length co48, .slice none 0 0]) ?_ 3 _ rfl; (with_reducible repeat (first | refine blk_drewN ?_ _ | refine blk_drew ?_ | refine blk_alloc ?_ _)); refine blk_put (cs := #[.int .i64 t421, .int .i64 t422, .slice none 0 0, .slice none 0 0]) ?_ 2 _ rfl; (with_reducible repeat (first | refine blk_drewN ?_ _ | refine blk_drew ?_ | refine blk_alloc ?_ _)); refine blk_put (cs := #[.int .i64 t421, .int .i64 0, .slice none 0 0, .slice none 0 0]) ?_ 1 _ rfl; (with_reducible repeat (first | refine blk_drewN ?_ _ | refine blk_drew ?_ | refine blk_alloc ?_ _)); refine blk_put (cs := #[.int .i64 0, .int .i64 0, .slice none 0 0, .slice none 0 0]) ?_ 0 _ rfl; (with_reducible repeat (first | refine blk_drewN ?_ _ | refine blk_drew ?_ | refine blk_alloc ?_ _)); exact BK429.out) hb); replace HB := Aside0.mk (below_step bb_ hb); (try clear hb); (try clear hb2); (try clear hk); (try clear hi)))
        have n0_ := Aside0.mk (Kd.R_drew HO401.out)
        have n1_ := Aside0.mk (Kd.R_drew HO404.out)
        have n2_ := Aside0.mk (Kd.R_drew HO409.out)
        have n3_ := Aside0.mk (Kd.R_drew HO412.out)
        have n4_ := Aside0.mk (Kd.R_drew HO416.out)
        have n5_ := Aside0.mk (Kd.R_drew HO419.out)
        have n6_ := Aside0.mk (Kd.R_drew HO425.out)
        have n7_ := Aside0.mk (Kd.R_drew HO428.out)
        have n8_ := Aside0.mk (blk_drew BK397.out)
        have n9_ := Aside0.mk (blk_drew BK413.out)
        have n10_ := Aside0.mk (blk_drew BK420.out)
        have n11_ := Aside0.mk (blk_drew BK429.out)
        have n12_ := Aside0.mk (below_drew1 HB.out)
        clear HO401
        clear HO404
        clear HO409
        clear HO412
        clear HO416
        clear HO419
        clear HO425
        clear HO428
        clear BK397
        clear BK413
        clear BK420
        clear BK429
        clear HB
        have HO401 := n0_
        have HO404 := n1_
        have HO409 := n2_
        have HO412 := n3_
        have HO416 := n4_
        have HO419 := n5_
        have HO425 := n6_
        have HO428 := n7_
        have BK397 := n8_
        have BK413 := n9_
        have BK420 := n10_
        have BK429 := n11_
        have HB := n12_
        clear n0_ n1_ n2_ n3_ n4_ n5_ n6_ n7_ n8_ n9_ n10_ n11_ n12_
        refine start_ (n := 5) (S := fun w' => w'.cell? ⟨gb420, 0, none⟩ = some (.slice Ao35 t414.length co35) ∧ w'.cell? ⟨gb420, 1, none⟩ = some (.slice Ao39 t417.length co39) ∧ w'.cell? ⟨gb397, 0, none⟩ = some (.slice A0_0 l0_0.length c0_0) ∧ w'.cell? ⟨gb397, 1, none⟩ = some (.slice A0_1 l0_1.length c0_1)) (ds := []) #[false, false, false, false, false] (by kernel_rfl) rfl rfl ⟨(blk_cell BK420.out 0).trans rfl, (blk_cell BK420.out 1).trans rfl, (blk_cell BK397.out 0).trans rfl, (blk_cell BK397.out 1).trans rfl⟩ (fun hHeld => ?_)
        generalize w51.drew = w52 at HO401 HO404 HO409 HO412 HO416 HO419 HO425 HO428 BK397 BK413 BK420 BK429 HB hHeld ⊢
        refine take_ (i := 0) (N := some 31) (v := ?_) (a' := ?_) #[true, false, false, false, false] rfl rfl (by kernel_rfl) (fun _ _ _ h => h) (Or.inl ⟨by rfl, ?_⟩) hHeld ?_ ?_
        rotate_left
        · rintro w' ⟨s0, s1, s2, s3⟩
          go_simp
          with_reducible rfl
        rotate_left
        · simp only [Act.put, List.setIfInBounds_toArray, List.set_cons_zero, List.set_cons_succ, i64_w, i32_w]
          rfl
        refine take_ (i := 1) (N := some 32) (v := ?_) (a' := ?_) #[true, true, false, false, false] rfl rfl (by kernel_rfl) (fun _ _ _ h => h) (Or.inl ⟨by rfl, ?_⟩) hHeld ?_ ?_
        rotate_left
        · rintro w' ⟨s0, s1, s2, s3⟩
          go_simp
          with_reducible rfl
        rotate_left
        · simp only [Act.put, List.setIfInBounds_toArray, List.set_cons_zero, List.set_cons_succ, i64_w, i32_w]
          rfl
        refine one_ (i := 2) (N := some 33) #[true, true, true, false, false] rfl rfl (by kernel_rfl) (by decide) (fun K hK => ?_)
        refine goes_ Try.func17 (by kernel_rfl) rfl #[.agg #[.slice A0_0 l0_0.length c0_0, .slice A0_1 l0_1.length c0_1]] (by rfl) rfl rfl (by (try simp only [List.map_toArray, List.map_cons, List.map_nil]); first | done | rfl | (simp only [List.length_drop, List.length_take]; rfl)) ?_
        with_reducible refine (laws_toJournal.calls k _ _ l0_0 _ _ l0_1 t431 t434 _ ?side1 ?side2 ?side3 ?side4 A14.out).mono ?_
        (case side1 => exact kc_ (Kd.C_below HR0_0.out HB.out))
        (case side2 => exact HC0_0.out)
        (case side3 => exact kc_ (Kd.C_below HR0_1.out HB.out))
        (case side4 => exact HC0_1.out)
        rintro e w53 ⟨v432, v435, rfl, ho0, ho1, hb⟩
        refine ⟨_, rfl, ?_⟩
        have n0_ := Aside0.mk (Kd.R_mono (Kd.R_told (Kd.R_told (Kd.R_old (kr_ HO401) hb) (Kd.R_base ho0)) (Kd.R_base ho1)) (fun _ h_ => h_.1))
        have n1_ := Aside0.mk (Kd.R_mono (Kd.R_told (Kd.R_told (Kd.R_old (kr_ HO404) hb) (Kd.R_base ho0)) (Kd.R_base ho1)) (fun _ h_ => h_.1))
        have n2_ := Aside0.mk (Kd.R_mono (Kd.R_told (Kd.R_told (Kd.R_old (kr_ HO409) hb) (Kd.R_base ho0)) (Kd.R_base ho1)) (fun _ h_ => h_.1))
        have n3_ := Aside0.mk (Kd.R_mono (Kd.R_told (Kd.R_told (Kd.R_old (kr_ HO412) hb) (Kd.R_base ho0)) (Kd.R_base ho1)) (fun _ h_ => h_.1))
        have n4_ := Aside0.mk (Kd.R_mono (Kd.R_told (Kd.R_told (Kd.R_old (kr_ HO416) hb) (Kd.R_base ho0)) (Kd.R_base ho1)) (fun _ h_ => h_.1))
        have n5_ := Aside0.mk (Kd.R_mono (Kd.R_told (Kd.R_told (Kd.R_old (kr_ HO419) hb) (Kd.R_base ho0)) (Kd.R_base ho1)) (fun _ h_ => h_.1))
        have n6_ := Aside0.mk (Kd.R_mono (Kd.R_told (Kd.R_told (Kd.R_old (kr_ HO425) hb) (Kd.R_base ho0)) (Kd.R_base ho1)) (fun _ h_ => h_.1))
        have n7_ := Aside0.mk (Kd.R_mono (Kd.R_told (Kd.R_told (Kd.R_old (kr_ HO428) hb) (Kd.R_base ho0)) (Kd.R_base ho1)) (fun _ h_ => h_.1))
        have n8_ := Aside0.mk (Kd.R_lower (Kd.R_new' (Kd.R_new' (Kd.R_new' (Kd.R_new' (Kd.R_new' (Kd.R_new' (Kd.R_new' (Kd.R_new' ho0 (Kd.R_lt (kr_ HO401))) (Kd.R_lt (kr_ HO404))) (Kd.R_lt (kr_ HO409))) (Kd.R_lt (kr_ HO412))) (Kd.R_lt (kr_ HO416))) (Kd.R_lt (kr_ HO419))) (Kd.R_lt (kr_ HO425))) (Kd.R_lt (kr_ HO428))) (below_size bb_))
        have n9_ := Aside0.mk (Kd.R_lower (Kd.R_new' (Kd.R_new' (Kd.R_new' (Kd.R_new' (Kd.R_new' (Kd.R_new' (Kd.R_new' (Kd.R_new' ho1 (Kd.R_lt (kr_ HO401))) (Kd.R_lt (kr_ HO404))) (Kd.R_lt (kr_ HO409))) (Kd.R_lt (kr_ HO412))) (Kd.R_lt (kr_ HO416))) (Kd.R_lt (kr_ HO419))) (Kd.R_lt (kr_ HO425))) (Kd.R_lt (kr_ HO428))) (below_size bb_))
        have n10_ := Aside0.mk (blk_below (kb_ BK397) hb)
        have n11_ := Aside0.mk (blk_below (kb_ BK413) hb)
        have n12_ := Aside0.mk (blk_below (kb_ BK420) hb)
        have n13_ := Aside0.mk (blk_below (kb_ BK429) hb)
        have n14_ := Aside0.mk (below_step bb_ hb)
        clear HO401
        clear HO404
        clear HO409
        clear HO412
        clear HO416
        clear HO419
        clear HO425
        clear HO428
        clear BK397
        clear BK413
        clear BK420
        clear BK429
        clear HB
        have HO401 := n0_
        have HO404 := n1_
        have HO409 := n2_
        have HO412 := n3_
        have HO416 := n4_
        have HO419 := n5_
        have HO425 := n6_
        have HO428 := n7_
        have HO433 := n8_
        have HO436 := n9_
        have BK397 := n10_
        have BK413 := n11_
        have BK420 := n12_
        have BK429 := n13_
        have HB := n14_
        clear n0_ n1_ n2_ n3_ n4_ n5_ n6_ n7_ n8_ n9_ n10_ n11_ n12_ n13_ n14_
        (try clear hb)
        (try clear hb2)
        (try clear hk)
        (try clear hi)
        (try clear ho0)
        (try clear ho1)
        obtain ⟨Ao54, co54, eo54⟩ := Kd.R_slice HO433.out
        (first | subst eo54 | (injection eo54 with f1_ f2_ f3_; have f4_ := f1_.symm; have f5_ := f3_.symm; clear f1_ f2_ f3_; subst f4_; subst f5_))
        obtain ⟨Ao55, co55, eo55⟩ := Kd.R_slice HO436.out
        (first | subst eo55 | (injection eo55 with f1_ f2_ f3_; have f4_ := f1_.symm; have f5_ := f3_.symm; clear f1_ f2_ f3_; subst f4_; subst f5_))
        refine hK.out _ _ ⟨(blk_cell BK420.out 0).trans rfl, (blk_cell BK420.out 1).trans rfl, (blk_cell BK397.out 0).trans rfl, (blk_cell BK397.out 1).trans rfl⟩ (fun hHeld => ?_)
        clear hK K
        refine norm_ (a' := ?_) ?_ ?_
        rotate_left
        · show Act.put _ (some 33) _ = _
          simp only [Act.put, List.setIfInBounds_toArray, List.set_cons_zero, List.set_cons_succ, i64_w, i32_w]
          rfl
        refine one_ (i := 3) (N := some 34) #[true, true, true, true, false] rfl rfl (by kernel_rfl) (by decide) (fun K hK => ?_)
        refine goes_ Try.func20 (by kernel_rfl) rfl #[.agg #[.slice Ao35 t414.length co35, .slice Ao39 t417.length co39], .agg #[.slice Ao54 t431.length co54, .slice Ao55 t434.length co55]] (by rfl) rfl rfl (by (try simp only [List.map_toArray, List.map_cons, List.map_nil]); first | done | rfl | (simp only [List.length_drop, List.length_take]; rfl)) ?_
        with_reducible refine (laws_eqJournal.calls k _ _ t414 _ _ t417 _ _ t431 _ _ t434 true _ ?side1 ?side2 ?side3 ?side4 ?side5 ?side6 ?side7 ?side8 A15.out).mono ?_
        (case side1 => exact kc_ ((Kd.R_reads' HO416.out).2.2))
        (case side2 => exact (Kd.R_reads' HO416.out).2.1)
        (case side3 => exact kc_ ((Kd.R_reads' HO419.out).2.2))
        (case side4 => exact (Kd.R_reads' HO419.out).2.1)
        (case side5 => exact kc_ ((Kd.R_reads' HO433.out).2.2))
        (case side6 => exact (Kd.R_reads' HO433.out).2.1)
        (case side7 => exact kc_ ((Kd.R_reads' HO436.out).2.2))
        (case side8 => exact (Kd.R_reads' HO436.out).2.1)
        rintro e w56 ⟨rfl, hb⟩
        refine ⟨_, rfl, ?_⟩
        have n0_ := Aside0.mk (Kd.R_below (kr_ HO401) hb)
        have n1_ := Aside0.mk (Kd.R_below (kr_ HO404) hb)
        have n2_ := Aside0.mk (Kd.R_below (kr_ HO409) hb)
        have n3_ := Aside0.mk (Kd.R_below (kr_ HO412) hb)
        have n4_ := Aside0.mk (Kd.R_below (kr_ HO416) hb)
        have n5_ := Aside0.mk (Kd.R_below (kr_ HO419) hb)
        have n6_ := Aside0.mk (Kd.R_below (kr_ HO425) hb)
        have n7_ := Aside0.mk (Kd.R_below (kr_ HO428) hb)
        have n8_ := Aside0.mk (Kd.R_below (kr_ HO433) hb)
        have n9_ := Aside0.mk (Kd.R_below (kr_ HO436) hb)
        have n10_ := Aside0.mk (blk_below (kb_ BK397) hb)
        have n11_ := Aside0.mk (blk_below (kb_ BK413) hb)
        have n12_ := Aside0.mk (blk_below (kb_ BK420) hb)
        have n13_ := Aside0.mk (blk_below (kb_ BK429) hb)
        have n14_ := Aside0.mk (below_step bb_ hb)
        clear HO401
        clear HO404
        clear HO409
        clear HO412
        clear HO416
        clear HO419
        clear HO425
        clear HO428
        clear HO433
        clear HO436
        clear BK397
        clear BK413
        clear BK420
        clear BK429
        clear HB
        have HO401 := n0_
        have HO404 := n1_
        have HO409 := n2_
        have HO412 := n3_
        have HO416 := n4_
        have HO419 := n5_
        have HO425 := n6_
        have HO428 := n7_
        have HO433 := n8_
        have HO436 := n9_
        have BK397 := n10_
        have BK413 := n11_
        have BK420 := n12_
        have BK429 := n13_
        have HB := n14_
        clear n0_ n1_ n2_ n3_ n4_ n5_ n6_ n7_ n8_ n9_ n10_ n11_ n12_ n13_ n14_
        (try clear hb)
        (try clear hb2)
        (try clear hk)
        (try clear hi)
        refine hK.out _ _ ⟨(blk_cell BK420.out 0).trans rfl, (blk_cell BK420.out 1).trans rfl, (blk_cell BK397.out 0).trans rfl, (blk_cell BK397.out 1).trans rfl⟩ (fun hHeld => ?_)
        clear hK K
        refine norm_ (a' := ?_) ?_ ?_
        rotate_left
        · show Act.put _ (some 34) _ = _
          simp only [Act.put, List.setIfInBounds_toArray, List.set_cons_zero, List.set_cons_succ, i64_w, i32_w]
          rfl
        refine pure_ (i := 4) (N := some 35) (v := ?_) (a' := ?_) #[true, true, true, true, true] rfl rfl (by kernel_rfl) (fun _ _ _ h => h) (Or.inl ⟨by rfl, ?_⟩) ?_ ?_
        rotate_left
        · intro w'
          go_simp
          (first | with_reducible rfl | (unfold Instr.field; go_simp; simp only [asAgg]; go_simp; with_reducible rfl))
        rotate_left
        · simp only [Act.put, List.setIfInBounds_toArray, List.set_cons_zero, List.set_cons_succ, i64_w, i32_w]
          rfl
        refine done_ (by kernel_rfl) ?_
        obtain ⟨hcz57_0, hcz57_1, hfz57_0, hfz57_1⟩ := cf2_ BK420
        go_upto_region 14 with (first | ((with_reducible refine gate_callee (f := 21) rfl ?_); refine goe_ (some 38) Try.func21 #[.agg #[.slice Ao35 t414.length co35, .slice Ao39 t417.length co39], .int .i64 1] ?_; (with_reducible refine (laws_markJournal.calls k (fun k_ => some k_ = (.slice Ao35 t414.length co35 : Value).ownBlock) (.slice Ao35 t414.length co35) t414 (fun k_ => some k_ = (.slice Ao39 t417.length co39 : Value).ownBlock) (.slice Ao39 t417.length co39) t417 1 t438 t439 t440 w _ ?side1 ?side2 ?side3 ?side4 ?side5 A17.out).mono ?_); (case side1 => exact bb_); (case side2 => exact Kd.R_tight rfl HO416.out); (case side3 => exact fun k_ e_ => (HO416.out.1 k_ e_.symm).1.1.1.1.2.2.2.2); (case side4 => exact Kd.R_tight rfl HO419.out); (case side5 => exact fun k_ e_ => (HO419.out.1 k_ e_.symm).1.1.1.1.2.2.2.2); rintro e w58 ⟨rfl, hy0, hy1, hb, hkp⟩; refine ⟨_, rfl, ?_⟩; replace BK397 := Aside0.mk (blk_kept (by (with_reducible repeat (first | refine blk_drewN ?_ _ | refine blk_drew ?_ | refine blk_alloc ?_ _)); exact BK397.out) hkp (fun hs_ => Or.elim hs_ (fun e_ => (fun e_ => (Kd.R_ne HO416.out BK397.out (by decide)) e_) e_) (fun e_ => (fun e_ => (Kd.R_ne HO419.out BK397.out (by decide)) e_) e_))); replace HO401 := Aside0.mk (Kd.R_mono (ok' := fun k_ => some k_ ≠ (.slice Ao25 t402.length co25 : Value).ownBlock ∧ some k_ ≠ (.slice Ao30 t407.length co30 : Value).ownBlock ∧ some k_ ≠ (.slice Ao31 t410.length co31 : Value).ownBlock ∧ some k_ ≠ (.slice Ao35 t414.length co35 : Value).ownBlock ∧ some k_ ≠ (.slice Ao39 t417.length co39 : Value).ownBlock ∧ some k_ ≠ (.slice Ao48 t423.length co48 : Value).ownBlock ∧ some k_ ≠ (.slice Ao49 t426.length co49 : Value).ownBlock ∧ some k_ ≠ (.slice Ao54 t431.length co54 : Value).ownBlock ∧ some k_ ≠ (.slice Ao55 t434.length co55 : Value).ownBlock) (Kd.R_keptB (HO401.out) hkp (fun k_ hk_ hs_ => Or.elim hs_ (fun e_ => (hk_.1.1.1.1.2.2.2.1) e_) (fun e_ => (hk_.1.1.1.1.2.2.2.2) e_))) (fun k_ hk_ => ⟨hk_.1.1.1.1.1.1, hk_.1.1.1.1.1.2.1, hk_.1.1.1.1.1.2.2.1, hk_.1.1.1.1.1.2.2.2.1, hk_.1.1.1.1.1.2.2.2.2, hk_.1.1.1.1.2, hk_.1.1.1.2, hk_.1.1.2, hk_.1.2⟩)); replace HO404 := Aside0.mk (Kd.R_mono (ok' := fun k_ => some k_ ≠ (.slice Ao24 t399.length co24 : Value).ownBlock ∧ some k_ ≠ (.slice Ao30 t407.length co30 : Value).ownBlock ∧ some k_ ≠ (.slice Ao31 t410.length co31 : Value).ownBlock ∧ some k_ ≠ (.slice Ao35 t414.length co35 : Value).ownBlock ∧ some k_ ≠ (.slice Ao39 t417.length co39 : Value).ownBlock ∧ some k_ ≠ (.slice Ao48 t423.length co48 : Value).ownBlock ∧ some k_ ≠ (.slice Ao49 t426.length co49 : Value).ownBlock ∧ some k_ ≠ (.slice Ao54 t431.length co54 : Value).ownBlock ∧ some k_ ≠ (.slice Ao55 t434.length co55 : Value).ownBlock) (Kd.R_keptB (HO404.out) hkp (fun k_ hk_ hs_ => Or.elim hs_ (fun e_ => (hk_.1.1.1.1.2.2.2.1) e_) (fun e_ => (hk_.1.1.1.1.2.2.2.2) e_))) (fun k_ hk_ => ⟨hk_.1.1.1.1.1.1, hk_.1.1.1.1.1.2.1, hk_.1.1.1.1.1.2.2.1, hk_.1.1.1.1.1.2.2.2.1, hk_.1.1.1.1.1.2.2.2.2, hk_.1.1.1.1.2, hk_.1.1.1.2, hk_.1.1.2, hk_.1.2⟩)); replace HO409 := Aside0.mk (Kd.R_mono (ok' := fun k_ => some k_ ≠ (.slice Ao24 t399.length co24 : Value).ownBlock ∧ some k_ ≠ (.slice Ao25 t402.length co25 : Value).ownBlock ∧ some k_ ≠ (.slice Ao31 t410.length co31 : Value).ownBlock ∧ some k_ ≠ (.slice Ao35 t414.length co35 : Value).ownBlock ∧ some k_ ≠ (.slice Ao39 t417.length co39 : Value).ownBlock ∧ some k_ ≠ (.slice Ao48 t423.length co48 : Value).ownBlock ∧ some k_ ≠ (.slice Ao49 t426.length co49 : Value).ownBlock ∧ some k_ ≠ (.slice Ao54 t431.length co54 : Value).ownBlock ∧ some k_ ≠ (.slice Ao55 t434.length co55 : Value).ownBlock) (Kd.R_keptB (HO409.out) hkp (fun k_ hk_ hs_ => Or.elim hs_ (fun e_ => (hk_.1.1.1.1.2.2.2.1) e_) (fun e_ => (hk_.1.1.1.1.2.2.2.2) e_))) (fun k_ hk_ => ⟨hk_.1.1.1.1.1.1, hk_.1.1.1.1.1.2.1, hk_.1.1.1.1.1.2.2.1, hk_.1.1.1.1.1.2.2.2.1, hk_.1.1.1.1.1.2.2.2.2, hk_.1.1.1.1.2, hk_.1.1.1.2, hk_.1.1.2, hk_.1.2⟩)); replace HO412 := Aside0.mk (Kd.R_mono (ok' := fun k_ => some k_ ≠ (.slice Ao24 t399.length co24 : Value).ownBlock ∧ some k_ ≠ (.slice Ao25 t402.length co25 : Value).ownBlock ∧ some k_ ≠ (.slice Ao30 t407.length co30 : Value).ownBlock ∧ some k_ ≠ (.slice Ao35 t414.length co35 : Value).ownBlock ∧ some k_ ≠ (.slice Ao39 t417.length co39 : Value).ownBlock ∧ some k_ ≠ (.slice Ao48 t423.length co48 : Value).ownBlock ∧ some k_ ≠ (.slice Ao49 t426.length co49 : Value).ownBlock ∧ some k_ ≠ (.slice Ao54 t431.length co54 : Value).ownBlock ∧ some k_ ≠ (.slice Ao55 t434.length co55 : Value).ownBlock) (Kd.R_keptB (HO412.out) hkp (fun k_ hk_ hs_ => Or.elim hs_ (fun e_ => (hk_.1.1.1.1.2.2.2.1) e_) (fun e_ => (hk_.1.1.1.1.2.2.2.2) e_))) (fun k_ hk_ => ⟨hk_.1.1.1.1.1.1, hk_.1.1.1.1.1.2.1, hk_.1.1.1.1.1.2.2.1, hk_.1.1.1.1.1.2.2.2.1, hk_.1.1.1.1.1.2.2.2.2, hk_.1.1.1.1.2, hk_.1.1.1.2, hk_.1.1.2, hk_.1.2⟩)); replace BK413 := Aside0.mk (blk_kept (by (with_reducible repeat (first | refine blk_drewN ?_ _ | refine blk_drew ?_ | refine blk_alloc ?_ _)); exact BK413.out) hkp (fun hs_ => Or.elim hs_ (fun e_ => (fun e_ => (Kd.R_ne HO416.out BK413.out (by decide)) e_) e_) (fun e_ => (fun e_ => (Kd.R_ne HO419.out BK413.out (by decide)) e_) e_))); replace BK420 := Aside0.mk (blk_kept (by (with_reducible repeat (first | refine blk_drewN ?_ _ | refine blk_drew ?_ | refine blk_alloc ?_ _)); exact BK420.out) hkp (fun hs_ => Or.elim hs_ (fun e_ => (fun e_ => (Kd.R_ne HO416.out BK420.out (by decide)) e_) e_) (fun e_ => (fun e_ => (Kd.R_ne HO419.out BK420.out (by decide)) e_) e_))); replace HO425 := Aside0.mk (Kd.R_mono (ok' := fun k_ => some k_ ≠ (.slice Ao24 t399.length co24 : Value).ownBlock ∧ some k_ ≠ (.slice Ao25 t402.length co25 : Value).ownBlock ∧ some k_ ≠ (.slice Ao30 t407.length co30 : Value).ownBlock ∧ some k_ ≠ (.slice Ao31 t410.length co31 : Value).ownBlock ∧ some k_ ≠ (.slice Ao35 t414.length co35 : Value).ownBlock ∧ some k_ ≠ (.slice Ao39 t417.length co39 : Value).ownBlock ∧ some k_ ≠ (.slice Ao49 t426.length co49 : Value).ownBlock ∧ some k_ ≠ (.slice Ao54 t431.length co54 : Value).ownBlock ∧ some k_ ≠ (.slice Ao55 t434.length co55 : Value).ownBlock) (Kd.R_keptB (HO425.out) hkp (fun k_ hk_ hs_ => Or.elim hs_ (fun e_ => (hk_.1.1.1.2) e_) (fun e_ => (hk_.1.1.2) e_))) (fun k_ hk_ => ⟨hk_.1.1.1.1.1.1.1.1.2, hk_.1.1.1.1.1.1.1.2, hk_.1.1.1.1.1.1.2, hk_.1.1.1.1.1.2, hk_.1.1.1.1.2, hk_.1.1.1.2, hk_.1.1.1.1.1.1.1.1.1, hk_.1.1.2, hk_.1.2⟩)); replace HO428 := Aside0.mk (Kd.R_mono (ok' := fun k_ => some k_ ≠ (.slice Ao24 t399.length co24 : Value).ownBlock ∧ some k_ ≠ (.slice Ao25 t402.length co25 : Value).ownBlock ∧ some k_ ≠ (.slice Ao30 t407.length co30 : Value).ownBlock ∧ some k_ ≠ (.slice Ao31 t410.length co31 : Value).ownBlock ∧ some k_ ≠ (.slice Ao35 t414.length co35 : Value).ownBlock ∧ some k_ ≠ (.slice Ao39 t417.length co39 : Value).ownBlock ∧ some k_ ≠ (.slice Ao48 t423.length co48 : Value).ownBlock ∧ some k_ ≠ (.slice Ao54 t431.length co54 : Value).ownBlock ∧ some k_ ≠ (.slice Ao55 t434.length co55 : Value).ownBlock) (Kd.R_keptB (HO428.out) hkp (fun k_ hk_ hs_ => Or.elim hs_ (fun e_ => (hk_.1.1.1.2) e_) (fun e_ => (hk_.1.1.2) e_))) (fun k_ hk_ => ⟨hk_.1.1.1.1.1.1.1.1.2, hk_.1.1.1.1.1.1.1.2, hk_.1.1.1.1.1.1.2, hk_.1.1.1.1.1.2, hk_.1.1.1.1.2, hk_.1.1.1.2, hk_.1.1.1.1.1.1.1.1.1, hk_.1.1.2, hk_.1.2⟩)); replace BK429 := Aside0.mk (blk_kept (by (with_reducible repeat (first | refine blk_drewN ?_ _ | refine blk_drew ?_ | refine blk_alloc ?_ _)); exact BK429.out) hkp (fun hs_ => Or.elim hs_ (fun e_ => (fun e_ => (Kd.R_ne HO416.out BK429.out (by decide)) e_) e_) (fun e_ => (fun e_ => (Kd.R_ne HO419.out BK429.out (by decide)) e_) e_))); replace HO416 := Aside0.mk (Kd.R_reok rfl hy0 (fun k_ e_ => HO416.out.1 k_ e_)); replace HO419 := Aside0.mk (Kd.R_reok rfl hy1 (fun k_ e_ => HO419.out.1 k_ e_)); replace HO433 := Aside0.mk (Kd.R_mono (ok' := fun k_ => some k_ ≠ (.slice Ao24 t399.length co24 : Value).ownBlock ∧ some k_ ≠ (.slice Ao25 t402.length co25 : Value).ownBlock ∧ some k_ ≠ (.slice Ao30 t407.length co30 : Value).ownBlock ∧ some k_ ≠ (.slice Ao31 t410.length co31 : Value).ownBlock ∧ some k_ ≠ (.slice Ao35 t414.length co35 : Value).ownBlock ∧ some k_ ≠ (.slice Ao39 t417.length co39 : Value).ownBlock ∧ some k_ ≠ (.slice Ao48 t423.length co48 : Value).ownBlock ∧ some k_ ≠ (.slice Ao49 t426.length co49 : Value).ownBlock ∧ some k_ ≠ (.slice Ao55 t434.length co55 : Value).ownBlock) (Kd.R_keptB (HO433.out) hkp (fun k_ hk_ hs_ => Or.elim hs_ (fun e_ => (hk_.1.1.1.2) e_) (fun e_ => (hk_.1.1.2) e_))) (fun k_ hk_ => ⟨hk_.1.1.1.1.1.1.1.1.2, hk_.1.1.1.1.1.1.1.2, hk_.1.1.1.1.1.1.2, hk_.1.1.1.1.1.2, hk_.1.1.1.1.2, hk_.1.1.1.2, hk_.1.1.2, hk_.1.2, hk_.1.1.1.1.1.1.1.1.1⟩)); replace HO436 := Aside0.mk (Kd.R_mono (ok' := fun k_ => some k_ ≠ (.slice Ao24 t399.length co24 : Value).ownBlock ∧ some k_ ≠ (.slice Ao25 t402.length co25 : Value).ownBlock ∧ some k_ ≠ (.slice Ao30 t407.length co30 : Value).ownBlock ∧ some k_ ≠ (.slice Ao31 t410.length co31 : Value).ownBlock ∧ some k_ ≠ (.slice Ao35 t414.length co35 : Value).ownBlock ∧ some k_ ≠ (.slice Ao39 t417.length co39 : Value).ownBlock ∧ some k_ ≠ (.slice Ao48 t423.length co48 : Value).ownBlock ∧ some k_ ≠ (.slice Ao49 t426.length co49 : Value).ownBlock ∧ some k_ ≠ (.slice Ao54 t431.length co54 : Value).ownBlock) (Kd.R_keptB (HO436.out) hkp (fun k_ hk_ hs_ => Or.elim hs_ (fun e_ => (hk_.1.1.1.2) e_) (fun e_ => (hk_.1.1.2) e_))) (fun k_ hk_ => ⟨hk_.1.1.1.1.1.1.1.1.2, hk_.1.1.1.1.1.1.1.2, hk_.1.1.1.1.1.1.2, hk_.1.1.1.1.1.2, hk_.1.1.1.1.2, hk_.1.1.1.2, hk_.1.1.2, hk_.1.2, hk_.1.1.1.1.1.1.1.1.1⟩)); replace HB := Aside0.mk (hb); (try clear hb); (try clear hkp); (try clear hy0); (try clear hy1)))
        (try simp only [Act.put, List.setIfInBounds_toArray, List.set_cons_zero, List.set_cons_succ])
        go_cut [46] (fun v46 wc => ∃ (kq : Nat) (x46_17 : Bool), v46 = .bool x46_17 ∧ Aside0 (laws_FnExactCrashJournal.j0 kq a1 x46_17 l0_0 l0_1 t405 t406 t407 t410 t421 t422 t423 t426 = some true) ∧ Aside0 (kq ≤ k) ∧ Aside0 (Kd.R (Kd.int .u8) 5 wc w.heap.size (fun k_ => some k_ ≠ ((.slice Ao31 t410.length co31) : Value).ownBlock ∧ some k_ ≠ ((.slice Ao35 t414.length co35) : Value).ownBlock ∧ some k_ ≠ ((.slice Ao39 t417.length co39) : Value).ownBlock ∧ some k_ ≠ ((.slice Ao48 t423.length co48) : Value).ownBlock ∧ some k_ ≠ ((.slice Ao49 t426.length co49) : Value).ownBlock) (.slice Ao30 t407.length co30) t407) ∧ Aside0 (Kd.R (Kd.int .u8) 5 wc w.heap.size (fun k_ => some k_ ≠ ((.slice Ao30 t407.length co30) : Value).ownBlock ∧ some k_ ≠ ((.slice Ao35 t414.length co35) : Value).ownBlock ∧ some k_ ≠ ((.slice Ao39 t417.length co39) : Value).ownBlock ∧ some k_ ≠ ((.slice Ao48 t423.length co48) : Value).ownBlock ∧ some k_ ≠ ((.slice Ao49 t426.length co49) : Value).ownBlock) (.slice Ao31 t410.length co31) t410) ∧ Aside0 (Kd.R (Kd.int .u8) 5 wc w.heap.size (fun k_ => some k_ ≠ ((.slice Ao30 t407.length co30) : Value).ownBlock ∧ some k_ ≠ ((.slice Ao31 t410.length co31) : Value).ownBlock ∧ some k_ ≠ ((.slice Ao39 t417.length co39) : Value).ownBlock ∧ some k_ ≠ ((.slice Ao48 t423.length co48) : Value).ownBlock ∧ some k_ ≠ ((.slice Ao49 t426.length co49) : Value).ownBlock) (.slice Ao35 t414.length co35) t439) ∧ Aside0 (Kd.R (Kd.int .u8) 5 wc w.heap.size (fun k_ => some k_ ≠ ((.slice Ao30 t407.length co30) : Value).ownBlock ∧ some k_ ≠ ((.slice Ao31 t410.length co31) : Value).ownBlock ∧ some k_ ≠ ((.slice Ao35 t414.length co35) : Value).ownBlock ∧ some k_ ≠ ((.slice Ao48 t423.length co48) : Value).ownBlock ∧ some k_ ≠ ((.slice Ao49 t426.length co49) : Value).ownBlock) (.slice Ao39 t417.length co39) t440) ∧ Aside0 (Kd.R (Kd.int .u8) 5 wc w.heap.size (fun k_ => some k_ ≠ ((.slice Ao30 t407.length co30) : Value).ownBlock ∧ some k_ ≠ ((.slice Ao31 t410.length co31) : Value).ownBlock ∧ some k_ ≠ ((.slice Ao35 t414.length co35) : Value).ownBlock ∧ some k_ ≠ ((.slice Ao39 t417.length co39) : Value).ownBlock ∧ some k_ ≠ ((.slice Ao49 t426.length co49) : Value).ownBlock) (.slice Ao48 t423.length co48) t423) ∧ Aside0 (Kd.R (Kd.int .u8) 5 wc w.heap.size (fun k_ => some k_ ≠ ((.slice Ao30 t407.length co30) : Value).ownBlock ∧ some k_ ≠ ((.slice Ao31 t410.length co31) : Value).ownBlock ∧ some k_ ≠ ((.slice Ao35 t414.length co35) : Value).ownBlock ∧ some k_ ≠ ((.slice Ao39 t417.length co39) : Value).ownBlock ∧ some k_ ≠ ((.slice Ao48 t423.length co48) : Value).ownBlock) (.slice Ao49 t426.length co49) t426) ∧ Aside0 (wc.heap[gb397]? = some (.cells #[(.slice A0_0 l0_0.length c0_0), (.slice A0_1 l0_1.length c0_1)] 24 (0, 0))) ∧ Aside0 (wc.heap[gb413]? = some (.cells #[.int .i64 t405, .int .i64 t406, (.slice Ao30 t407.length co30), (.slice Ao31 t410.length co31)] 28 (0, 0))) ∧ Aside0 (wc.heap[gb420]? = some (.cells #[(.slice Ao35 t414.length co35), (.slice Ao39 t417.length co39)] 26 (0, 0))) ∧ Aside0 (wc.heap[gb429]? = some (.cells #[.int .i64 t421, .int .i64 t422, (.slice Ao48 t423.length co48), (.slice Ao49 t426.length co49)] 28 (0, 0))) ∧ Aside0 (Below w.heap.size w wc))
        case first =>
          have H := HC18.out
          clear HC18
          by_cases c59 : t438 < 0
          · rw [if_pos c59] at H
            have c59b0 : decide (t438 < 0) = true := decide_eq_true c59
            clear c59
            (first | rw [c59b0] | (simp only [i64_w, i32_w]; rw [c59b0]) | skip)
            have H' := Aside0.mk H
            clear H
            go_wp2
            go_meet
            case rel => exact ⟨_, (true), sd_, H', ⟨ol_⟩, ⟨by (with_reducible repeat (first | apply Kd.R_alloc | apply Kd.R_drewN | apply Kd.R_drew)); exact Kd.R_mono HO409.out (fun _ hk => ⟨hk.2.2.1, ⟨hk.2.2.2.1, ⟨hk.2.2.2.2.1, ⟨hk.2.2.2.2.2.1, hk.2.2.2.2.2.2.1⟩⟩⟩⟩)⟩, ⟨by (with_reducible repeat (first | apply Kd.R_alloc | apply Kd.R_drewN | apply Kd.R_drew)); exact Kd.R_mono HO412.out (fun _ hk => ⟨hk.2.2.1, ⟨hk.2.2.2.1, ⟨hk.2.2.2.2.1, ⟨hk.2.2.2.2.2.1, hk.2.2.2.2.2.2.1⟩⟩⟩⟩)⟩, ⟨by (with_reducible repeat (first | apply Kd.R_alloc | apply Kd.R_drewN | apply Kd.R_drew)); exact Kd.R_mono HO416.out (fun _ hk => ⟨hk.1.1.1.1.2.2.1, ⟨hk.1.1.1.1.2.2.2.1, ⟨hk.1.1.1.1.2.2.2.2, ⟨hk.1.1.1.2, hk.1.1.2⟩⟩⟩⟩)⟩, ⟨by (with_reducible repeat (first | apply Kd.R_alloc | apply Kd.R_drewN | apply Kd.R_drew)); exact Kd.R_mono HO419.out (fun _ hk => ⟨hk.1.1.1.1.2.2.1, ⟨hk.1.1.1.1.2.2.2.1, ⟨hk.1.1.1.1.2.2.2.2, ⟨hk.1.1.1.2, hk.1.1.2⟩⟩⟩⟩)⟩, ⟨by (with_reducible repeat (first | apply Kd.R_alloc | apply Kd.R_drewN | apply Kd.R_drew)); exact Kd.R_mono HO425.out (fun _ hk => ⟨hk.2.2.1, ⟨hk.2.2.2.1, ⟨hk.2.2.2.2.1, ⟨hk.2.2.2.2.2.1, hk.2.2.2.2.2.2.1⟩⟩⟩⟩)⟩, ⟨by (with_reducible repeat (first | apply Kd.R_alloc | apply Kd.R_drewN | apply Kd.R_drew)); exact Kd.R_mono HO428.out (fun _ hk => ⟨hk.2.2.1, ⟨hk.2.2.2.1, ⟨hk.2.2.2.2.1, ⟨hk.2.2.2.2.2.1, hk.2.2.2.2.2.2.1⟩⟩⟩⟩)⟩, ⟨by (with_reducible repeat (first | refine blk_drewN ?_ _ | refine blk_drew ?_ | refine blk_alloc ?_ _)); exact BK397.out⟩, ⟨by (with_reducible repeat (first | refine blk_drewN ?_ _ | refine blk_drew ?_ | refine blk_alloc ?_ _)); exact BK413.out⟩, ⟨by (with_reducible repeat (first | refine blk_drewN ?_ _ | refine blk_drew ?_ | refine blk_alloc ?_ _)); exact BK420.out⟩, ⟨by (with_reducible repeat (first | refine blk_drewN ?_ _ | refine blk_drew ?_ | refine blk_alloc ?_ _)); exact BK429.out⟩, ⟨bb_⟩⟩
          · rw [if_neg c59] at H
            have c59b0 : decide (t438 < 0) = false := decide_eq_false c59
            clear c59
            (first | rw [c59b0] | (simp only [i64_w, i32_w]; rw [c59b0]) | skip)
            replace H := Option.bind_eq_some_iff.mp H
            obtain ⟨t441, A600, H⟩ := H
            replace H : (laws_FnExactCrashJournal.j0 k a1 (!t441) l0_0 l0_1 t405 t406 t407 t410 t421 t422 t423 t426) = some true := H
            have A60 := Aside0.mk A600
            clear A600
            have H' := Aside0.mk H
            clear H
            have hnb61 := NB429_397.out
            have hnc61 := NB397_429.out
            have hnb62 := NB429_413.out
            have hnc62 := NB413_429.out
            have hnb63 := NB429_420.out
            have hnc63 := NB420_429.out
            obtain ⟨hcz64_0, hcz64_1, hcz64_2, hcz64_3, hfz64_0, hfz64_1, hfz64_2, hfz64_3⟩ := cf4_ BK429
            have hnb65 := NB413_397.out
            have hnc65 := NB397_413.out
            have hnb66 := NB413_420.out
            have hnc66 := NB420_413.out
            obtain ⟨hcz67_0, hcz67_1, hcz67_2, hcz67_3, hfz67_0, hfz67_1, hfz67_2, hfz67_3⟩ := cf4_ BK413
            go_wp2_with (first | (go_at_call 19; (with_reducible refine (laws_eqJournalResult.calls k t421 t422 _ _ t423 _ _ t426 t405 t406 _ _ t407 _ _ t410 t441 _ ?side1 ?side2 ?side3 ?side4 ?side5 ?side6 ?side7 ?side8 A60.out).mono ?_); (case side1 => exact kc_ ((Kd.R_reads' HO425.out).2.2)); (case side2 => exact (Kd.R_reads' HO425.out).2.1); (case side3 => exact kc_ ((Kd.R_reads' HO428.out).2.2)); (case side4 => exact (Kd.R_reads' HO428.out).2.1); (case side5 => exact kc_ ((Kd.R_reads' HO409.out).2.2)); (case side6 => exact (Kd.R_reads' HO409.out).2.1); (case side7 => exact kc_ ((Kd.R_reads' HO412.out).2.2)); (case side8 => exact (Kd.R_reads' HO412.out).2.1); rintro e w68 ⟨rfl, hb⟩; replace HO401 := Aside0.mk (Kd.R_below (kr_ HO401) hb); replace HO404 := Aside0.mk (Kd.R_below (kr_ HO404) hb); replace HO409 := Aside0.mk (Kd.R_below (kr_ HO409) hb); replace HO412 := Aside0.mk (Kd.R_below (kr_ HO412) hb); replace HO416 := Aside0.mk (Kd.R_below (kr_ HO416) hb); replace HO419 := Aside0.mk (Kd.R_below (kr_ HO419) hb); replace HO425 := Aside0.mk (Kd.R_below (kr_ HO425) hb); replace HO428 := Aside0.mk (Kd.R_below (kr_ HO428) hb); replace HO433 := Aside0.mk (Kd.R_below (kr_ HO433) hb); replace HO436 := Aside0.mk (Kd.R_below (kr_ HO436) hb); replace BK397 := Aside0.mk (blk_below (kb_ BK397) hb); replace BK413 := Aside0.mk (blk_below (kb_ BK413) hb); replace BK420 := Aside0.mk (blk_below (kb_ BK420) hb); replace BK429 := Aside0.mk (blk_below (kb_ BK429) hb); replace HB := Aside0.mk (below_step bb_ hb); (try clear hb); (try clear hb2); (try clear hk); (try clear hi)))
            go_meet
            case rel => exact ⟨_, (!t441), sd_, H', ⟨ol_⟩, ⟨by (with_reducible repeat (first | apply Kd.R_alloc | apply Kd.R_drewN | apply Kd.R_drew)); exact Kd.R_mono HO409.out (fun _ hk => ⟨hk.2.2.1, ⟨hk.2.2.2.1, ⟨hk.2.2.2.2.1, ⟨hk.2.2.2.2.2.1, hk.2.2.2.2.2.2.1⟩⟩⟩⟩)⟩, ⟨by (with_reducible repeat (first | apply Kd.R_alloc | apply Kd.R_drewN | apply Kd.R_drew)); exact Kd.R_mono HO412.out (fun _ hk => ⟨hk.2.2.1, ⟨hk.2.2.2.1, ⟨hk.2.2.2.2.1, ⟨hk.2.2.2.2.2.1, hk.2.2.2.2.2.2.1⟩⟩⟩⟩)⟩, ⟨by (with_reducible repeat (first | apply Kd.R_alloc | apply Kd.R_drewN | apply Kd.R_drew)); exact Kd.R_mono HO416.out (fun _ hk => ⟨hk.1.1.1.1.2.2.1, ⟨hk.1.1.1.1.2.2.2.1, ⟨hk.1.1.1.1.2.2.2.2, ⟨hk.1.1.1.2, hk.1.1.2⟩⟩⟩⟩)⟩, ⟨by (with_reducible repeat (first | apply Kd.R_alloc | apply Kd.R_drewN | apply Kd.R_drew)); exact Kd.R_mono HO419.out (fun _ hk => ⟨hk.1.1.1.1.2.2.1, ⟨hk.1.1.1.1.2.2.2.1, ⟨hk.1.1.1.1.2.2.2.2, ⟨hk.1.1.1.2, hk.1.1.2⟩⟩⟩⟩)⟩, ⟨by (with_reducible repeat (first | apply Kd.R_alloc | apply Kd.R_drewN | apply Kd.R_drew)); exact Kd.R_mono HO425.out (fun _ hk => ⟨hk.2.2.1, ⟨hk.2.2.2.1, ⟨hk.2.2.2.2.1, ⟨hk.2.2.2.2.2.1, hk.2.2.2.2.2.2.1⟩⟩⟩⟩)⟩, ⟨by (with_reducible repeat (first | apply Kd.R_alloc | apply Kd.R_drewN | apply Kd.R_drew)); exact Kd.R_mono HO428.out (fun _ hk => ⟨hk.2.2.1, ⟨hk.2.2.2.1, ⟨hk.2.2.2.2.1, ⟨hk.2.2.2.2.2.1, hk.2.2.2.2.2.2.1⟩⟩⟩⟩)⟩, ⟨by (with_reducible repeat (first | refine blk_drewN ?_ _ | refine blk_drew ?_ | refine blk_alloc ?_ _)); exact BK397.out⟩, ⟨by (with_reducible repeat (first | refine blk_drewN ?_ _ | refine blk_drew ?_ | refine blk_alloc ?_ _)); exact BK413.out⟩, ⟨by (with_reducible repeat (first | refine blk_drewN ?_ _ | refine blk_drew ?_ | refine blk_alloc ?_ _)); exact BK420.out⟩, ⟨by (with_reducible repeat (first | refine blk_drewN ?_ _ | refine blk_drew ?_ | refine blk_alloc ?_ _)); exact BK429.out⟩, ⟨bb_⟩⟩
        case rest =>
          clear HC18
          try clear c1
          try clear c2
          try clear p2
          try clear c3
          try clear c4
          try clear c4b0
          try clear c5
          try clear c6
          try clear c13
          try clear c15
          try clear c16
          try clear c17
          try clear c19
          try clear c20
          try clear c21
          try clear c24
          try clear c25
          try clear c28
          try clear c36
          try clear c37
          try clear c44
          try clear c45
          try clear c46
          try clear c59
          try clear c59b0
          try clear c61
          try clear c62
          try clear c63
          try clear c65
          try clear c66
          try clear hcz20_0
          try clear hcz20_1
          try clear hcz22_0
          try clear hcz22_1
          try clear hcz29_0
          try clear hcz29_1
          try clear hcz29_2
          try clear hcz29_3
          try clear hcz32_0
          try clear hcz32_1
          try clear hcz38_0
          try clear hcz38_1
          try clear hcz41_0
          try clear hcz41_1
          try clear hcz47_0
          try clear hcz47_1
          try clear hcz47_2
          try clear hcz47_3
          try clear hcz50_0
          try clear hcz50_1
          try clear hcz50_2
          try clear hcz50_3
          try clear hcz57_0
          try clear hcz57_1
          try clear hcz64_0
          try clear hcz64_1
          try clear hcz64_2
          try clear hcz64_3
          try clear hcz67_0
          try clear hcz67_1
          try clear hcz67_2
          try clear hcz67_3
          try clear hcz6_0
          try clear hcz6_1
          try clear hfz20_0
          try clear hfz20_1
          try clear hfz22_0
          try clear hfz22_1
          try clear hfz29_0
          try clear hfz29_1
          try clear hfz29_2
          try clear hfz29_3
          try clear hfz32_0
          try clear hfz32_1
          try clear hfz38_0
          try clear hfz38_1
          try clear hfz41_0
          try clear hfz41_1
          try clear hfz47_0
          try clear hfz47_1
          try clear hfz47_2
          try clear hfz47_3
          try clear hfz50_0
          try clear hfz50_1
          try clear hfz50_2
          try clear hfz50_3
          try clear hfz57_0
          try clear hfz57_1
          try clear hfz64_0
          try clear hfz64_1
          try clear hfz64_2
          try clear hfz64_3
          try clear hfz67_0
          try clear hfz67_1
          try clear hfz67_2
          try clear hfz67_3
          try clear hfz6_0
          try clear hfz6_1
          obtain ⟨kq, x46_17, rfl, HA, HJ17, HO_414002, HO_414003, HO_421000, HO_421001, HO_430002, HO_430003, BK397, BK413, BK420, BK429, HB⟩ := hcut
          have hl421000_17 := (Kd.R_reads' HO_421000.out).1
          rw [hl421000_17] at HO_421000
          (try simp only [hl421000_17])
          (try simp only [hl421000_17] at BK397)
          (try simp only [hl421000_17] at BK413)
          (try simp only [hl421000_17] at BK420)
          (try simp only [hl421000_17] at BK429)
          (try simp only [hl421000_17] at HO_414002)
          (try simp only [hl421000_17] at HO_414003)
          (try simp only [hl421000_17] at HO_421001)
          (try simp only [hl421000_17] at HO_430002)
          (try simp only [hl421000_17] at HO_430003)
          have hl421001_17 := (Kd.R_reads' HO_421001.out).1
          rw [hl421001_17] at HO_421001
          (try simp only [hl421001_17])
          (try simp only [hl421001_17] at BK397)
          (try simp only [hl421001_17] at BK413)
          (try simp only [hl421001_17] at BK420)
          (try simp only [hl421001_17] at BK429)
          (try simp only [hl421001_17] at HO_414002)
          (try simp only [hl421001_17] at HO_414003)
          (try simp only [hl421001_17] at HO_421000)
          (try simp only [hl421001_17] at HO_430002)
          (try simp only [hl421001_17] at HO_430003)
          cases kq with
          | zero => exact absurd HA.out (by simp [laws_FnExactCrashJournal.j0])
          | succ kj17 =>
            have H := HA.out
            clear HA
            simp only [laws_FnExactCrashJournal.j0] at H
            by_cases c69 : x46_17 = true
            · subst c69
              have H1 : (some false) = some true := by rw [if_pos rfl] at H; exact H
              clear H
              have H := H1
              clear H1
              exact absurd H (by simp)
            · replace c69 := Bool.eq_false_iff.mpr c69
              subst c69
              have H1 : ((laws_markJournalResult.f kj17 t421 t422 t423 t426 1).bind fun bt442 => ((laws_heldJournalResult.f kj17 t421 t422 bt442.2.1 bt442.2.2 1).bind fun t445 => (if t445 < 0 then (some false) else (if t445 = bt442.1 then ((laws_toJournal.f kj17 l0_0 l0_1).bind fun bt446 => ((impl_CrashJournal.f kj17 bt446.1 bt446.2 a1).bind fun bt452 => ((laws_eqJournalResult.f kj17 bt452.1 bt452.2.1 bt452.2.2.1 bt452.2.2.2 t405 t406 t407 t410).bind fun t461 => (if t461 = true then ((laws_heldJournalResult.f kj17 t421 t422 bt442.2.1 bt442.2.2 1).bind fun t462 => (if t462 < 0 then (some false) else (if t462 = bt442.1 then (some true) else (some false)))) else (some false))))) else (some false))))) = some true := by rw [if_neg (show ¬ (false = true) by decide)] at H; exact H
              clear H
              have H := H1
              clear H1
              replace H := Option.bind_eq_some_iff.mp H
              obtain ⟨⟨t442, t443, t444⟩, A700, H⟩ := H
              replace H : ((laws_heldJournalResult.f kj17 t421 t422 t443 t444 1).bind fun t445 => (if t445 < 0 then (some false) else (if t445 = t442 then ((laws_toJournal.f kj17 l0_0 l0_1).bind fun bt446 => ((impl_CrashJournal.f kj17 bt446.1 bt446.2 a1).bind fun bt452 => ((laws_eqJournalResult.f kj17 bt452.1 bt452.2.1 bt452.2.2.1 bt452.2.2.2 t405 t406 t407 t410).bind fun t461 => (if t461 = true then ((laws_heldJournalResult.f kj17 t421 t422 t443 t444 1).bind fun t462 => (if t462 < 0 then (some false) else (if t462 = t442 then (some true) else (some false)))) else (some false))))) else (some false)))) = some true := H
              have A70 := Aside0.mk A700
              clear A700
              replace H := Option.bind_eq_some_iff.mp H
              obtain ⟨t445, A710, H⟩ := H
              replace H : (if t445 < 0 then (some false) else (if t445 = t442 then ((laws_toJournal.f kj17 l0_0 l0_1).bind fun bt446 => ((impl_CrashJournal.f kj17 bt446.1 bt446.2 a1).bind fun bt452 => ((laws_eqJournalResult.f kj17 bt452.1 bt452.2.1 bt452.2.2.1 bt452.2.2.2 t405 t406 t407 t410).bind fun t461 => (if t461 = true then ((laws_heldJournalResult.f kj17 t421 t422 t443 t444 1).bind fun t462 => (if t462 < 0 then (some false) else (if t462 = t442 then (some true) else (some false)))) else (some false))))) else (some false))) = some true := H
              have A71 := Aside0.mk A710
              clear A710
              by_cases c72 : t445 < 0
              · rw [if_pos c72] at H
                have c72b0 : decide (t445 < 0) = true := decide_eq_true c72
                clear c72
                exact absurd H (by simp)
              · rw [if_neg c72] at H
                have c72b0 : decide (t445 < 0) = false := decide_eq_false c72
                clear c72
                by_cases c80 : t445 = t442
                · rw [if_pos c80] at H
                  have c80b0 : (t445 == t442) = true := beq_iff_eq.mpr c80
                  have c80b1 : (t445 != t442) = false := bne_eq_false_iff_eq.mpr c80
                  clear c80
                  replace H := Option.bind_eq_some_iff.mp H
                  obtain ⟨⟨t446, t449⟩, A810, H⟩ := H
                  replace H : ((impl_CrashJournal.f kj17 t446 t449 a1).bind fun bt452 => ((laws_eqJournalResult.f kj17 bt452.1 bt452.2.1 bt452.2.2.1 bt452.2.2.2 t405 t406 t407 t410).bind fun t461 => (if t461 = true then ((laws_heldJournalResult.f kj17 t421 t422 t443 t444 1).bind fun t462 => (if t462 < 0 then (some false) else (if t462 = t442 then (some true) else (some false)))) else (some false)))) = some true := H
                  have A81 := Aside0.mk A810
                  clear A810
                  replace H := Option.bind_eq_some_iff.mp H
                  obtain ⟨⟨t452, t453, t454, t457⟩, A820, H⟩ := H
                  replace H : ((laws_eqJournalResult.f kj17 t452 t453 t454 t457 t405 t406 t407 t410).bind fun t461 => (if t461 = true then ((laws_heldJournalResult.f kj17 t421 t422 t443 t444 1).bind fun t462 => (if t462 < 0 then (some false) else (if t462 = t442 then (some true) else (some false)))) else (some false))) = some true := H
                  have A82 := Aside0.mk A820
                  clear A820
                  replace H := Option.bind_eq_some_iff.mp H
                  obtain ⟨t461, A830, H⟩ := H
                  replace H : (if t461 = true then ((laws_heldJournalResult.f kj17 t421 t422 t443 t444 1).bind fun t462 => (if t462 < 0 then (some false) else (if t462 = t442 then (some true) else (some false)))) else (some false)) = some true := H
                  have A83 := Aside0.mk A830
                  clear A830
                  by_cases c84 : t461 = true
                  · subst c84
                    have H1 : ((laws_heldJournalResult.f kj17 t421 t422 t443 t444 1).bind fun t462 => (if t462 < 0 then (some false) else (if t462 = t442 then (some true) else (some false)))) = some true := by rw [if_pos rfl] at H; exact H
                    clear H
                    have H := H1
                    clear H1
                    replace H := Option.bind_eq_some_iff.mp H
                    obtain ⟨t462, A850, H⟩ := H
                    replace H : (if t462 < 0 then (some false) else (if t462 = t442 then (some true) else (some false))) = some true := H
                    have A85 := Aside0.mk A850
                    clear A850
                    by_cases c86 : t462 < 0
                    · rw [if_pos c86] at H
                      have c86b0 : decide (t462 < 0) = true := decide_eq_true c86
                      clear c86
                      exact absurd H (by simp)
                    · rw [if_neg c86] at H
                      have c86b0 : decide (t462 < 0) = false := decide_eq_false c86
                      clear c86
                      by_cases c114 : t462 = t442
                      · rw [if_pos c114] at H
                        have c114b0 : (t462 == t442) = true := beq_iff_eq.mpr c114
                        have c114b1 : (t462 != t442) = false := bne_eq_false_iff_eq.mpr c114
                        clear c114
                        clear H
                        have hnb115 := NB429_397.out
                        have hnc115 := NB397_429.out
                        have hnb116 := NB429_413.out
                        have hnc116 := NB413_429.out
                        have hnb117 := NB429_420.out
                        have hnc117 := NB420_429.out
                        obtain ⟨hcz118_0, hcz118_1, hcz118_2, hcz118_3, hfz118_0, hfz118_1, hfz118_2, hfz118_3⟩ := cf4_ BK429
                        go_wp2_with (first | ((with_reducible refine gate_callee (f := 22) rfl ?_); refine goe_ (some 49) Try.func22 #[.agg #[.int .i64 t421, .int .i64 t422, .slice Ao48 t423.length co48, .slice Ao49 t426.length co49], .int .i64 1] ?_; (with_reducible refine (laws_markJournalResult.calls kj17 t421 t422 (fun k_ => some k_ = (.slice Ao48 t423.length co48 : Value).ownBlock) (.slice Ao48 t423.length co48) t423 (fun k_ => some k_ = (.slice Ao49 t426.length co49 : Value).ownBlock) (.slice Ao49 t426.length co49) t426 1 t442 t443 t444 w _ ?side1 ?side2 ?side3 ?side4 ?side5 A70.out).mono ?_); (case side1 => exact bb_); (case side2 => exact Kd.R_tight rfl HO_430002.out); (case side3 => exact fun k_ e_ => (HO_430002.out.1 k_ e_.symm).2.2.2.2); (case side4 => exact Kd.R_tight rfl HO_430003.out); (case side5 => exact fun k_ e_ => (HO_430003.out.1 k_ e_.symm).2.2.2.2); rintro e w119 ⟨rfl, hy0, hy1, hb, hkp⟩; refine ⟨_, rfl, ?_⟩; replace HO_414002 := Aside0.mk (Kd.R_mono (ok' := fun k_ => some k_ ≠ (.slice Ao31 t410.length co31 : Value).ownBlock ∧ some k_ ≠ (.slice Ao35 t439.length co35 : Value).ownBlock ∧ some k_ ≠ (.slice Ao39 t440.length co39 : Value).ownBlock ∧ some k_ ≠ (.slice Ao48 t423.length co48 : Value).ownBlock ∧ some k_ ≠ (.slice Ao49 t426.length co49 : Value).ownBlock) (Kd.R_keptB (HO_414002.out) hkp (fun k_ hk_ hs_ => Or.elim hs_ (fun e_ => (hk_.2.2.2.1) e_) (fun e_ => (hk_.2.2.2.2) e_))) (fun k_ hk_ => ⟨hk_.1.1, hk_.1.2.1, hk_.1.2.2.1, hk_.1.2.2.2.1, hk_.1.2.2.2.2⟩)); replace HO_414003 := Aside0.mk (Kd.R_mono (ok' := fun k_ => some k_ ≠ (.slice Ao30 t407.length co30 : Value).ownBlock ∧ some k_ ≠ (.slice Ao35 t439.length co35 : Value).ownBlock ∧ some k_ ≠ (.slice Ao39 t440.length co39 : Value).ownBlock ∧ some k_ ≠ (.slice Ao48 t423.length co48 : Value).ownBlock ∧ some k_ ≠ (.slice Ao49 t426.length co49 : Value).ownBlock) (Kd.R_keptB (HO_414003.out) hkp (fun k_ hk_ hs_ => Or.elim hs_ (fun e_ => (hk_.2.2.2.1) e_) (fun e_ => (hk_.2.2.2.2) e_))) (fun k_ hk_ => ⟨hk_.1.1, hk_.1.2.1, hk_.1.2.2.1, hk_.1.2.2.2.1, hk_.1.2.2.2.2⟩)); replace HO_421000 := Aside0.mk (Kd.R_mono (ok' := fun k_ => some k_ ≠ (.slice Ao30 t407.length co30 : Value).ownBlock ∧ some k_ ≠ (.slice Ao31 t410.length co31 : Value).ownBlock ∧ some k_ ≠ (.slice Ao39 t440.length co39 : Value).ownBlock ∧ some k_ ≠ (.slice Ao48 t423.length co48 : Value).ownBlock ∧ some k_ ≠ (.slice Ao49 t426.length co49 : Value).ownBlock) (Kd.R_keptB (HO_421000.out) hkp (fun k_ hk_ hs_ => Or.elim hs_ (fun e_ => (hk_.2.2.2.1) e_) (fun e_ => (hk_.2.2.2.2) e_))) (fun k_ hk_ => ⟨hk_.1.1, hk_.1.2.1, hk_.1.2.2.1, hk_.1.2.2.2.1, hk_.1.2.2.2.2⟩)); replace HO_421001 := Aside0.mk (Kd.R_mono (ok' := fun k_ => some k_ ≠ (.slice Ao30 t407.length co30 : Value).ownBlock ∧ some k_ ≠ (.slice Ao31 t410.length co31 : Value).ownBlock ∧ some k_ ≠ (.slice Ao35 t439.length co35 : Value).ownBlock ∧ some k_ ≠ (.slice Ao48 t423.length co48 : Value).ownBlock ∧ some k_ ≠ (.slice Ao49 t426.length co49 : Value).ownBlock) (Kd.R_keptB (HO_421001.out) hkp (fun k_ hk_ hs_ => Or.elim hs_ (fun e_ => (hk_.2.2.2.1) e_) (fun e_ => (hk_.2.2.2.2) e_))) (fun k_ hk_ => ⟨hk_.1.1, hk_.1.2.1, hk_.1.2.2.1, hk_.1.2.2.2.1, hk_.1.2.2.2.2⟩)); replace BK397 := Aside0.mk (blk_kept (by (with_reducible repeat (first | refine blk_drewN ?_ _ | refine blk_drew ?_ | refine blk_alloc ?_ _)); exact BK397.out) hkp (fun hs_ => Or.elim hs_ (fun e_ => (fun e_ => (Kd.R_ne HO_430002.out BK397.out (by decide)) e_) e_) (fun e_ => (fun e_ => (Kd.R_ne HO_430003.out BK397.out (by decide)) e_) e_))); replace BK413 := Aside0.mk (blk_kept (by (with_reducible repeat (first | refine blk_drewN ?_ _ | refine blk_drew ?_ | refine blk_alloc ?_ _)); exact BK413.out) hkp (fun hs_ => Or.elim hs_ (fun e_ => (fun e_ => (Kd.R_ne HO_430002.out BK413.out (by decide)) e_) e_) (fun e_ => (fun e_ => (Kd.R_ne HO_430003.out BK413.out (by decide)) e_) e_))); replace BK420 := Aside0.mk (blk_kept (by (with_reducible repeat (first | refine blk_drewN ?_ _ | refine blk_drew ?_ | refine blk_alloc ?_ _)); exact BK420.out) hkp (fun hs_ => Or.elim hs_ (fun e_ => (fun e_ => (Kd.R_ne HO_430002.out BK420.out (by decide)) e_) e_) (fun e_ => (fun e_ => (Kd.R_ne HO_430003.out BK420.out (by decide)) e_) e_))); replace BK429 := Aside0.mk (blk_kept (by (with_reducible repeat (first | refine blk_drewN ?_ _ | refine blk_drew ?_ | refine blk_alloc ?_ _)); exact BK429.out) hkp (fun hs_ => Or.elim hs_ (fun e_ => (fun e_ => (Kd.R_ne HO_430002.out BK429.out (by decide)) e_) e_) (fun e_ => (fun e_ => (Kd.R_ne HO_430003.out BK429.out (by decide)) e_) e_))); replace HO_430002 := Aside0.mk (Kd.R_reok rfl hy0 (fun k_ e_ => HO_430002.out.1 k_ e_)); replace HO_430003 := Aside0.mk (Kd.R_reok rfl hy1 (fun k_ e_ => HO_430003.out.1 k_ e_)); replace HB := Aside0.mk (hb); (try clear hb); (try clear hkp); (try clear hy0); (try clear hy1); obtain ⟨hcz120_0, hcz120_1, hcz120_2, hcz120_3, hfz120_0, hfz120_1, hfz120_2, hfz120_3⟩ := cf4_ BK429) | ((with_reducible refine gate_callee (f := 23) rfl ?_); refine goesL_ (some 52) rfl rfl Try.func23 (by kernel_rfl) rfl #[.agg #[.int .i64 t421, .int .i64 t422, .slice Ao48 t443.length co48, .slice Ao49 t444.length co49], .int .i64 1] rfl (by (try simp only [List.map_toArray, List.map_cons, List.map_nil]); first | done | (rw [show t443.length = t423.length from (Kd.R_reads' HO_430002.out).1.symm, show t444.length = t426.length from (Kd.R_reads' HO_430003.out).1.symm] <;> rfl) | rfl | (simp only [List.length_drop, List.length_take]; rfl)) ?_; (with_reducible refine (laws_heldJournalResult.calls kj17 t421 t422 _ _ t443 _ _ t444 1 t445 _ ?side1 ?side2 ?side3 ?side4 A71.out).mono ?_); (case side1 => exact kc_ ((Kd.R_reads' HO_430002.out).2.2)); (case side2 => rw [show t443.length = t423.length from (Kd.R_reads' HO_430002.out).1.symm]; exact (Kd.R_reads' HO_430002.out).2.1); (case side3 => exact kc_ ((Kd.R_reads' HO_430003.out).2.2)); (case side4 => rw [show t444.length = t426.length from (Kd.R_reads' HO_430003.out).1.symm]; exact (Kd.R_reads' HO_430003.out).2.1); rintro e w121 ⟨rfl, hb⟩; refine ⟨_, rfl, ?_⟩; replace HO_414002 := Aside0.mk (Kd.R_below (kr_ HO_414002) hb); replace HO_414003 := Aside0.mk (Kd.R_below (kr_ HO_414003) hb); replace HO_421000 := Aside0.mk (Kd.R_below (kr_ HO_421000) hb); replace HO_421001 := Aside0.mk (Kd.R_below (kr_ HO_421001) hb); replace HO_430002 := Aside0.mk (Kd.R_below (kr_ HO_430002) hb); replace HO_430003 := Aside0.mk (Kd.R_below (kr_ HO_430003) hb); replace BK397 := Aside0.mk (blk_below (kb_ BK397) hb); replace BK413 := Aside0.mk (blk_below (kb_ BK413) hb); replace BK420 := Aside0.mk (blk_below (kb_ BK420) hb); replace BK429 := Aside0.mk (blk_below (kb_ BK429) hb); replace HB := Aside0.mk (below_step bb_ hb); (try clear hb); (try clear hb2); (try clear hk); (try clear hi); have hnb122 := NB397_413.out; have hnc122 := NB413_397.out; have hnb123 := NB397_420.out; have hnc123 := NB420_397.out; obtain ⟨hcz124_0, hcz124_1, hfz124_0, hfz124_1⟩ := cf2_ BK397) | ((with_reducible refine gate_callee (f := 17) rfl ?_); refine goe_ (some 59) Try.func17 #[.agg #[.slice A0_0 l0_0.length c0_0, .slice A0_1 l0_1.length c0_1]] ?_; (with_reducible refine (laws_toJournal.calls kj17 _ _ l0_0 _ _ l0_1 t446 t449 _ ?side1 ?side2 ?side3 ?side4 A81.out).mono ?_); (case side1 => exact kc_ (Kd.C_below HR0_0.out HB.out)); (case side2 => exact HC0_0.out); (case side3 => exact kc_ (Kd.C_below HR0_1.out HB.out)); (case side4 => exact HC0_1.out); rintro e w125 ⟨v447, v450, rfl, ho0, ho1, hb⟩; refine ⟨_, rfl, ?_⟩; have HO448 := Aside0.mk (Kd.R_lower (Kd.R_new' (Kd.R_new' (Kd.R_new' (Kd.R_new' (Kd.R_new' (Kd.R_new' ho0 (Kd.R_lt (kr_ HO_414002))) (Kd.R_lt (kr_ HO_414003))) (Kd.R_lt (kr_ HO_421000))) (Kd.R_lt (kr_ HO_421001))) (Kd.R_lt (kr_ HO_430002))) (Kd.R_lt (kr_ HO_430003))) (below_size bb_)); have HO451 := Aside0.mk (Kd.R_lower (Kd.R_new' (Kd.R_new' (Kd.R_new' (Kd.R_new' (Kd.R_new' (Kd.R_new' ho1 (Kd.R_lt (kr_ HO_414002))) (Kd.R_lt (kr_ HO_414003))) (Kd.R_lt (kr_ HO_421000))) (Kd.R_lt (kr_ HO_421001))) (Kd.R_lt (kr_ HO_430002))) (Kd.R_lt (kr_ HO_430003))) (below_size bb_)); replace HO_414002 := Aside0.mk (Kd.R_mono (Kd.R_told (Kd.R_told (Kd.R_old (kr_ HO_414002) hb) (Kd.R_base ho0)) (Kd.R_base ho1)) (fun _ h_ => h_.1)); replace HO_414003 := Aside0.mk (Kd.R_mono (Kd.R_told (Kd.R_told (Kd.R_old (kr_ HO_414003) hb) (Kd.R_base ho0)) (Kd.R_base ho1)) (fun _ h_ => h_.1)); replace HO_421000 := Aside0.mk (Kd.R_mono (Kd.R_told (Kd.R_told (Kd.R_old (kr_ HO_421000) hb) (Kd.R_base ho0)) (Kd.R_base ho1)) (fun _ h_ => h_.1)); replace HO_421001 := Aside0.mk (Kd.R_mono (Kd.R_told (Kd.R_told (Kd.R_old (kr_ HO_421001) hb) (Kd.R_base ho0)) (Kd.R_base ho1)) (fun _ h_ => h_.1)); replace HO_430002 := Aside0.mk (Kd.R_mono (Kd.R_told (Kd.R_told (Kd.R_old (kr_ HO_430002) hb) (Kd.R_base ho0)) (Kd.R_base ho1)) (fun _ h_ => h_.1)); replace HO_430003 := Aside0.mk (Kd.R_mono (Kd.R_told (Kd.R_told (Kd.R_old (kr_ HO_430003) hb) (Kd.R_base ho0)) (Kd.R_base ho1)) (fun _ h_ => h_.1)); replace BK397 := Aside0.mk (blk_below (kb_ BK397) hb); replace BK413 := Aside0.mk (blk_below (kb_ BK413) hb); replace BK420 := Aside0.mk (blk_below (kb_ BK420) hb); replace BK429 := Aside0.mk (blk_below (kb_ BK429) hb); replace HB := Aside0.mk (below_step bb_ hb); (try clear hb); (try clear hb2); (try clear hk); (try clear hi); (try clear ho0); (try clear ho1); obtain ⟨Ao126, co126, eo126⟩ := Kd.R_slice HO448.out; subst eo126; obtain ⟨Ao127, co127, eo127⟩ := Kd.R_slice HO451.out; subst eo127) | ((with_reducible refine gate_callee (f := 25) rfl ?_); refine goe_ (some 61) Try.func25 #[.agg #[.slice Ao126 t446.length co126, .slice Ao127 t449.length co127], .int .i64 a1] ?_; (with_reducible refine (impl_CrashJournal.calls kj17 (fun k_ => some k_ = (.slice Ao126 t446.length co126 : Value).ownBlock) _ _ t446 (fun k_ => some k_ = (.slice Ao127 t449.length co127 : Value).ownBlock) _ _ t449 a1 t452 t453 t454 t457 _ ?side1 ?side2 A82.out).mono ?_); (case side1 => exact Kd.R_V (Kd.R_tight rfl (Kd.R_types (Kd.R_types (Kd.R_types (Kd.R_types (HO448.out) BK397.out (by decide)) BK413.out (by decide)) BK420.out (by decide)) BK429.out (by decide)))); (case side2 => exact Kd.R_V (Kd.R_tight rfl (Kd.R_types (Kd.R_types (Kd.R_types (Kd.R_types (HO451.out) BK397.out (by decide)) BK413.out (by decide)) BK420.out (by decide)) BK429.out (by decide)))); rintro e w128 ⟨v455, v458, rfl, ho0, ho1, hb⟩; refine ⟨_, rfl, ?_⟩; have HO456 := Aside0.mk (Kd.R_lower (Kd.R_new' (Kd.R_new' (Kd.R_new' (Kd.R_new' (Kd.R_new' (Kd.R_new' (Kd.R_new' (Kd.R_new' (Kd.R_mono (ok' := fun k_ => some k_ ≠ (v458 : Value).ownBlock) ho0 (fun _ hk_ => hk_.2)) (Kd.R_lt (kr_ HO_414002))) (Kd.R_lt (kr_ HO_414003))) (Kd.R_lt (kr_ HO_421000))) (Kd.R_lt (kr_ HO_421001))) (Kd.R_lt (kr_ HO_430002))) (Kd.R_lt (kr_ HO_430003))) (Kd.R_lt (kr_ HO448))) (Kd.R_lt (kr_ HO451))) (below_size bb_)); have HO459 := Aside0.mk (Kd.R_lower (Kd.R_new' (Kd.R_new' (Kd.R_new' (Kd.R_new' (Kd.R_new' (Kd.R_new' (Kd.R_new' (Kd.R_new' (Kd.R_mono (ok' := fun k_ => some k_ ≠ (v455 : Value).ownBlock) ho1 (fun _ hk_ => hk_.2)) (Kd.R_lt (kr_ HO_414002))) (Kd.R_lt (kr_ HO_414003))) (Kd.R_lt (kr_ HO_421000))) (Kd.R_lt (kr_ HO_421001))) (Kd.R_lt (kr_ HO_430002))) (Kd.R_lt (kr_ HO_430003))) (Kd.R_lt (kr_ HO448))) (Kd.R_lt (kr_ HO451))) (below_size bb_)); replace HO_414002 := Aside0.mk (Kd.R_mono (Kd.R_told (Kd.R_told (Kd.R_old (kr_ HO_414002) hb) (Kd.R_base ho0)) (Kd.R_base ho1)) (fun _ h_ => h_.1)); replace HO_414003 := Aside0.mk (Kd.R_mono (Kd.R_told (Kd.R_told (Kd.R_old (kr_ HO_414003) hb) (Kd.R_base ho0)) (Kd.R_base ho1)) (fun _ h_ => h_.1)); replace HO_421000 := Aside0.mk (Kd.R_mono (Kd.R_told (Kd.R_told (Kd.R_old (kr_ HO_421000) hb) (Kd.R_base ho0)) (Kd.R_base ho1)) (fun _ h_ => h_.1)); replace HO_421001 := Aside0.mk (Kd.R_mono (Kd.R_told (Kd.R_told (Kd.R_old (kr_ HO_421001) hb) (Kd.R_base ho0)) (Kd.R_base ho1)) (fun _ h_ => h_.1)); replace HO_430002 := Aside0.mk (Kd.R_mono (Kd.R_told (Kd.R_told (Kd.R_old (kr_ HO_430002) hb) (Kd.R_base ho0)) (Kd.R_base ho1)) (fun _ h_ => h_.1)); replace HO_430003 := Aside0.mk (Kd.R_mono (Kd.R_told (Kd.R_told (Kd.R_old (kr_ HO_430003) hb) (Kd.R_base ho0)) (Kd.R_base ho1)) (fun _ h_ => h_.1)); replace HO448 := Aside0.mk (Kd.R_mono (Kd.R_told (Kd.R_told (Kd.R_old (kr_ HO448) hb) (Kd.R_base ho0)) (Kd.R_base ho1)) (fun _ h_ => h_.1)); replace HO451 := Aside0.mk (Kd.R_mono (Kd.R_told (Kd.R_told (Kd.R_old (kr_ HO451) hb) (Kd.R_base ho0)) (Kd.R_base ho1)) (fun _ h_ => h_.1)); replace BK397 := Aside0.mk (blk_below (kb_ BK397) hb); replace BK413 := Aside0.mk (blk_below (kb_ BK413) hb); replace BK420 := Aside0.mk (blk_below (kb_ BK420) hb); replace BK429 := Aside0.mk (blk_below (kb_ BK429) hb); replace HB := Aside0.mk (below_step bb_ hb); (try clear hb); (try clear hb2); (try clear hk); (try clear hi); (try clear ho0); (try clear ho1)) | ((with_reducible refine gate_dst (N := 12) rfl ?_); refine box_e_ 12 #[.int .i64 0, .int .i64 0, .slice none 0 0, .slice none 0 0] 28 ?_; intro gb460 hg w129 hbox hb; replace HO_414002 := Aside0.mk (Kd.R_below (kr_ HO_414002) hb); replace HO_414003 := Aside0.mk (Kd.R_below (kr_ HO_414003) hb); replace HO_421000 := Aside0.mk (Kd.R_below (kr_ HO_421000) hb); replace HO_421001 := Aside0.mk (Kd.R_below (kr_ HO_421001) hb); replace HO_430002 := Aside0.mk (Kd.R_below (kr_ HO_430002) hb); replace HO_430003 := Aside0.mk (Kd.R_below (kr_ HO_430003) hb); replace HO448 := Aside0.mk (Kd.R_below (kr_ HO448) hb); replace HO451 := Aside0.mk (Kd.R_below (kr_ HO451) hb); replace HO456 := Aside0.mk (Kd.R_below (kr_ HO456) hb); replace HO459 := Aside0.mk (Kd.R_below (kr_ HO459) hb); have BK460 := Aside0.mk (hbox); have GW460 := (bs_ hg : Aside0 (w.heap.size ≤ _)); have GE460 := (bs_ hg : Aside0 (w.heap.size ≤ _)); replace HB := Aside0.mk (below_step bb_ hb); have NB397_460 := (nl_ hg BK397 : Aside0 (gb397 ≠ gb460)); have NB460_397 := (nr_ hg BK397 : Aside0 (gb460 ≠ gb397)); replace BK397 := Aside0.mk (blk_below (kb_ BK397) hb); have NB413_460 := (nl_ hg BK413 : Aside0 (gb413 ≠ gb460)); have NB460_413 := (nr_ hg BK413 : Aside0 (gb460 ≠ gb413)); replace BK413 := Aside0.mk (blk_below (kb_ BK413) hb); have NB420_460 := (nl_ hg BK420 : Aside0 (gb420 ≠ gb460)); have NB460_420 := (nr_ hg BK420 : Aside0 (gb460 ≠ gb420)); replace BK420 := Aside0.mk (blk_below (kb_ BK420) hb); have NB429_460 := (nl_ hg BK429 : Aside0 (gb429 ≠ gb460)); have NB460_429 := (nr_ hg BK429 : Aside0 (gb460 ≠ gb429)); replace BK429 := Aside0.mk (blk_below (kb_ BK429) hb); clear hb hbox hg; have hnb130 := NB460_397.out; have hnc130 := NB397_460.out; have hnb131 := NB460_413.out; have hnc131 := NB413_460.out; have hnb132 := NB460_420.out; have hnc132 := NB420_460.out; have hnb133 := NB460_429.out; have hnc133 := NB429_460.out; obtain ⟨hcz134_0, hcz134_1, hcz134_2, hcz134_3, hfz134_0, hfz134_1, hfz134_2, hfz134_3⟩ := cf4_ BK460; obtain ⟨Ao135, co135, eo135⟩ := Kd.R_slice HO456.out; subst eo135; obtain ⟨Ao136, co136, eo136⟩ := Kd.R_slice HO459.out; subst eo136; have hnb137 := NB413_420.out; have hnc137 := NB420_413.out; obtain ⟨hcz138_0, hcz138_1, hcz138_2, hcz138_3, hfz138_0, hfz138_1, hfz138_2, hfz138_3⟩ := cf4_ BK413) | ((with_reducible refine gate_callee (f := 19) rfl ?_); refine goe_ (some 64) Try.func19 #[.agg #[.int .i64 t452, .int .i64 t453, .slice Ao135 t454.length co135, .slice Ao136 t457.length co136], .agg #[.int .i64 t405, .int .i64 t406, .slice Ao30 t407.length co30, .slice Ao31 t410.length co31]] ?_; (with_reducible refine (laws_eqJournalResult.calls kj17 t452 t453 _ _ t454 _ _ t457 t405 t406 _ _ t407 _ _ t410 true _ ?side1 ?side2 ?side3 ?side4 ?side5 ?side6 ?side7 ?side8 A83.out).mono ?_); (case side1 => refine (Kd.R_reads' (e := 5) (base := w.heap.size) (ok := fun k_ => ((((((((some k_ ≠ (.slice Ao136 t457.length co136 : Value).ownBlock ∧ some k_ ≠ (.slice Ao30 t407.length co30 : Value).ownBlock) ∧ some k_ ≠ (.slice Ao31 t410.length co31 : Value).ownBlock) ∧ some k_ ≠ (.slice Ao35 t439.length co35 : Value).ownBlock) ∧ some k_ ≠ (.slice Ao39 t440.length co39 : Value).ownBlock) ∧ some k_ ≠ (.slice Ao48 t423.length co48 : Value).ownBlock) ∧ some k_ ≠ (.slice Ao49 t426.length co49 : Value).ownBlock) ∧ some k_ ≠ (.slice Ao126 t446.length co126 : Value).ownBlock) ∧ some k_ ≠ (.slice Ao127 t449.length co127 : Value).ownBlock)) (n := t454.length) (c := co135) ?_).2.2; exact (by (with_reducible repeat (first | apply Kd.R_alloc | apply Kd.R_drewN | apply Kd.R_drew)); exact (Kd.R_mono (Kd.R_far (p := ⟨gb460, 3, none⟩) (Kd.R_far (p := ⟨gb460, 2, none⟩) (Kd.R_far (p := ⟨gb460, 1, none⟩) (Kd.R_far (p := ⟨gb460, 0, none⟩) (Kd.R_types HO456.out BK460.out (by decide)) (fun _ hk => hk.2) (.int .i64 t452)) (fun _ hk => hk.2) (.int .i64 t453)) (fun _ hk => hk.2) (.slice Ao135 t454.length co135)) (fun _ hk => hk.2) (.slice Ao136 t457.length co136)) (fun _ h_ => h_.1)))); (case side2 => exact (Kd.R_reads' HO456.out).2.1); (case side3 => refine (Kd.R_reads' (e := 5) (base := w.heap.size) (ok := fun k_ => ((((((((some k_ ≠ (.slice Ao135 t454.length co135 : Value).ownBlock ∧ some k_ ≠ (.slice Ao30 t407.length co30 : Value).ownBlock) ∧ some k_ ≠ (.slice Ao31 t410.length co31 : Value).ownBlock) ∧ some k_ ≠ (.slice Ao35 t439.length co35 : Value).ownBlock) ∧ some k_ ≠ (.slice Ao39 t440.length co39 : Value).ownBlock) ∧ some k_ ≠ (.slice Ao48 t423.length co48 : Value).ownBlock) ∧ some k_ ≠ (.slice Ao49 t426.length co49 : Value).ownBlock) ∧ some k_ ≠ (.slice Ao126 t446.length co126 : Value).ownBlock) ∧ some k_ ≠ (.slice Ao127 t449.length co127 : Value).ownBlock)) (n := t457.length) (c := co136) ?_).2.2; exact (by (with_reducible repeat (first | apply Kd.R_alloc | apply Kd.R_drewN | apply Kd.R_drew)); exact (Kd.R_mono (Kd.R_far (p := ⟨gb460, 3, none⟩) (Kd.R_far (p := ⟨gb460, 2, none⟩) (Kd.R_far (p := ⟨gb460, 1, none⟩) (Kd.R_far (p := ⟨gb460, 0, none⟩) (Kd.R_types HO459.out BK460.out (by decide)) (fun _ hk => hk.2) (.int .i64 t452)) (fun _ hk => hk.2) (.int .i64 t453)) (fun _ hk => hk.2) (.slice Ao135 t454.length co135)) (fun _ hk => hk.2) (.slice Ao136 t457.length co136)) (fun _ h_ => h_.1)))); (case side4 => exact (Kd.R_reads' HO459.out).2.1); (case side5 => refine (Kd.R_reads' (e := 5) (base := w.heap.size) (ok := fun k_ => (((((some k_ ≠ (.slice Ao31 t410.length co31 : Value).ownBlock ∧ (some k_ ≠ (.slice Ao35 t439.length co35 : Value).ownBlock ∧ (some k_ ≠ (.slice Ao39 t440.length co39 : Value).ownBlock ∧ (some k_ ≠ (.slice Ao48 t423.length co48 : Value).ownBlock ∧ some k_ ≠ (.slice Ao49 t426.length co49 : Value).ownBlock)))) ∧ some k_ ≠ (.slice Ao126 t446.length co126 : Value).ownBlock) ∧ some k_ ≠ (.slice Ao127 t449.length co127 : Value).ownBlock) ∧ some k_ ≠ (.slice Ao135 t454.length co135 : Value).ownBlock) ∧ some k_ ≠ (.slice Ao136 t457.length co136 : Value).ownBlock)) (n := t407.length) (c := co30) ?_).2.2; exact (by (with_reducible repeat (first | apply Kd.R_alloc | apply Kd.R_drewN | apply Kd.R_drew)); exact (Kd.R_mono (Kd.R_far (p := ⟨gb460, 3, none⟩) (Kd.R_far (p := ⟨gb460, 2, none⟩) (Kd.R_far (p := ⟨gb460, 1, none⟩) (Kd.R_far (p := ⟨gb460, 0, none⟩) (Kd.R_types HO_414002.out BK460.out (by decide)) (fun _ hk => hk.2) (.int .i64 t452)) (fun _ hk => hk.2) (.int .i64 t453)) (fun _ hk => hk.2) (.slice Ao135 t454.length co135)) (fun _ hk => hk.2) (.slice Ao136 t457.length co136)) (fun _ h_ => h_.1)))); (case side6 => exact (Kd.R_reads' HO_414002.out).2.1); (case side7 => refine (Kd.R_reads' (e := 5) (base := w.heap.size) (ok := fun k_ => (((((some k_ ≠ (.slice Ao30 t407.length co30 : Value).ownBlock ∧ (some k_ ≠ (.slice Ao35 t439.length co35 : Value).ownBlock ∧ (some k_ ≠ (.slice Ao39 t440.length co39 : Value).ownBlock ∧ (some k_ ≠ (.slice Ao48 t423.length co48 : Value).ownBlock ∧ some k_ ≠ (.slice Ao49 t426.length co49 : Value).ownBlock)))) ∧ some k_ ≠ (.slice Ao126 t446.length co126 : Value).ownBlock) ∧ some k_ ≠ (.slice Ao127 t449.length co127 : Value).ownBlock) ∧ some k_ ≠ (.slice Ao135 t454.length co135 : Value).ownBlock) ∧ some k_ ≠ (.slice Ao136 t457.length co136 : Value).ownBlock)) (n := t410.length) (c := co31) ?_).2.2; exact (by (with_reducible repeat (first | apply Kd.R_alloc | apply Kd.R_drewN | apply Kd.R_drew)); exact (Kd.R_mono (Kd.R_far (p := ⟨gb460, 3, none⟩) (Kd.R_far (p := ⟨gb460, 2, none⟩) (Kd.R_far (p := ⟨gb460, 1, none⟩) (Kd.R_far (p := ⟨gb460, 0, none⟩) (Kd.R_types HO_414003.out BK460.out (by decide)) (fun _ hk => hk.2) (.int .i64 t452)) (fun _ hk => hk.2) (.int .i64 t453)) (fun _ hk => hk.2) (.slice Ao135 t454.length co135)) (fun _ hk => hk.2) (.slice Ao136 t457.length co136)) (fun _ h_ => h_.1)))); (case side8 => exact (Kd.R_reads' HO_414003.out).2.1); rintro e w139 ⟨rfl, hb⟩; refine ⟨_, rfl, ?_⟩; replace HO_414002 := Aside0.mk (Kd.R_below (by (with_reducible repeat (first | apply Kd.R_alloc | apply Kd.R_drewN | apply Kd.R_drew)); exact (Kd.R_mono (Kd.R_far (p := ⟨gb460, 3, none⟩) (Kd.R_far (p := ⟨gb460, 2, none⟩) (Kd.R_far (p := ⟨gb460, 1, none⟩) (Kd.R_far (p := ⟨gb460, 0, none⟩) (Kd.R_types HO_414002.out BK460.out (by decide)) (fun _ hk => hk.2) (.int .i64 t452)) (fun _ hk => hk.2) (.int .i64 t453)) (fun _ hk => hk.2) (.slice Ao135 t454.length co135)) (fun _ hk => hk.2) (.slice Ao136 t457.length co136)) (fun _ h_ => h_.1))) hb); replace HO_414003 := Aside0.mk (Kd.R_below (by (with_reducible repeat (first | apply Kd.R_alloc | apply Kd.R_drewN | apply Kd.R_drew)); exact (Kd.R_mono (Kd.R_far (p := ⟨gb460, 3, none⟩) (Kd.R_far (p := ⟨gb460, 2, none⟩) (Kd.R_far (p := ⟨gb460, 1, none⟩) (Kd.R_far (p := ⟨gb460, 0, none⟩) (Kd.R_types HO_414003.out BK460.out (by decide)) (fun _ hk => hk.2) (.int .i64 t452)) (fun _ hk => hk.2) (.int .i64 t453)) (fun _ hk => hk.2) (.slice Ao135 t454.length co135)) (fun _ hk => hk.2) (.slice Ao136 t457.length co136)) (fun _ h_ => h_.1))) hb); replace HO_421000 := Aside0.mk (Kd.R_below (by (with_reducible repeat (first | apply Kd.R_alloc | apply Kd.R_drewN | apply Kd.R_drew)); exact (Kd.R_mono (Kd.R_far (p := ⟨gb460, 3, none⟩) (Kd.R_far (p := ⟨gb460, 2, none⟩) (Kd.R_far (p := ⟨gb460, 1, none⟩) (Kd.R_far (p := ⟨gb460, 0, none⟩) (Kd.R_types HO_421000.out BK460.out (by decide)) (fun _ hk => hk.2) (.int .i64 t452)) (fun _ hk => hk.2) (.int .i64 t453)) (fun _ hk => hk.2) (.slice Ao135 t454.length co135)) (fun _ hk => hk.2) (.slice Ao136 t457.length co136)) (fun _ h_ => h_.1))) hb); replace HO_421001 := Aside0.mk (Kd.R_below (by (with_reducible repeat (first | apply Kd.R_alloc | apply Kd.R_drewN | apply Kd.R_drew)); exact (Kd.R_mono (Kd.R_far (p := ⟨gb460, 3, none⟩) (Kd.R_far (p := ⟨gb460, 2, none⟩) (Kd.R_far (p := ⟨gb460, 1, none⟩) (Kd.R_far (p := ⟨gb460, 0, none⟩) (Kd.R_types HO_421001.out BK460.out (by decide)) (fun _ hk => hk.2) (.int .i64 t452)) (fun _ hk => hk.2) (.int .i64 t453)) (fun _ hk => hk.2) (.slice Ao135 t454.length co135)) (fun _ hk => hk.2) (.slice Ao136 t457.length co136)) (fun _ h_ => h_.1))) hb); replace HO_430002 := Aside0.mk (Kd.R_below (by (with_reducible repeat (first | apply Kd.R_alloc | apply Kd.R_drewN | apply Kd.R_drew)); exact (Kd.R_mono (Kd.R_far (p := ⟨gb460, 3, none⟩) (Kd.R_far (p := ⟨gb460, 2, none⟩) (Kd.R_far (p := ⟨gb460, 1, none⟩) (Kd.R_far (p := ⟨gb460, 0, none⟩) (Kd.R_types HO_430002.out BK460.out (by decide)) (fun _ hk => hk.2) (.int .i64 t452)) (fun _ hk => hk.2) (.int .i64 t453)) (fun _ hk => hk.2) (.slice Ao135 t454.length co135)) (fun _ hk => hk.2) (.slice Ao136 t457.length co136)) (fun _ h_ => h_.1))) hb); replace HO_430003 := Aside0.mk (Kd.R_below (by (with_reducible repeat (first | apply Kd.R_alloc | apply Kd.R_drewN | apply Kd.R_drew)); exact (Kd.R_mono (Kd.R_far (p := ⟨gb460, 3, none⟩) (Kd.R_far (p := ⟨gb460, 2, none⟩) (Kd.R_far (p := ⟨gb460, 1, none⟩) (Kd.R_far (p := ⟨gb460, 0, none⟩) (Kd.R_types HO_430003.out BK460.out (by decide)) (fun _ hk => hk.2) (.int .i64 t452)) (fun _ hk => hk.2) (.int .i64 t453)) (fun _ hk => hk.2) (.slice Ao135 t454.length co135)) (fun _ hk => hk.2) (.slice Ao136 t457.length co136)) (fun _ h_ => h_.1))) hb); replace HO448 := Aside0.mk (Kd.R_below (by (with_reducible repeat (first | apply Kd.R_alloc | apply Kd.R_drewN | apply Kd.R_drew)); exact (Kd.R_mono (Kd.R_far (p := ⟨gb460, 3, none⟩) (Kd.R_far (p := ⟨gb460, 2, none⟩) (Kd.R_far (p := ⟨gb460, 1, none⟩) (Kd.R_far (p := ⟨gb460, 0, none⟩) (Kd.R_types HO448.out BK460.out (by decide)) (fun _ hk => hk.2) (.int .i64 t452)) (fun _ hk => hk.2) (.int .i64 t453)) (fun _ hk => hk.2) (.slice Ao135 t454.length co135)) (fun _ hk => hk.2) (.slice Ao136 t457.length co136)) (fun _ h_ => h_.1))) hb); replace HO451 := Aside0.mk (Kd.R_below (by (with_reducible repeat (first | apply Kd.R_alloc | apply Kd.R_drewN | apply Kd.R_drew)); exact (Kd.R_mono (Kd.R_far (p := ⟨gb460, 3, none⟩) (Kd.R_far (p := ⟨gb460, 2, none⟩) (Kd.R_far (p := ⟨gb460, 1, none⟩) (Kd.R_far (p := ⟨gb460, 0, none⟩) (Kd.R_types HO451.out BK460.out (by decide)) (fun _ hk => hk.2) (.int .i64 t452)) (fun _ hk => hk.2) (.int .i64 t453)) (fun _ hk => hk.2) (.slice Ao135 t454.length co135)) (fun _ hk => hk.2) (.slice Ao136 t457.length co136)) (fun _ h_ => h_.1))) hb); replace HO456 := Aside0.mk (Kd.R_below (by (with_reducible repeat (first | apply Kd.R_alloc | apply Kd.R_drewN | apply Kd.R_drew)); exact (Kd.R_mono (Kd.R_far (p := ⟨gb460, 3, none⟩) (Kd.R_far (p := ⟨gb460, 2, none⟩) (Kd.R_far (p := ⟨gb460, 1, none⟩) (Kd.R_far (p := ⟨gb460, 0, none⟩) (Kd.R_types HO456.out BK460.out (by decide)) (fun _ hk => hk.2) (.int .i64 t452)) (fun _ hk => hk.2) (.int .i64 t453)) (fun _ hk => hk.2) (.slice Ao135 t454.length co135)) (fun _ hk => hk.2) (.slice Ao136 t457.length co136)) (fun _ h_ => h_.1))) hb); replace HO459 := Aside0.mk (Kd.R_below (by (with_reducible repeat (first | apply Kd.R_alloc | apply Kd.R_drewN | apply Kd.R_drew)); exact (Kd.R_mono (Kd.R_far (p := ⟨gb460, 3, none⟩) (Kd.R_far (p := ⟨gb460, 2, none⟩) (Kd.R_far (p := ⟨gb460, 1, none⟩) (Kd.R_far (p := ⟨gb460, 0, none⟩) (Kd.R_types HO459.out BK460.out (by decide)) (fun _ hk => hk.2) (.int .i64 t452)) (fun _ hk => hk.2) (.int .i64 t453)) (fun _ hk => hk.2) (.slice Ao135 t454.length co135)) (fun _ hk => hk.2) (.slice Ao136 t457.length co136)) (fun _ h_ => h_.1))) hb); replace BK397 := Aside0.mk (blk_below (kb_ BK397) hb); replace BK413 := Aside0.mk (blk_below (kb_ BK413) hb); replace BK420 := Aside0.mk (blk_below (kb_ BK420) hb); replace BK429 := Aside0.mk (blk_below (kb_ BK429) hb); replace BK460 := Aside0.mk (blk_below (g := gb460) (o := .cells #[.int .i64 t452, .int .i64 t453, .slice Ao135 t454.length co135, .slice Ao136 t457.length co136] 28 (0, 0)) (by (with_reducible repeat (first | refine blk_drewN ?_ _ | refine blk_drew ?_ | refine blk_alloc ?_ _)); refine blk_put (cs := #[.int .i64 t452, .int .i64 t453, .slice Ao135 t454.length co135, .slice none 0 0]) ?_ 3 _ rfl; (with_reducible repeat (first | refine blk_drewN ?_ _ | refine blk_drew ?_ | refine blk_alloc ?_ _)); refine blk_put (cs := #[.int .i64 t452, .int .i64 t453, .slice none 0 0, .slice none 0 0]) ?_ 2 _ rfl; (with_reducible repeat (first | refine blk_drewN ?_ _ | refine blk_drew ?_ | refine blk_alloc ?_ _)); refine blk_put (cs := #[.int .i64 t452, .int .i64 0, .slice none 0 0, .slice none 0 0]) ?_ 1 _ rfl; (with_reducible repeat (first | refine blk_drewN ?_ _ | refine blk_drew ?_ | refine blk_alloc ?_ _)); refine blk_put (cs := #[.int .i64 0, .int .i64 0, .slice none 0 0, .slice none 0 0]) ?_ 0 _ rfl; (with_reducible repeat (first | refine blk_drewN ?_ _ | refine blk_drew ?_ | refine blk_alloc ?_ _)); exact BK460.out) hb); replace HB := Aside0.mk (below_step bb_ hb); (try clear hb); (try clear hb2); (try clear hk); (try clear hi); obtain ⟨hcz140_0, hcz140_1, hcz140_2, hcz140_3, hfz140_0, hfz140_1, hfz140_2, hfz140_3⟩ := cf4_ BK429) | ((with_reducible refine gate_callee (f := 23) rfl ?_); refine goesL_ (some 68) rfl rfl Try.func23 (by kernel_rfl) rfl #[.agg #[.int .i64 t421, .int .i64 t422, .slice Ao48 t443.length co48, .slice Ao49 t444.length co49], .int .i64 1] rfl (by (try simp only [List.map_toArray, List.map_cons, List.map_nil]); first | done | (rw [show t443.length = t423.length from (Kd.R_reads' HO_430002.out).1.symm, show t444.length = t426.length from (Kd.R_reads' HO_430003.out).1.symm] <;> rfl) | rfl | (simp only [List.length_drop, List.length_take]; rfl)) ?_; (with_reducible refine (laws_heldJournalResult.calls kj17 t421 t422 _ _ t443 _ _ t444 1 t462 _ ?side1 ?side2 ?side3 ?side4 A85.out).mono ?_); (case side1 => exact kc_ ((Kd.R_reads' HO_430002.out).2.2)); (case side2 => rw [show t443.length = t423.length from (Kd.R_reads' HO_430002.out).1.symm]; exact (Kd.R_reads' HO_430002.out).2.1); (case side3 => exact kc_ ((Kd.R_reads' HO_430003.out).2.2)); (case side4 => rw [show t444.length = t426.length from (Kd.R_reads' HO_430003.out).1.symm]; exact (Kd.R_reads' HO_430003.out).2.1); rintro e w141 ⟨rfl, hb⟩; refine ⟨_, rfl, ?_⟩; replace HO_414002 := Aside0.mk (Kd.R_below (kr_ HO_414002) hb); replace HO_414003 := Aside0.mk (Kd.R_below (kr_ HO_414003) hb); replace HO_421000 := Aside0.mk (Kd.R_below (kr_ HO_421000) hb); replace HO_421001 := Aside0.mk (Kd.R_below (kr_ HO_421001) hb); replace HO_430002 := Aside0.mk (Kd.R_below (kr_ HO_430002) hb); replace HO_430003 := Aside0.mk (Kd.R_below (kr_ HO_430003) hb); replace HO448 := Aside0.mk (Kd.R_below (kr_ HO448) hb); replace HO451 := Aside0.mk (Kd.R_below (kr_ HO451) hb); replace HO456 := Aside0.mk (Kd.R_below (kr_ HO456) hb); replace HO459 := Aside0.mk (Kd.R_below (kr_ HO459) hb); replace BK397 := Aside0.mk (blk_below (kb_ BK397) hb); replace BK413 := Aside0.mk (blk_below (kb_ BK413) hb); replace BK420 := Aside0.mk (blk_below (kb_ BK420) hb); replace BK429 := Aside0.mk (blk_below (kb_ BK429) hb); replace BK460 := Aside0.mk (blk_below (kb_ BK460) hb); replace HB := Aside0.mk (below_step bb_ hb); (try clear hb); (try clear hb2); (try clear hk); (try clear hi)))
                        go_ret
                        exact ⟨er_, bb_⟩
                      · rw [if_neg c114] at H
                        have c114b0 : (t462 == t442) = false := beq_eq_false_iff_ne.mpr c114
                        have c114b1 : (t462 != t442) = true := bne_iff_ne.mpr c114
                        exact absurd H (by simp)
                  · replace c84 := Bool.eq_false_iff.mpr c84
                    subst c84
                    have H1 : (some false) = some true := by rw [if_neg (show ¬ (false = true) by decide)] at H; exact H
                    clear H
                    have H := H1
                    clear H1
                    exact absurd H (by simp)
                · rw [if_neg c80] at H
                  have c80b0 : (t445 == t442) = false := beq_eq_false_iff_ne.mpr c80
                  have c80b1 : (t445 != t442) = true := bne_iff_ne.mpr c80
                  exact absurd H (by simp)
      · replace c16 := Bool.eq_false_iff.mpr c16
        subst c16
        have H1 : (some false) = some true := by rw [if_neg (show ¬ (false = true) by decide)] at H; exact H
        clear H
        have H := H1
        clear H1
        exact absurd H (by simp)
    · replace c13 := Bool.eq_false_iff.mpr c13
      subst c13
      have H1 : (some false) = some true := by rw [if_neg (show ¬ (false = true) by decide)] at H; exact H
      clear H
      have H := H1
      clear H1
      exact absurd H (by simp)
end Go.Proofs.Ythmkjapmnlhflaa.PFnExactCrashJournal
