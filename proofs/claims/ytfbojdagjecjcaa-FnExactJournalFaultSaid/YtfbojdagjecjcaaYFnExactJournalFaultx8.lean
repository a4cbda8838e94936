/- The functions that the law FnExactJournalFault reaches: each as a plain Lean function, with the proof that the call does what it says. -/
import Derived.Test.YtfbojdagjecjcaaYFnExactJournalFaultx0
import Derived.Test.YtfbojdagjecjcaaYFnExactJournalFaultx1
import Derived.Test.YtfbojdagjecjcaaYFnExactJournalFaultx4
import Derived.Test.YtfbojdagjecjcaaYFnExactJournalFaultx7
namespace Go.Proofs.Ytfbojdagjecjcaa.PFnExactJournalFault
open Go.RowKit Go.Proofs.YtfbojdagjecjcaaW.PrintWords Go.Proofs.YtfbojdagjecjcaaW.PrintLast Go.Proofs.YtfbojdagjecjcaaW.PrintMore
attribute [local go_sem] max2_int min2_int max_two min_two max_three min_three max_four min_four
set_option linter.unusedVariables false
set_option linter.unusedSimpArgs false
def laws_FnExactJournalFault.f (k : Nat) (l0_0 : List Int) (l0_1 : List Int) : Option (Bool) := (laws_szJournal.f l0_0 l0_1 1048576).bind fun t268 => (if t268 < 0 then (some true) else ((laws_toJournal.f k l0_0 l0_1).bind fun bt269 => ((spec_JournalFault.f k bt269.1 bt269.2).bind fun t275 => ((laws_toJournal.f k l0_0 l0_1).bind fun bt276 => ((impl_JournalFault.f k bt276.1 bt276.2).bind fun t283 => (if t283 = t275 then ((laws_toJournal.f k l0_0 l0_1).bind fun bt284 => ((laws_eqJournal.f k bt276.1 bt276.2 bt284.1 bt284.2).bind fun t290 => (if t290 = true then (some true) else (some false)))) else (some false)))))))
theorem laws_FnExactJournalFault.mono : ∀ a0 a1 k, LeO (laws_FnExactJournalFault.f k a0 a1) (laws_FnExactJournalFault.f (k + 1) a0 a1) := by
  intro a0 a1 k
  unfold laws_FnExactJournalFault.f
  repeat' first
      | (with_reducible exact impl_JournalFault.mono _ _ _)
      | (with_reducible exact laws_eqJournal.mono _ _ _ _ _)
      | (with_reducible exact laws_toJournal.mono _ _ _)
      | (with_reducible exact spec_JournalFault.mono _ _ _)
      | (with_reducible exact LeO.refl _)
      | (with_reducible exact LeO.none _)
      | (with_reducible refine LeO.ite ?_ ?_)
      | (with_reducible refine LeO.bind ?_ (fun _ => ?_))
      | exact impl_JournalFault.mono _ _ _
      | exact laws_eqJournal.mono _ _ _ _ _
      | exact laws_toJournal.mono _ _ _
      | exact spec_JournalFault.mono _ _ _
      | exact LeO.none _
      | refine LeO.ite ?_ ?_
      | refine LeO.bind ?_ (fun _ => ?_)
set_option maxHeartbeats 8000000 in
set_option maxRecDepth 100000 in
theorem laws_FnExactJournalFault.calls (k : Nat) (A0_0 : Option Addr) (c0_0 : Nat) (l0_0 : List Int) (A0_1 : Option Addr) (c0_1 : Nat) (l0_1 : List Int) (w : World) (hr0_0 : Kd.C (Kd.int .u8) w A0_0 l0_0.length l0_0) (hc0_0 : l0_0.length ≤ c0_0) (hr0_1 : Kd.C (Kd.int .u8) w A0_1 l0_1.length l0_1) (hc0_1 : l0_1.length ≤ c0_1) (h : laws_FnExactJournalFault.f k l0_0 l0_1 = some true) :
    Calls Try.prog 10 #[.agg #[.slice A0_0 l0_0.length c0_0, .slice A0_1 l0_1.length c0_1]] w fun e w' => e = .returned (.bool true) ∧ Below w.heap.size w w' := by
  have hu97 := Try.underlying97
  have hu100 := Try.underlying100
  have HR0_0 := Aside0.mk hr0_0
  have HC0_0 := Aside0.mk hc0_0
  clear hr0_0 hc0_0
  have HR0_1 := Aside0.mk hr0_1
  have HC0_1 := Aside0.mk hc0_1
  clear hr0_1 hc0_1
  have HB := Aside0.mk (Below.refl w.heap.size w)
  have H : ((laws_szJournal.f l0_0 l0_1 1048576).bind fun t268 => (if t268 < 0 then (some true) else ((laws_toJournal.f k l0_0 l0_1).bind fun bt269 => ((spec_JournalFault.f k bt269.1 bt269.2).bind fun t275 => ((laws_toJournal.f k l0_0 l0_1).bind fun bt276 => ((impl_JournalFault.f k bt276.1 bt276.2).bind fun t283 => (if t283 = t275 then ((laws_toJournal.f k l0_0 l0_1).bind fun bt284 => ((laws_eqJournal.f k bt276.1 bt276.2 bt284.1 bt284.2).bind fun t290 => (if t290 = true then (some true) else (some false)))) else (some false)))))))) = some true := h
  clear h
  replace H := Option.bind_eq_some_iff.mp H
  obtain ⟨t268, A20, H⟩ := H
  replace H : (if t268 < 0 then (some true) else ((laws_toJournal.f k l0_0 l0_1).bind fun bt269 => ((spec_JournalFault.f k bt269.1 bt269.2).bind fun t275 => ((laws_toJournal.f k l0_0 l0_1).bind fun bt276 => ((impl_JournalFault.f k bt276.1 bt276.2).bind fun t283 => (if t283 = t275 then ((laws_toJournal.f k l0_0 l0_1).bind fun bt284 => ((laws_eqJournal.f k bt276.1 bt276.2 bt284.1 bt284.2).bind fun t290 => (if t290 = true then (some true) else (some false)))) else (some false))))))) = some true := H
  have A2 := Aside0.mk A20
  clear A20
  by_cases c3 : t268 < 0
  · rw [if_pos c3] at H
    have c3b0 : decide (t268 < 0) = true := decide_eq_true c3
    clear c3
    clear H
    go_enter Try.func10, Try.ntmps10
    go_wp2_with (first | ((with_reducible refine gate_dst (N := 1) rfl ?_); refine box_e_ 1 #[.slice A0_0 l0_0.length c0_0, .slice A0_1 l0_1.length c0_1] 97 ?_; intro gb267 hg w4 hbox hb; have BK267 := Aside0.mk (hbox); have GW267 := (bs_ hg : Aside0 (w.heap.size ≤ _)); have GE267 := (bs_ hg : Aside0 (w.heap.size ≤ _)); replace HB := Aside0.mk (below_step bb_ hb); clear hb hbox hg; obtain ⟨hcz5_0, hcz5_1, hfz5_0, hfz5_1⟩ := cf2_ BK267) | ((with_reducible refine gate_callee (f := 61) rfl ?_); refine goe_ (some 9) Try.func61 #[.agg #[.slice A0_0 l0_0.length c0_0, .slice A0_1 l0_1.length c0_1], .int .i64 1048576] ?_; (with_reducible refine (laws_szJournal.calls _ _ l0_0 _ _ l0_1 1048576 t268 _ ?side1 ?side2 ?side3 ?side4 A2.out).mono ?_); (case side1 => exact kc_ (Kd.C_below HR0_0.out HB.out)); (case side2 => exact HC0_0.out); (case side3 => exact kc_ (Kd.C_below HR0_1.out HB.out)); (case side4 => exact HC0_1.out); rintro e w6 ⟨rfl, hb⟩; refine ⟨_, rfl, ?_⟩; replace BK267 := Aside0.mk (blk_below (kb_ BK267) hb); replace HB := Aside0.mk (below_step bb_ hb); (try clear hb); (try clear hb2); (try clear hk); (try clear hi)))
    go_ret
    exact ⟨er_, bb_⟩
  · rw [if_neg c3] at H
    have c3b0 : decide (t268 < 0) = false := decide_eq_false c3
    clear c3
    replace H := Option.bind_eq_some_iff.mp H
    obtain ⟨⟨t269, t272⟩, A70, H⟩ := H
    replace H : ((spec_JournalFault.f k t269 t272).bind fun t275 => ((laws_toJournal.f k l0_0 l0_1).bind fun bt276 => ((impl_JournalFault.f k bt276.1 bt276.2).bind fun t283 => (if t283 = t275 then ((laws_toJournal.f k l0_0 l0_1).bind fun bt284 => ((laws_eqJournal.f k bt276.1 bt276.2 bt284.1 bt284.2).bind fun t290 => (if t290 = true then (some true) else (some false)))) else (some false))))) = some true := H
    have A7 := Aside0.mk A70
    clear A70
    replace H := Option.bind_eq_some_iff.mp H
    obtain ⟨t275, A80, H⟩ := H
    replace H : ((laws_toJournal.f k l0_0 l0_1).bind fun bt276 => ((impl_JournalFault.f k bt276.1 bt276.2).bind fun t283 => (if t283 = t275 then ((laws_toJournal.f k l0_0 l0_1).bind fun bt284 => ((laws_eqJournal.f k bt276.1 bt276.2 bt284.1 bt284.2).bind fun t290 => (if t290 = true then (some true) else (some false)))) else (some false)))) = some true := H
    have A8 := Aside0.mk A80
    clear A80
    replace H := Option.bind_eq_some_iff.mp H
    obtain ⟨⟨t276, t279⟩, A90, H⟩ := H
    replace H : ((impl_JournalFault.f k t276 t279).bind fun t283 => (if t283 = t275 then ((laws_toJournal.f k l0_0 l0_1).bind fun bt284 => ((laws_eqJournal.f k t276 t279 bt284.1 bt284.2).bind fun t290 => (if t290 = true then (some true) else (some false)))) else (some false))) = some true := H
    have A9 := Aside0.mk A90
    clear A90
    replace H := Option.bind_eq_some_iff.mp H
    obtain ⟨t283, A100, H⟩ := H
    replace H : (if t283 = t275 then ((laws_toJournal.f k l0_0 l0_1).bind fun bt284 => ((laws_eqJournal.f k t276 t279 bt284.1 bt284.2).bind fun t290 => (if t290 = true then (some true) else (some false)))) else (some false)) = some true := H
    have A10 := Aside0.mk A100
    clear A100
    by_cases c11 : t283 = t275
    · rw [if_pos c11] at H
      have c11b0 : (t283 == t275) = true := beq_iff_eq.mpr c11
      have c11b1 : (t283 != t275) = false := bne_eq_false_iff_eq.mpr c11
      clear c11
      replace H := Option.bind_eq_some_iff.mp H
      obtain ⟨⟨t284, t287⟩, A120, H⟩ := H
      replace H : ((laws_eqJournal.f k t276 t279 t284 t287).bind fun t290 => (if t290 = true then (some true) else (some false))) = some true := H
      have A12 := Aside0.mk A120
      clear A120
      replace H := Option.bind_eq_some_iff.mp H
      obtain ⟨t290, A130, H⟩ := H
      replace H : (if t290 = true then (some true) else (some false)) = some true := H
      have A13 := Aside0.mk A130
      clear A130
      by_cases c14 : t290 = true
      · subst c14
        have H1 : (some true) = some true := rfl
        clear H
        have H := H1
        clear H1
        clear H
        go_enter Try.func10, Try.ntmps10
        try go_wp2_with (first | ((with_reducible refine gate_dst (N := 1) rfl ?_); refine box_e_ 1 #[.slice A0_0 l0_0.length c0_0, .slice A0_1 l0_1.length c0_1] 97 ?_; intro gb267 hg w15 hbox hb; have BK267 := Aside0.mk (hbox); have GW267 := (bs_ hg : Aside0 (w.heap.size ≤ _)); have GE267 := (bs_ hg : Aside0 (w.heap.size ≤ _)); replace HB := Aside0.mk (below_step bb_ hb); clear hb hbox hg; obtain ⟨hcz16_0, hcz16_1, hfz16_0, hfz16_1⟩ := cf2_ BK267) | ((with_reducible refine gate_callee (f := 61) rfl ?_); refine goe_ (some 9) Try.func61 #[.agg #[.slice A0_0 l0_0.length c0_0, .slice A0_1 l0_1.length c0_1], .int .i64 1048576] ?_; (with_reducible refine (laws_szJournal.calls _ _ l0_0 _ _ l0_1 1048576 t268 _ ?side1 ?side2 ?side3 ?side4 A2.out).mono ?_); (case side1 => exact kc_ (Kd.C_below HR0_0.out HB.out)); (case side2 => exact HC0_0.out); (case side3 => exact kc_ (Kd.C_below HR0_1.out HB.out)); (case side4 => exact HC0_1.out); rintro e w17 ⟨rfl, hb⟩; refine ⟨_, rfl, ?_⟩; replace BK267 := Aside0.mk (blk_below (kb_ BK267) hb); replace HB := Aside0.mk (below_step bb_ hb); (try clear hb); (try clear hb2); (try clear hk); (try clear hi); obtain ⟨hcz18_0, hcz18_1, hfz18_0, hfz18_1⟩ := cf2_ BK267) | ((with_reducible refine gate_callee (f := 63) rfl ?_); refine goe_ (some 13) Try.func63 #[.agg #[.slice A0_0 l0_0.length c0_0, .slice A0_1 l0_1.length c0_1]] ?_; (with_reducible refine (laws_toJournal.calls k _ _ l0_0 _ _ l0_1 t269 t272 _ ?side1 ?side2 ?side3 ?side4 A7.out).mono ?_); (case side1 => exact kc_ (Kd.C_below HR0_0.out HB.out)); (case side2 => exact HC0_0.out); (case side3 => exact kc_ (Kd.C_below HR0_1.out HB.out)); (case side4 => exact HC0_1.out); rintro e w19 ⟨v270, v273, rfl, ho0, ho1, hb⟩; refine ⟨_, rfl, ?_⟩; have HO271 := Aside0.mk (Kd.R_lower ho0 (below_size bb_)); have HO274 := Aside0.mk (Kd.R_lower ho1 (below_size bb_)); replace BK267 := Aside0.mk (blk_below (kb_ BK267) hb); replace HB := Aside0.mk (below_step bb_ hb); (try clear hb); (try clear hb2); (try clear hk); (try clear hi); (try clear ho0); (try clear ho1); obtain ⟨Ao20, co20, eo20⟩ := Kd.R_slice HO271.out; subst eo20; obtain ⟨Ao21, co21, eo21⟩ := Kd.R_slice HO274.out; subst eo21) | ((with_reducible refine gate_callee (f := 62) rfl ?_); refine goe_ (some 14) Try.func62 #[.agg #[.slice Ao20 t269.length co20, .slice Ao21 t272.length co21]] ?_; (with_reducible refine (spec_JournalFault.calls k _ _ t269 _ _ t272 t275 _ ?side1 ?side2 ?side3 ?side4 A8.out).mono ?_); (case side1 => exact kc_ ((Kd.R_reads' HO271.out).2.2)); (case side2 => exact (Kd.R_reads' HO271.out).2.1); (case side3 => exact kc_ ((Kd.R_reads' HO274.out).2.2)); (case side4 => exact (Kd.R_reads' HO274.out).2.1); rintro e w22 ⟨rfl, hb⟩; refine ⟨_, rfl, ?_⟩; replace HO271 := Aside0.mk (Kd.R_below (kr_ HO271) hb); replace HO274 := Aside0.mk (Kd.R_below (kr_ HO274) hb); replace BK267 := Aside0.mk (blk_below (kb_ BK267) hb); replace HB := Aside0.mk (below_step bb_ hb); (try clear hb); (try clear hb2); (try clear hk); (try clear hi); obtain ⟨hcz23_0, hcz23_1, hfz23_0, hfz23_1⟩ := cf2_ BK267) | ((with_reducible refine gate_callee (f := 63) rfl ?_); refine goe_ (some 16) Try.func63 #[.agg #[.slice A0_0 l0_0.length c0_0, .slice A0_1 l0_1.length c0_1]] ?_; (with_reducible refine (laws_toJournal.calls k _ _ l0_0 _ _ l0_1 t276 t279 _ ?side1 ?side2 ?side3 ?side4 A9.out).mono ?_); (case side1 => exact kc_ (Kd.C_below HR0_0.out HB.out)); (case side2 => exact HC0_0.out); (case side3 => exact kc_ (Kd.C_below HR0_1.out HB.out)); (case side4 => exact HC0_1.out); rintro e w24 ⟨v277, v280, rfl, ho0, ho1, hb⟩; refine ⟨_, rfl, ?_⟩; have HO278 := Aside0.mk (Kd.R_lower (Kd.R_new' (Kd.R_new' ho0 (Kd.R_lt (kr_ HO271))) (Kd.R_lt (kr_ HO274))) (below_size bb_)); have HO281 := Aside0.mk (Kd.R_lower (Kd.R_new' (Kd.R_new' ho1 (Kd.R_lt (kr_ HO271))) (Kd.R_lt (kr_ HO274))) (below_size bb_)); replace HO271 := Aside0.mk (Kd.R_mono (Kd.R_told (Kd.R_told (Kd.R_old (kr_ HO271) hb) (Kd.R_base ho0)) (Kd.R_base ho1)) (fun _ h_ => h_.1)); replace HO274 := Aside0.mk (Kd.R_mono (Kd.R_told (Kd.R_told (Kd.R_old (kr_ HO274) hb) (Kd.R_base ho0)) (Kd.R_base ho1)) (fun _ h_ => h_.1)); replace BK267 := Aside0.mk (blk_below (kb_ BK267) hb); replace HB := Aside0.mk (below_step bb_ hb); (try clear hb); (try clear hb2); (try clear hk); (try clear hi); (try clear ho0); (try clear ho1)) | ((with_reducible refine gate_dst (N := 5) rfl ?_); refine box_e_ 5 #[.slice none 0 0, .slice none 0 0] 100 ?_; intro gb282 hg w25 hbox hb; replace HO271 := Aside0.mk (Kd.R_below (kr_ HO271) hb); replace HO274 := Aside0.mk (Kd.R_below (kr_ HO274) hb); replace HO278 := Aside0.mk (Kd.R_below (kr_ HO278) hb); replace HO281 := Aside0.mk (Kd.R_below (kr_ HO281) hb); have BK282 := Aside0.mk (hbox); have GW282 := (bs_ hg : Aside0 (w.heap.size ≤ _)); have GE282 := (bs_ hg : Aside0 (w.heap.size ≤ _)); replace HB := Aside0.mk (below_step bb_ hb); have NB267_282 := (nl_ hg BK267 : Aside0 (gb267 ≠ gb282)); have NB282_267 := (nr_ hg BK267 : Aside0 (gb282 ≠ gb267)); replace BK267 := Aside0.mk (blk_below (kb_ BK267) hb); clear hb hbox hg; obtain ⟨Ao26, co26, eo26⟩ := Kd.R_slice HO278.out; subst eo26; have hnb27 := NB282_267.out; have hnc27 := NB267_282.out; obtain ⟨hcz28_0, hcz28_1, hfz28_0, hfz28_1⟩ := cf2_ BK282; obtain ⟨Ao29, co29, eo29⟩ := Kd.R_slice HO281.out; subst eo29) | ((with_reducible refine gate_store (t := 100) (p := 5) rfl ?_); refine store_event (t := 100) (p := 5) (v := ?vo_w30) (w1 := ((w25.setCell ⟨gb282, 0, none⟩ (.slice Ao26 t276.length co26)).setCell ⟨gb282, 1, none⟩ (.slice Ao29 t279.length co29))) ?hg ?ho ?hn ?hr ?_; (case ho => rfl); (case hg => rfl); (case hn => rfl); (case hr => first | (go_simp; done) | (go_simp; rfl)); intro w30 hw; have n0_ : Aside0 (Kd.R (Kd.int .u8) 5 w30 w.heap.size (fun k_ => some k_ ≠ (.slice Ao21 t272.length co21 : Value).ownBlock ∧ some k_ ≠ (.slice Ao26 t276.length co26 : Value).ownBlock ∧ some k_ ≠ (.slice Ao29 t279.length co29 : Value).ownBlock) (.slice Ao20 t269.length co20) t269) := ⟨(by rw [hw]; exact (by (with_reducible repeat (first | apply Kd.R_alloc | apply Kd.R_drewN | apply Kd.R_drew)); exact Kd.R_mono (Kd.R_far (p := ⟨gb282, 1, none⟩) (Kd.R_far (p := ⟨gb282, 0, none⟩) (Kd.R_types HO271.out BK282.out (by decide)) (fun _ hk => hk.2) (.slice Ao26 t276.length co26)) (fun _ hk => hk.2) (.slice Ao29 t279.length co29)) (fun _ hk => ⟨hk.1.1.1, ⟨hk.1.1.2, hk.1.2⟩⟩)))⟩; have n1_ : Aside0 (Kd.R (Kd.int .u8) 5 w30 w.heap.size (fun k_ => some k_ ≠ (.slice Ao20 t269.length co20 : Value).ownBlock ∧ some k_ ≠ (.slice Ao26 t276.length co26 : Value).ownBlock ∧ some k_ ≠ (.slice Ao29 t279.length co29 : Value).ownBlock) (.slice Ao21 t272.length co21) t272) := ⟨(by rw [hw]; exact (by (with_reducible repeat (first | apply Kd.R_alloc | apply Kd.R_drewN | apply Kd.R_drew)); exact Kd.R_mono (Kd.R_far (p := ⟨gb282, 1, none⟩) (Kd.R_far (p := ⟨gb282, 0, none⟩) (Kd.R_types HO274.out BK282.out (by decide)) (fun _ hk => hk.2) (.slice Ao26 t276.length co26)) (fun _ hk => hk.2) (.slice Ao29 t279.length co29)) (fun _ hk => ⟨hk.1.1.1, ⟨hk.1.1.2, hk.1.2⟩⟩)))⟩; have n2_ : Aside0 (Kd.R (Kd.int .u8) 5 w30 w.heap.size (fun k_ => some k_ ≠ (.slice Ao20 t269.length co20 : Value).ownBlock ∧ some k_ ≠ (.slice Ao21 t272.length co21 : Value).ownBlock ∧ some k_ ≠ (.slice Ao29 t279.length co29 : Value).ownBlock) (.slice Ao26 t276.length co26) t276) := ⟨(by rw [hw]; exact (by (with_reducible repeat (first | apply Kd.R_alloc | apply Kd.R_drewN | apply Kd.R_drew)); exact Kd.R_mono (Kd.R_far (p := ⟨gb282, 1, none⟩) (Kd.R_far (p := ⟨gb282, 0, none⟩) (Kd.R_types HO278.out BK282.out (by decide)) (fun _ hk => hk.2) (.slice Ao26 t276.length co26)) (fun _ hk => hk.2) (.slice Ao29 t279.length co29)) (fun _ hk => ⟨hk.1.1.2, ⟨hk.1.2, hk.1.1.1⟩⟩)))⟩; have n3_ : Aside0 (Kd.R (Kd.int .u8) 5 w30 w.heap.size (fun k_ => some k_ ≠ (.slice Ao20 t269.length co20 : Value).ownBlock ∧ some k_ ≠ (.slice Ao21 t272.length co21 : Value).ownBlock ∧ some k_ ≠ (.slice Ao26 t276.length co26 : Value).ownBlock) (.slice Ao29 t279.length co29) t279) := ⟨(by rw [hw]; exact (by (with_reducible repeat (first | apply Kd.R_alloc | apply Kd.R_drewN | apply Kd.R_drew)); exact Kd.R_mono (Kd.R_far (p := ⟨gb282, 1, none⟩) (Kd.R_far (p := ⟨gb282, 0, none⟩) (Kd.R_types HO281.out BK282.out (by decide)) (fun _ hk => hk.2) (.slice Ao26 t276.length co26)) (fun _ hk => hk.2) (.slice Ao29 t279.length co29)) (fun _ hk => ⟨hk.1.1.2, ⟨hk.1.2, hk.1.1.1⟩⟩)))⟩; have n4_ : Aside0 (w30.heap[gb267]? = some (.cells #[.slice A0_0 l0_0.length c0_0, .slice A0_1 l0_1.length c0_1] 97 (0, 0))) := ⟨(by rw [hw]; exact (by (with_reducible repeat (first | refine blk_drewN ?_ _ | refine blk_drew ?_ | refine blk_alloc ?_ _)); refine blk_far ?_ NB267_282.out _; (with_reducible repeat (first | refine blk_drewN ?_ _ | refine blk_drew ?_ | refine blk_alloc ?_ _)); refine blk_far ?_ NB267_282.out _; (with_reducible repeat (first | refine blk_drewN ?_ _ | refine blk_drew ?_ | refine blk_alloc ?_ _)); exact BK267.out))⟩; have n5_ : Aside0 (w30.heap[gb282]? = some (.cells #[.slice Ao26 t276.length co26, .slice Ao29 t279.length co29] 100 (0, 0))) := ⟨(by rw [hw]; exact (by (with_reducible repeat (first | refine blk_drewN ?_ _ | refine blk_drew ?_ | refine blk_alloc ?_ _)); refine blk_put (cs := #[.slice Ao26 t276.length co26, .slice none 0 0]) ?_ 1 _ rfl; (with_reducible repeat (first | refine blk_drewN ?_ _ | refine blk_drew ?_ | refine blk_alloc ?_ _)); refine blk_put (cs := #[.slice none 0 0, .slice none 0 0]) ?_ 0 _ rfl; (with_reducible repeat (first | refine blk_drewN ?_ _ | refine blk_drew ?_ | refine blk_alloc ?_ _)); exact BK282.out))⟩; have n6_ : Aside0 (Below w.heap.size w w30) := ⟨(by rw [hw]; exact bb_)⟩; clear hw; clear HO271; clear HO274; clear HO278; clear HO281; clear BK267; clear BK282; clear HB; have HO271 := n0_; have HO274 := n1_; have HO278 := n2_; have HO281 := n3_; have BK267 := n4_; have BK282 := n5_; have HB := n6_; clear n0_ n1_ n2_ n3_ n4_ n5_ n6_; obtain ⟨hcz31_0, hcz31_1, hfz31_0, hfz31_1⟩ := cf2_ BK282) | ((with_reducible refine gate_callee (f := 64) rfl ?_); refine goe_ (some 18) Try.func64 #[.agg #[.slice Ao26 t276.length co26, .slice Ao29 t279.length co29]] ?_; (with_reducible refine (impl_JournalFault.calls k (fun k_ => some k_ = (.slice Ao26 t276.length co26 : Value).ownBlock) _ _ t276 (fun k_ => some k_ = (.slice Ao29 t279.length co29 : Value).ownBlock) _ _ t279 t283 _ ?side1 ?side2 A10.out).mono ?_); (case side1 => exact Kd.R_V (Kd.R_tight rfl (Kd.R_types (Kd.R_types (HO278.out) BK267.out (by decide)) BK282.out (by decide)))); (case side2 => exact Kd.R_V (Kd.R_tight rfl (Kd.R_types (Kd.R_types (HO281.out) BK267.out (by decide)) BK282.out (by decide)))); rintro e w32 ⟨rfl, hb⟩; refine ⟨_, rfl, ?_⟩; replace HO271 := Aside0.mk (Kd.R_below (kr_ HO271) hb); replace HO274 := Aside0.mk (Kd.R_below (kr_ HO274) hb); replace HO278 := Aside0.mk (Kd.R_below (kr_ HO278) hb); replace HO281 := Aside0.mk (Kd.R_below (kr_ HO281) hb); replace BK267 := Aside0.mk (blk_below (kb_ BK267) hb); replace BK282 := Aside0.mk (blk_below (kb_ BK282) hb); replace HB := Aside0.mk (below_step bb_ hb); (try clear hb); (try clear hb2); (try clear hk); (try clear hi)))
        have n0_ := Aside0.mk (Kd.R_drew HO271.out)
        have n1_ := Aside0.mk (Kd.R_drew HO274.out)
        have n2_ := Aside0.mk (Kd.R_drew HO278.out)
        have n3_ := Aside0.mk (Kd.R_drew HO281.out)
        have n4_ := Aside0.mk (blk_drew BK267.out)
        have n5_ := Aside0.mk (blk_drew BK282.out)
        have n6_ := Aside0.mk (below_drew1 HB.out)
        clear HO271
        clear HO274
        clear HO278
        clear HO281
        clear BK267
        clear BK282
        clear HB
        have HO271 := n0_
        have HO274 := n1_
        have HO278 := n2_
        have HO281 := n3_
        have BK267 := n4_
        have BK282 := n5_
        have HB := n6_
        clear n0_ n1_ n2_ n3_ n4_ n5_ n6_
        refine start_ (n := 5) (S := fun w' => w'.cell? ⟨gb282, 0, none⟩ = some (.slice Ao26 t276.length co26) ∧ w'.cell? ⟨gb282, 1, none⟩ = some (.slice Ao29 t279.length co29) ∧ w'.cell? ⟨gb267, 0, none⟩ = some (.slice A0_0 l0_0.length c0_0) ∧ w'.cell? ⟨gb267, 1, none⟩ = some (.slice A0_1 l0_1.length c0_1)) (ds := []) #[false, false, false, false, false] (by kernel_rfl) rfl rfl ⟨(blk_cell BK282.out 0).trans rfl, (blk_cell BK282.out 1).trans rfl, (blk_cell BK267.out 0).trans rfl, (blk_cell BK267.out 1).trans rfl⟩ (fun hHeld => ?_)
        generalize w32.drew = w33 at HO271 HO274 HO278 HO281 BK267 BK282 HB hHeld ⊢
        refine take_ (i := 0) (N := some 22) (v := ?_) (a' := ?_) #[true, false, false, false, false] rfl rfl (by kernel_rfl) (fun _ _ _ h => h) (Or.inl ⟨by rfl, ?_⟩) hHeld ?_ ?_
        rotate_left
        · rintro w' ⟨s0, s1, s2, s3⟩
          go_simp
          with_reducible rfl
        rotate_left
        · simp only [Act.put, List.setIfInBounds_toArray, List.set_cons_zero, List.set_cons_succ, i64_w, i32_w]
          rfl
        refine take_ (i := 1) (N := some 23) (v := ?_) (a' := ?_) #[true, true, false, false, false] rfl rfl (by kernel_rfl) (fun _ _ _ h => h) (Or.inl ⟨by rfl, ?_⟩) hHeld ?_ ?_
        rotate_left
        · rintro w' ⟨s0, s1, s2, s3⟩
          go_simp
          with_reducible rfl
        rotate_left
        · simp only [Act.put, List.setIfInBounds_toArray, List.set_cons_zero, List.set_cons_succ, i64_w, i32_w]
          rfl
        refine one_ (i := 2) (N := some 24) #[true, true, true, false, false] rfl rfl (by kernel_rfl) (by decide) (fun K hK => ?_)
        refine goes_ Try.func63 (by kernel_rfl) rfl #[.agg #[.slice A0_0 l0_0.length c0_0, .slice A0_1 l0_1.length c0_1]] (by rfl) rfl rfl (by (try simp only [List.map_toArray, List.map_cons, List.map_nil]); first | done | rfl | (simp only [List.length_drop, List.length_take]; rfl)) ?_
        with_reducible refine (laws_toJournal.calls k _ _ l0_0 _ _ l0_1 t284 t287 _ ?side1 ?side2 ?side3 ?side4 A12.out).mono ?_
        (case side1 => exact kc_ (Kd.C_below HR0_0.out HB.out))
        (case side2 => exact HC0_0.out)
        (case side3 => exact kc_ (Kd.C_below HR0_1.out HB.out))
        (case side4 => exact HC0_1.out)
        rintro e w34 ⟨v285, v288, rfl, ho0, ho1, hb⟩
        refine ⟨_, rfl, ?_⟩
        have n0_ := Aside0.mk (Kd.R_mono (Kd.R_told (Kd.R_told (Kd.R_old (kr_ HO271) hb) (Kd.R_base ho0)) (Kd.R_base ho1)) (fun _ h_ => h_.1))
        have n1_ := Aside0.mk (Kd.R_mono (Kd.R_told (Kd.R_told (Kd.R_old (kr_ HO274) hb) (Kd.R_base ho0)) (Kd.R_base ho1)) (fun _ h_ => h_.1))
        have n2_ := Aside0.mk (Kd.R_mono (Kd.R_told (Kd.R_told (Kd.R_old (kr_ HO278) hb) (Kd.R_base ho0)) (Kd.R_base ho1)) (fun _ h_ => h_.1))
        have n3_ := Aside0.mk (Kd.R_mono (Kd.R_told (Kd.R_told (Kd.R_old (kr_ HO281) hb) (Kd.R_base ho0)) (Kd.R_base ho1)) (fun _ h_ => h_.1))
        have n4_ := Aside0.mk (Kd.R_lower (Kd.R_new' (Kd.R_new' (Kd.R_new' (Kd.R_new' ho0 (Kd.R_lt (kr_ HO271))) (Kd.R_lt (kr_ HO274))) (Kd.R_lt (kr_ HO278))) (Kd.R_lt (kr_ HO281))) (below_size bb_))
        have n5_ := Aside0.mk (Kd.R_lower (Kd.R_new' (Kd.R_new' (Kd.R_new' (Kd.R_new' ho1 (Kd.R_lt (kr_ HO271))) (Kd.R_lt (kr_ HO274))) (Kd.R_lt (kr_ HO278))) (Kd.R_lt (kr_ HO281))) (below_size bb_))
        have n6_ := Aside0.mk (blk_below (kb_ BK267) hb)
        have n7_ := Aside0.mk (blk_below (kb_ BK282) hb)
        have n8_ := Aside0.mk (below_step bb_ hb)
        clear HO271
        clear HO274
        clear HO278
        clear HO281
        clear BK267
        clear BK282
        clear HB
        have HO271 := n0_
        have HO274 := n1_
        have HO278 := n2_
        have HO281 := n3_
        have HO286 := n4_
        have HO289 := n5_
        have BK267 := n6_
        have BK282 := n7_
        have HB := n8_
        clear n0_ n1_ n2_ n3_ n4_ n5_ n6_ n7_ n8_
        (try clear hb)
        (try clear hb2)
        (try clear hk)
        (try clear hi)
        (try clear ho0)
        (try clear ho1)
        obtain ⟨Ao35, co35, eo35⟩ := Kd.R_slice HO286.out
        (first | subst eo35 | (injection eo35 with f1_ f2_ f3_; have f4_ := f1_.symm; have f5_ := f3_.symm; clear f1_ f2_ f3_; subst f4_; subst f5_))
        obtain ⟨Ao36, co36, eo36⟩ := Kd.R_slice HO289.out
        (first | subst eo36 | (injection eo36 with f1_ f2_ f3_; have f4_ := f1_.symm; have f5_ := f3_.symm; clear f1_ f2_ f3_; subst f4_; subst f5_))
        refine hK.out _ _ ⟨(blk_cell BK282.out 0).trans rfl, (blk_cell BK282.out 1).trans rfl, (blk_cell BK267.out 0).trans rfl, (blk_cell BK267.out 1).trans rfl⟩ (fun hHeld => ?_)
        clear hK K
        refine norm_ (a' := ?_) ?_ ?_
        rotate_left
        · show Act.put _ (some 24) _ = _
          simp only [Act.put, List.setIfInBounds_toArray, List.set_cons_zero, List.set_cons_succ, i64_w, i32_w]
          rfl
        refine one_ (i := 3) (N := some 25) #[true, true, true, true, false] rfl rfl (by kernel_rfl) (by decide) (fun K hK => ?_)
        refine goes_ Try.func65 (by kernel_rfl) rfl #[.agg #[.slice Ao26 t276.length co26, .slice Ao29 t279.length co29], .agg #[.slice Ao35 t284.length co35, .slice Ao36 t287.length co36]] (by rfl) rfl rfl (by (try simp only [List.map_toArray, List.map_cons, List.map_nil]); first | done | rfl | (simp only [List.length_drop, List.length_take]; rfl)) ?_
        with_reducible refine (laws_eqJournal.calls k _ _ t276 _ _ t279 _ _ t284 _ _ t287 true _ ?side1 ?side2 ?side3 ?side4 ?side5 ?side6 ?side7 ?side8 A13.out).mono ?_
        (case side1 => exact kc_ ((Kd.R_reads' HO278.out).2.2))
        (case side2 => exact (Kd.R_reads' HO278.out).2.1)
        (case side3 => exact kc_ ((Kd.R_reads' HO281.out).2.2))
        (case side4 => exact (Kd.R_reads' HO281.out).2.1)
        (case side5 => exact kc_ ((Kd.R_reads' HO286.out).2.2))
        (case side6 => exact (Kd.R_reads' HO286.out).2.1)
        (case side7 => exact kc_ ((Kd.R_reads' HO289.out).2.2))
        (case side8 => exact (Kd.R_reads' HO289.out).2.1)
        rintro e w37 ⟨rfl, hb⟩
        refine ⟨_, rfl, ?_⟩
        have n0_ := Aside0.mk (Kd.R_below (kr_ HO271) hb)
        have n1_ := Aside0.mk (Kd.R_below (kr_ HO274) hb)
        have n2_ := Aside0.mk (Kd.R_below (kr_ HO278) hb)
        have n3_ := Aside0.mk (Kd.R_below (kr_ HO281) hb)
        have n4_ := Aside0.mk (Kd.R_below (kr_ HO286) hb)
        have n5_ := Aside0.mk (Kd.R_below (kr_ HO289) hb)
        have n6_ := Aside0.mk (blk_below (kb_ BK267) hb)
        have n7_ := Aside0.mk (blk_below (kb_ BK282) hb)
        have n8_ := Aside0.mk (below_step bb_ hb)
        clear HO271
        clear HO274
        clear HO278
        clear HO281
        clear HO286
        clear HO289
        clear BK267
        clear BK282
        clear HB
        have HO271 := n0_
        have HO274 := n1_
        have HO278 := n2_
        have HO281 := n3_
        have HO286 := n4_
        have HO289 := n5_
        have BK267 := n6_
        have BK282 := n7_
        have HB := n8_
        clear n0_ n1_ n2_ n3_ n4_ n5_ n6_ n7_ n8_
        (try clear hb)
        (try clear hb2)
        (try clear hk)
        (try clear hi)
        refine hK.out _ _ ⟨(blk_cell BK282.out 0).trans rfl, (blk_cell BK282.out 1).trans rfl, (blk_cell BK267.out 0).trans rfl, (blk_cell BK267.out 1).trans rfl⟩ (fun hHeld => ?_)
        clear hK K
        refine norm_ (a' := ?_) ?_ ?_
        rotate_left
        · show Act.put _ (some 25) _ = _
          simp only [Act.put, List.setIfInBounds_toArray, List.set_cons_zero, List.set_cons_succ, i64_w, i32_w]
          rfl
        refine pure_ (i := 4) (N := some 26) (v := ?_) (a' := ?_) #[true, true, true, true, true] rfl rfl (by kernel_rfl) (fun _ _ _ h => h) (Or.inl ⟨by rfl, ?_⟩) ?_ ?_
        rotate_left
        · intro w'
          go_simp
          (first | with_reducible rfl | (unfold Instr.field; go_simp; simp only [asAgg]; go_simp; with_reducible rfl))
        rotate_left
        · simp only [Act.put, List.setIfInBounds_toArray, List.set_cons_zero, List.set_cons_succ, i64_w, i32_w]
          rfl
        refine done_ (by kernel_rfl) ?_
        try go_wp2
        go_ret
        exact ⟨er_, bb_⟩
      · replace c14 := Bool.eq_false_iff.mpr c14
        subst c14
        have H1 : (some false) = some true := by rw [if_neg (show ¬ (false = true) by decide)] at H; exact H
        clear H
        have H := H1
        clear H1
        exact absurd H (by simp)
    · rw [if_neg c11] at H
      have c11b0 : (t283 == t275) = false := beq_eq_false_iff_ne.mpr c11
      have c11b1 : (t283 != t275) = true := bne_iff_ne.mpr c11
      exact absurd H (by simp)
end Go.Proofs.Ytfbojdagjecjcaa.PFnExactJournalFault
