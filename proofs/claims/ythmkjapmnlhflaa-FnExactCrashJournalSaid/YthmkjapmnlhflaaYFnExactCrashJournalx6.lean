/- The functions that the law FnExactCrashJournal reaches: each as a plain Lean function, with the proof that the call does what it says. -/
import Derived.Test.YthmkjapmnlhflaaYFnExactCrashJournalx0
import Derived.Test.YthmkjapmnlhflaaYFnExactCrashJournalx2
import Derived.Test.YthmkjapmnlhflaaYFnExactCrashJournalx5
namespace Go.Proofs.Ythmkjapmnlhflaa.PFnExactCrashJournal
open Go.RowKit Go.Proofs.YthmkjapmnlhflaaW.PrintWords Go.Proofs.YthmkjapmnlhflaaW.PrintLast Go.Proofs.YthmkjapmnlhflaaW.PrintMore
attribute [local go_sem] max2_int min2_int max_two min_two max_three min_three max_four min_four
set_option linter.unusedVariables false
set_option linter.unusedSimpArgs false
def spec_l10Read.l0 : Nat → List Int → List (S61) → Int → Option ((List (S61)) × Int)
  | 0, _, _, _ => none
  | k + 1, x0, x4, x5 => if 0 ≤ x5 then (if x5 ≤ (x0.length : Int) then ((spec_l10One.f k (x0.drop (x5 : Int).toNat)).bind fun bt207 => (if bt207.2.2.2.2 = 0 then (some (x4, x5)) else (if x4.length < 2932031007402 then (spec_l10Read.l0 k x0 (x4 ++ [(⟨bt207.1, (⟨bt207.2.1, bt207.2.2.1, bt207.2.2.2.1⟩ : S59)⟩ : S61)]) (wrap64 (x5 + bt207.2.2.2.2))) else (none)))) else (none)) else (none)
def spec_l10Read.f (k : Nat) (l0 : List Int) : Option ((List (S61)) × Int) := spec_l10Read.l0 k l0 (([] : List (S61))) 0
theorem spec_l10Read.mono_l : ∀ k, (∀ y0 y1 y2, LeO (spec_l10Read.l0 k y0 y1 y2) (spec_l10Read.l0 (k + 1) y0 y1 y2))
  | 0 => fun _ _ _ r h => by simp [spec_l10Read.l0] at h
  | k + 1 => by
    have ih0 := spec_l10Read.mono_l k
    · intro y0 y1 y2
      unfold spec_l10Read.l0
      repeat' first
      | (with_reducible exact ih0 _ _ _)
      | (with_reducible exact spec_l10One.mono _ _)
      | (with_reducible exact LeO.refl _)
      | (with_reducible exact LeO.none _)
      | (with_reducible refine LeO.ite ?_ ?_)
      | (with_reducible refine LeO.bind ?_ (fun _ => ?_))
      | exact ih0 _ _ _
      | exact spec_l10One.mono _ _
      | exact LeO.none _
      | refine LeO.ite ?_ ?_
      | refine LeO.bind ?_ (fun _ => ?_)
theorem spec_l10Read.mono : ∀ a0 k, LeO (spec_l10Read.f k a0) (spec_l10Read.f (k + 1) a0) := by
  intro a0 k
  have ih0 := spec_l10Read.mono_l k
  unfold spec_l10Read.f
  repeat' first
      | (with_reducible exact ih0 _ _ _)
      | (with_reducible exact spec_l10One.mono _ _)
      | (with_reducible exact LeO.refl _)
      | (with_reducible exact LeO.none _)
      | (with_reducible refine LeO.ite ?_ ?_)
      | (with_reducible refine LeO.bind ?_ (fun _ => ?_))
      | exact ih0 _ _ _
      | exact spec_l10One.mono _ _
      | exact LeO.none _
      | refine LeO.ite ?_ ?_
      | refine LeO.bind ?_ (fun _ => ?_)
set_option maxHeartbeats 8000000 in
set_option maxRecDepth 100000 in
theorem spec_l10Read.calls (k : Nat) (A0 : Option Addr) (c0 : Nat) (l0 : List Int) (r1 : List (S61)) (r2 : Int) (w : World) (hr0 : Kd.C (Kd.int .u8) w A0 l0.length l0) (hc0 : l0.length ≤ c0) (h : spec_l10Read.f k l0 = some (r1, r2)) :
    Calls Try.prog 78 #[.slice A0 l0.length c0] w fun e w' => ∃ v0_ : Value, e = .returned (.tuple #[v0_, .int .i64 r2]) ∧ Kd.S k61 61 w' w.heap.size (fun _ => True) v0_ r1 ∧ Below w.heap.size w w' := by
  have hu61 := Try.underlying61
  have HR0 := Aside0.mk hr0
  have HC0 := Aside0.mk hc0
  clear hr0 hc0
  have HB := Aside0.mk (Below.refl w.heap.size w)
  have H : (spec_l10Read.l0 k l0 (([] : List (S61))) 0) = some (r1, r2) := h
  clear h
  obtain ⟨y203, hy203⟩ : ∃ y_ : List (S61), y_ = (([] : List (S61))) := ⟨_, rfl⟩
  replace H : (spec_l10Read.l0 k l0 y203 0) = some (r1, r2) := by first | (rw [hy203]; with_reducible exact H) | (have H2_ := (Option.bind_some _ _).symm.trans H; rw [hy203]; with_reducible exact H2_) | (have H2_ := (Option.bind_some _ _).symm.trans H; with_reducible exact H2_) | with_reducible exact H | (rw [hy203]; exact H) | exact H
  have Ny203 := Aside0.mk hy203
  clear hy203
  have H' := Aside0.mk H
  clear H
  go_enter Try.func78, Try.ntmps78
  go_wp2_with (first | ((with_reducible refine gate_dst (N := 8) rfl ?_); refine Kd.S_lit k61 _ 61 ?hg (N := 8) ?hd (xs := ([] : List (S61))) (inner := []) (ok := fun _ => True) (okp := fun _ => True) ?hr ?hp (fun _ hk => hk) trivial (Below.refl _ _) (Nat.le_refl _) (by simp) ?_; (case hd => rfl); (case hg => rfl); (case hr => first | (go_simp; done) | (go_simp; rfl)); (case hp => exact (Reps.none _ _)); intro v204 w2 ho3 hb hg_ hnew_; clear hg_ hnew_; (first | rw [← Ny203.out] at ho3 | (simp only [Int.reduceToNat] at ho3; rw [← Ny203.out] at ho3)); have HO205 := Aside0.mk (Kd.S_lower ho3 (below_size bb_)); replace HB := Aside0.mk (below_step bb_ hb); clear hb ho3))
  go_loopg [4, 5] k (fun kq v4 v5 w' => ∃ (x4_1 : List (S61)) (x5_1 : Int), v5 = .int .i64 x5_1 ∧ Aside0 (spec_l10Read.l0 kq l0 x4_1 x5_1 = some (r1, r2)) ∧ Aside0 (kq ≤ k) ∧ Aside0 (Kd.S k61 61 w' w.heap.size (fun _ => True) v4 x4_1) ∧ Aside0 (Below w.heap.size w w'))
  case atStart => exact ⟨(y203), (0), sd_, H', ⟨Nat.le_refl _⟩, ⟨by (with_reducible repeat (first | apply Kd.S_alloc | apply Kd.S_drewN | apply Kd.S_drew)); exact HO205.out⟩, ⟨bb_⟩⟩
  case round =>
    clear H'
    try clear p2
    obtain ⟨x4_1, x5_1, rfl, HA, HK1, HO_4, HB⟩ := hrel
    cases gk with
    | zero => exact absurd HA.out (by simp [spec_l10Read.l0])
    | succ k1 =>
      have H := HA.out
      clear HA
      simp only [spec_l10Read.l0] at H
      by_cases c4 : 0 ≤ x5_1
      · rw [if_pos c4] at H
        have c4b0 := eq_true c4
        have c4b1 : decide (0 ≤ x5_1) = true := decide_eq_true c4
        clear c4
        by_cases c5 : x5_1 ≤ (l0.length : Int)
        · rw [if_pos c5] at H
          have c5b0 := eq_true c5
          have c5b1 : decide (x5_1 ≤ (l0.length : Int)) = true := decide_eq_true c5
          clear c5
          replace H := Option.bind_eq_some_iff.mp H
          obtain ⟨⟨t207, t208, t209, t210, t213⟩, A60, H⟩ := H
          replace H : (if t213 = 0 then (some (x4_1, x5_1)) else (if x4_1.length < 2932031007402 then (spec_l10Read.l0 k1 l0 (x4_1 ++ [(⟨t207, (⟨t208, t209, t210⟩ : S59)⟩ : S61)]) (wrap64 (x5_1 + t213))) else (none))) = some (r1, r2) := H
          have A6 := Aside0.mk A60
          clear A60
          by_cases c7 : t213 = 0
          · rw [if_pos c7] at H
            have c7b0 : (t213 == 0) = true := beq_iff_eq.mpr c7
            have c7b1 : (t213 != 0) = false := bne_eq_false_iff_eq.mpr c7
            clear c7
            simp only [Option.some.injEq, Prod.mk.injEq] at H
            obtain ⟨rfl, rfl⟩ := H
            obtain ⟨i08, hi08, _, hsz8, _⟩ := info_parts info5
            obtain ⟨A8, hcut8, hA8, hC8⟩ := print_drop_of (P := Try.prog) (Value.int .u8) 0 22 5 .i64 Try.underlying22 hi08 hsz8 A0 c0 l0 x5_1 (of_decide_eq_true as_) (of_decide_eq_true as_) HC0.out
            have HR206 := Aside0.mk (Kd.C_of_reads (h1 := fun _ => rfl) (hA8 _ (Kd.reads_of_C HR0.out)))
            have HC206 := Aside0.mk hC8
            clear hA8 hC8 hi08 hsz8
            generalize hdl8_ : (l0.drop (x5_1 : Int).toNat) = dl8_ at *
            go_wp2_with (first | ((with_reducible refine gate_callee (f := 134) rfl ?_); refine goesL_ (some 13) rfl rfl Try.func134 (by kernel_rfl) rfl #[.slice A8 dl8_.length (c0 - x5_1.toNat)] rfl (by (try simp only [List.map_toArray, List.map_cons, List.map_nil]); first | done | (rw [show dl8_.length = (l0.length - x5_1.toNat) from List.length_drop] <;> rfl) | rfl | (simp only [List.length_drop, List.length_take]; rfl)) ?_; (with_reducible refine (spec_l10One.calls k1 _ _ dl8_ t207 t208 t209 t210 t213 _ ?side1 ?side2 A6.out).mono ?_); (case side1 => exact kc_ (Kd.C_below HR206.out HB.out)); (case side2 => exact HC206.out); rintro e w9 ⟨v211, rfl, ho0, hb⟩; refine ⟨_, rfl, ?_⟩; replace HO_4 := Aside0.mk (Kd.S_elder' (by (with_reducible repeat (first | apply Kd.S_alloc | apply Kd.S_drewN | apply Kd.S_drew)); exact HO_4.out) (Kd.R_base ho0) hb); have HO212 := Aside0.mk (Kd.R_lower ho0 (below_size bb_)); replace HB := Aside0.mk (below_step bb_ hb); (try clear hb); (try clear hb2); (try clear hk); (try clear hi); (try clear ho0)) | ((with_reducible refine gate_dst (N := 6) rfl ?_); refine box_e_ 6 #[.int .i64 0, .int .i64 0, .int .i64 0, .slice none 0 0] 61 ?_; intro gb214 hg w10 hbox hb; replace HO_4 := Aside0.mk (Kd.S_below (Kd.S_elderB (by (with_reducible repeat (first | apply Kd.S_alloc | apply Kd.S_drewN | apply Kd.S_drew)); exact HO_4.out) gb214 (Nat.le_of_eq hg.symm)) hb); replace HO212 := Aside0.mk (Kd.R_below (kr_ HO212) hb); have BK214 := Aside0.mk (hbox); have GW214 := (bs_ hg : Aside0 (w.heap.size ≤ _)); have GE214 := (bs_ hg : Aside0 (w.heap.size ≤ _)); replace HB := Aside0.mk (below_step bb_ hb); clear hb hbox hg; obtain ⟨hcz11_0, hcz11_1, hcz11_2, hcz11_3, hfz11_0, hfz11_1, hfz11_2, hfz11_3⟩ := cf4_ BK214; obtain ⟨Ao12, co12, eo12⟩ := Kd.R_slice HO212.out; subst eo12))
            go_ret2
            exact ⟨_, er_, by (with_reducible repeat (first | apply Kd.S_alloc | apply Kd.S_drewN | apply Kd.S_drew)); exact Kd.S_mono (Kd.S_far (p := ⟨gb214, 3, none⟩) (Kd.S_far (p := ⟨gb214, 2, none⟩) (Kd.S_far (p := ⟨gb214, 1, none⟩) (Kd.S_far (p := ⟨gb214, 0, none⟩) (Kd.S_mono HO_4.out (fun k_ hk => (⟨hk, hk.2⟩ : _ ∧ k_ ≠ gb214))) (fun _ hk => hk.2) (.int .i64 t207)) (fun _ hk => hk.2) (.int .i64 t208)) (fun _ hk => hk.2) (.int .i64 t209)) (fun _ hk => hk.2) (.slice Ao12 t210.length co12)) (fun _ hk => trivial), bb_⟩
          · rw [if_neg c7] at H
            have c7b0 : (t213 == 0) = false := beq_eq_false_iff_ne.mpr c7
            have c7b1 : (t213 != 0) = true := bne_iff_ne.mpr c7
            by_cases c13 : x4_1.length < 2932031007402
            · rw [if_pos c13] at H
              have LMc13 := Aside0.mk c13
              clear c13
              obtain ⟨y215, hy215⟩ : ∃ y_ : List (S61), y_ = (x4_1 ++ [(⟨t207, (⟨t208, t209, t210⟩ : S59)⟩ : S61)]) := ⟨_, rfl⟩
              replace H : (spec_l10Read.l0 k1 l0 y215 (wrap64 (x5_1 + t213))) = some (r1, r2) := by first | (rw [hy215]; with_reducible exact H) | (have H2_ := (Option.bind_some _ _).symm.trans H; rw [hy215]; with_reducible exact H2_) | (have H2_ := (Option.bind_some _ _).symm.trans H; with_reducible exact H2_) | with_reducible exact H | (rw [hy215]; exact H) | exact H
              have Ny215 := Aside0.mk hy215
              clear hy215
              have H' := Aside0.mk H
              clear H
              obtain ⟨i014, hi014, _, hsz14, _⟩ := info_parts info5
              obtain ⟨A14, hcut14, hA14, hC14⟩ := print_drop_of (P := Try.prog) (Value.int .u8) 0 22 5 .i64 Try.underlying22 hi014 hsz14 A0 c0 l0 x5_1 (of_decide_eq_true as_) (of_decide_eq_true as_) HC0.out
              have HR206 := Aside0.mk (Kd.C_of_reads (h1 := fun _ => rfl) (hA14 _ (Kd.reads_of_C HR0.out)))
              have HC206 := Aside0.mk hC14
              clear hA14 hC14 hi014 hsz14
              generalize hdl14_ : (l0.drop (x5_1 : Int).toNat) = dl14_ at *
              go_wp2_with (first | ((with_reducible refine gate_callee (f := 134) rfl ?_); refine goesL_ (some 13) rfl rfl Try.func134 (by kernel_rfl) rfl #[.slice A14 dl14_.length (c0 - x5_1.toNat)] rfl (by (try simp only [List.map_toArray, List.map_cons, List.map_nil]); first | done | (rw [show dl14_.length = (l0.length - x5_1.toNat) from List.length_drop] <;> rfl) | rfl | (simp only [List.length_drop, List.length_take]; rfl)) ?_; (with_reducible refine (spec_l10One.calls k1 _ _ dl14_ t207 t208 t209 t210 t213 _ ?side1 ?side2 A6.out).mono ?_); (case side1 => exact kc_ (Kd.C_below HR206.out HB.out)); (case side2 => exact HC206.out); rintro e w15 ⟨v211, rfl, ho0, hb⟩; refine ⟨_, rfl, ?_⟩; replace HO_4 := Aside0.mk (Kd.S_elder' (by (with_reducible repeat (first | apply Kd.S_alloc | apply Kd.S_drewN | apply Kd.S_drew)); exact HO_4.out) (Kd.R_base ho0) hb); have HO212 := Aside0.mk (Kd.R_lower ho0 (below_size bb_)); replace HB := Aside0.mk (below_step bb_ hb); (try clear hb); (try clear hb2); (try clear hk); (try clear hi); (try clear ho0)) | ((with_reducible refine gate_dst (N := 6) rfl ?_); refine box_e_ 6 #[.int .i64 0, .int .i64 0, .int .i64 0, .slice none 0 0] 61 ?_; intro gb214 hg w16 hbox hb; replace HO_4 := Aside0.mk (Kd.S_below (Kd.S_elderB (by (with_reducible repeat (first | apply Kd.S_alloc | apply Kd.S_drewN | apply Kd.S_drew)); exact HO_4.out) gb214 (Nat.le_of_eq hg.symm)) hb); replace HO212 := Aside0.mk (Kd.R_below (kr_ HO212) hb); have BK214 := Aside0.mk (hbox); have GW214 := (bs_ hg : Aside0 (w.heap.size ≤ _)); have GE214 := (bs_ hg : Aside0 (w.heap.size ≤ _)); replace HB := Aside0.mk (below_step bb_ hb); clear hb hbox hg; obtain ⟨hcz17_0, hcz17_1, hcz17_2, hcz17_3, hfz17_0, hfz17_1, hfz17_2, hfz17_3⟩ := cf4_ BK214; obtain ⟨Ao18, co18, eo18⟩ := Kd.R_slice HO212.out; subst eo18) | ((with_reducible refine gate_store (t := 61) (p := 6) rfl ?_); refine store_event (t := 61) (p := 6) (v := ?vo_w19) (w1 := ((((w16.setCell ⟨gb214, 0, none⟩ (.int .i64 t207)).setCell ⟨gb214, 1, none⟩ (.int .i64 t208)).setCell ⟨gb214, 2, none⟩ (.int .i64 t209)).setCell ⟨gb214, 3, none⟩ (.slice Ao18 t210.length co18))) ?hg ?ho ?hn ?hr ?_; (case ho => rfl); (case hg => rfl); (case hn => rfl); (case hr => first | (go_simp; done) | (go_simp; rfl)); intro w19 hw; have n0_ : Aside0 (Kd.S k61 61 w19 w.heap.size (fun k_ => some k_ ≠ (.slice Ao18 t210.length co18 : Value).ownBlock ∧ k_ ≠ gb214) u4 x4_1) := ⟨(by rw [hw]; exact (by (with_reducible repeat (first | apply Kd.S_alloc | apply Kd.S_drewN | apply Kd.S_drew)); exact Kd.S_mono (Kd.S_far (p := ⟨gb214, 3, none⟩) (Kd.S_far (p := ⟨gb214, 2, none⟩) (Kd.S_far (p := ⟨gb214, 1, none⟩) (Kd.S_far (p := ⟨gb214, 0, none⟩) (Kd.S_mono HO_4.out (fun k_ hk => (⟨hk, hk.2⟩ : _ ∧ k_ ≠ gb214))) (fun _ hk => hk.2) (.int .i64 t207)) (fun _ hk => hk.2) (.int .i64 t208)) (fun _ hk => hk.2) (.int .i64 t209)) (fun _ hk => hk.2) (.slice Ao18 t210.length co18)) (fun _ hk => ⟨hk.1.1.2, hk.1.2⟩)))⟩; have n1_ : Aside0 (Kd.R (Kd.int .u8) 5 w19 w.heap.size (fun _ => True) (.slice Ao18 t210.length co18) t210) := ⟨(by rw [hw]; exact (by (with_reducible repeat (first | apply Kd.R_alloc | apply Kd.R_drewN | apply Kd.R_drew)); exact Kd.R_mono (Kd.R_far (p := ⟨gb214, 3, none⟩) (Kd.R_far (p := ⟨gb214, 2, none⟩) (Kd.R_far (p := ⟨gb214, 1, none⟩) (Kd.R_far (p := ⟨gb214, 0, none⟩) (Kd.R_types HO212.out BK214.out (by decide)) (fun _ hk => hk.2) (.int .i64 t207)) (fun _ hk => hk.2) (.int .i64 t208)) (fun _ hk => hk.2) (.int .i64 t209)) (fun _ hk => hk.2) (.slice Ao18 t210.length co18)) (fun _ hk => trivial)))⟩; have n2_ : Aside0 (w19.heap[gb214]? = some (.cells #[.int .i64 t207, .int .i64 t208, .int .i64 t209, .slice Ao18 t210.length co18] 61 (0, 0))) := ⟨(by rw [hw]; exact (by (with_reducible repeat (first | refine blk_drewN ?_ _ | refine blk_drew ?_ | refine blk_alloc ?_ _)); refine blk_put (cs := #[.int .i64 t207, .int .i64 t208, .int .i64 t209, .slice none 0 0]) ?_ 3 _ rfl; (with_reducible repeat (first | refine blk_drewN ?_ _ | refine blk_drew ?_ | refine blk_alloc ?_ _)); refine blk_put (cs := #[.int .i64 t207, .int .i64 t208, .int .i64 0, .slice none 0 0]) ?_ 2 _ rfl; (with_reducible repeat (first | refine blk_drewN ?_ _ | refine blk_drew ?_ | refine blk_alloc ?_ _)); refine blk_put (cs := #[.int .i64 t207, .int .i64 0, .int .i64 0, .slice none 0 0]) ?_ 1 _ rfl; (with_reducible repeat (first | refine blk_drewN ?_ _ | refine blk_drew ?_ | refine blk_alloc ?_ _)); refine blk_put (cs := #[.int .i64 0, .int .i64 0, .int .i64 0, .slice none 0 0]) ?_ 0 _ rfl; (with_reducible repeat (first | refine blk_drewN ?_ _ | refine blk_drew ?_ | refine blk_alloc ?_ _)); exact BK214.out))⟩; have n3_ : Aside0 (Below w.heap.size w w19) := ⟨(by rw [hw]; exact bb_)⟩; clear hw; clear HO_4; clear HO212; clear BK214; clear HB; have HO_4 := n0_; have HO212 := n1_; have BK214 := n2_; have HB := n3_; clear n0_ n1_ n2_ n3_; obtain ⟨hcz20_0, hcz20_1, hcz20_2, hcz20_3, hfz20_0, hfz20_1, hfz20_2, hfz20_3⟩ := cf4_ BK214) | ((with_reducible refine gate_builtin (b := .append) (xs := #[.tmp 20, .tmp 22]) rfl ?_); at_builtin; refine Kd.S_append k61 (w0 := w) w.heap.size rfl (.tmp 20) (.tmp 22) 71 61 (.agg #[(.int .i64 0), (.int .i64 0), (.int .i64 0), (.slice none 0 0)]) 48 rfl Try.underlying71 info61 rfl (by decide) (by omega) u4 x4_1 (⟨t207, (⟨t208, t209, t210⟩ : S59)⟩ : S61) [.int .i64 t207, .int .i64 t208, .int .i64 t209, .slice Ao18 t210.length co18] (fun k_ => k_ ≠ gb214) (fun k_ => some k_ = (.slice Ao18 t210.length co18 : Value).ownBlock) rfl rfl ?aP (fun k_ hk_ => ((Kd.R_mono (ok' := fun k_ => ((fun k_ => k_ ≠ gb214)) k_ ∧ some k_ ≠ (u4 : Value).ownBlock) (Kd.R_types (Kd.R_apart' (HO212.out) (Kd.S_typed HO_4.out) (by decide)) BK214.out (by decide)) (fun k_ hk => ⟨hk.2, hk.1.2⟩))).1 k_ hk_.symm) ?aF ?aO ?aB ?aS ?aL ?_; (case aP => exact k61_mkM _ _ _ (⟨t207, (⟨t208, t209, t210⟩ : S59)⟩ : S61) (Kd.R_mono (Kd.R_tight rfl (Kd.R_mono (ok' := fun k_ => ((fun k_ => k_ ≠ gb214)) k_ ∧ some k_ ≠ (u4 : Value).ownBlock) (Kd.R_types (Kd.R_apart' (HO212.out) (Kd.S_typed HO_4.out) (by decide)) BK214.out (by decide)) (fun k_ hk => ⟨hk.2, hk.1.2⟩))) (fun _ h_ => h_))); (case aB => exact bb_); (case aF => exact (fun k_ hk => Kd.freshB (g := gb214) (o := .cells #[.int .i64 t207, .int .i64 t208, .int .i64 t209, .slice Ao18 t210.length co18] 61 (0, 0)) (by (with_reducible repeat (first | refine blk_drewN ?_ _ | refine blk_drew ?_ | refine blk_alloc ?_ _)); exact BK214.out) k_ hk)); (case aO => exact (by (with_reducible repeat (first | apply Kd.S_alloc | apply Kd.S_drewN | apply Kd.S_drew)); exact Kd.S_mono HO_4.out (fun k_ hk => ⟨hk.2, fun e_ => hk.1 e_⟩))); (case aS => exact (below_size bb_)); (case aL => have := LMc13.out; omega); intro v216 w21 ho hb hg hat; rw [← Ny215.out] at ho; have n0_ := Aside0.mk (blk_grown (g := gb214) (o := .cells #[.int .i64 t207, .int .i64 t208, .int .i64 t209, .slice Ao18 t210.length co18] 61 (0, 0)) (by (with_reducible repeat (first | refine blk_drewN ?_ _ | refine blk_drew ?_ | refine blk_alloc ?_ _)); exact BK214.out) hg (Kd.S_away HO_4.out (fun _ hk => hk.2))); have n1_ := Aside0.mk (hb); have n2_ := Aside0.mk (ho); clear BK214; clear HB; clear HO_4; clear HO212; have BK214 := n0_; have HB := n1_; have HO217 := n2_; clear n0_ n1_ n2_; clear ho hb hg hat))
              go_roundg k1
              case measure => have := HK1.out; omega
              case rel => exact ⟨(y215), (wrap64 (x5_1 + t213)), sd_, H', ⟨by have := HK1.out; omega⟩, ⟨by (with_reducible repeat (first | apply Kd.S_alloc | apply Kd.S_drewN | apply Kd.S_drew)); exact Kd.S_mono HO217.out (fun _ hk => trivial)⟩, ⟨bb_⟩⟩
            · rw [if_neg c13] at H
              exact absurd H (by simp)
        · rw [if_neg c5] at H
          exact absurd H (by simp)
      · rw [if_neg c4] at H
        exact absurd H (by simp)
def spec_JournalFault.f (k : Nat) (l0_0 : List Int) (l0_1 : List Int) : Option (Int) := if (wrap64 ((l0_0.length : Int) + (l0_1.length : Int))) > 6000 then (some 2) else ((spec_l10Read.f k l0_0).bind fun bt219 => (if bt219.2 = (l0_0.length : Int) then ((spec_l10Read.f k l0_1).bind fun bt223 => (if bt223.2 = (l0_1.length : Int) then (some 0) else (some 5))) else (some 5)))
theorem spec_JournalFault.mono : ∀ a0 a1 k, LeO (spec_JournalFault.f k a0 a1) (spec_JournalFault.f (k + 1) a0 a1) := by
  intro a0 a1 k
  unfold spec_JournalFault.f
  repeat' first
      | (with_reducible exact spec_l10Read.mono _ _)
      | (with_reducible exact LeO.refl _)
      | (with_reducible exact LeO.none _)
      | (with_reducible refine LeO.ite ?_ ?_)
      | (with_reducible refine LeO.bind ?_ (fun _ => ?_))
      | exact spec_l10Read.mono _ _
      | exact LeO.none _
      | refine LeO.ite ?_ ?_
      | refine LeO.bind ?_ (fun _ => ?_)
set_option maxHeartbeats 8000000 in
set_option maxRecDepth 100000 in
theorem spec_JournalFault.calls (k : Nat) (A0_0 : Option Addr) (c0_0 : Nat) (l0_0 : List Int) (A0_1 : Option Addr) (c0_1 : Nat) (l0_1 : List Int) (r : Int) (w : World) (hr0_0 : Kd.C (Kd.int .u8) w A0_0 l0_0.length l0_0) (hc0_0 : l0_0.length ≤ c0_0) (hr0_1 : Kd.C (Kd.int .u8) w A0_1 l0_1.length l0_1) (hc0_1 : l0_1.length ≤ c0_1) (h : spec_JournalFault.f k l0_0 l0_1 = some r) :
    Calls Try.prog 69 #[.agg #[.slice A0_0 l0_0.length c0_0, .slice A0_1 l0_1.length c0_1]] w fun e w' => e = .returned (.int .i64 r) ∧ Below w.heap.size w w' := by
  have hu26 := Try.underlying26
  have HR0_0 := Aside0.mk hr0_0
  have HC0_0 := Aside0.mk hc0_0
  clear hr0_0 hc0_0
  have HR0_1 := Aside0.mk hr0_1
  have HC0_1 := Aside0.mk hc0_1
  clear hr0_1 hc0_1
  have HB := Aside0.mk (Below.refl w.heap.size w)
  have H : (if (wrap64 ((l0_0.length : Int) + (l0_1.length : Int))) > 6000 then (some 2) else ((spec_l10Read.f k l0_0).bind fun bt219 => (if bt219.2 = (l0_0.length : Int) then ((spec_l10Read.f k l0_1).bind fun bt223 => (if bt223.2 = (l0_1.length : Int) then (some 0) else (some 5))) else (some 5)))) = some r := h
  clear h
  by_cases c2 : (wrap64 ((l0_0.length : Int) + (l0_1.length : Int))) > 6000
  · rw [if_pos c2] at H
    have c2b0 : decide (6000 < (wrap64 ((l0_0.length : Int) + (l0_1.length : Int)))) = true := decide_eq_true c2
    clear c2
    obtain rfl := Option.some.inj H
    go_enter Try.func69, Try.ntmps69
    go_wp2_with (first | ((with_reducible refine gate_dst (N := 1) rfl ?_); refine box_e_ 1 #[.slice A0_0 l0_0.length c0_0, .slice A0_1 l0_1.length c0_1] 26 ?_; intro gb218 hg w3 hbox hb; have BK218 := Aside0.mk (hbox); have GW218 := (bs_ hg : Aside0 (w.heap.size ≤ _)); have GE218 := (bs_ hg : Aside0 (w.heap.size ≤ _)); replace HB := Aside0.mk (below_step bb_ hb); clear hb hbox hg; obtain ⟨hcz4_0, hcz4_1, hfz4_0, hfz4_1⟩ := cf2_ BK218))
    go_ret
    exact ⟨er_, bb_⟩
  · rw [if_neg c2] at H
    have c2b0 : decide (6000 < (wrap64 ((l0_0.length : Int) + (l0_1.length : Int)))) = false := decide_eq_false c2
    clear c2
    replace H := Option.bind_eq_some_iff.mp H
    obtain ⟨⟨t219, t220⟩, A50, H⟩ := H
    replace H : (if t220 = (l0_0.length : Int) then ((spec_l10Read.f k l0_1).bind fun bt223 => (if bt223.2 = (l0_1.length : Int) then (some 0) else (some 5))) else (some 5)) = some r := H
    have A5 := Aside0.mk A50
    clear A50
    by_cases c6 : t220 = (l0_0.length : Int)
    · rw [if_pos c6] at H
      have c6b0 : (t220 == (l0_0.length : Int)) = true := beq_iff_eq.mpr c6
      have c6b1 : (t220 != (l0_0.length : Int)) = false := bne_eq_false_iff_eq.mpr c6
      clear c6
      replace H := Option.bind_eq_some_iff.mp H
      obtain ⟨⟨t223, t224⟩, A70, H⟩ := H
      replace H : (if t224 = (l0_1.length : Int) then (some 0) else (some 5)) = some r := H
      have A7 := Aside0.mk A70
      clear A70
      by_cases c8 : t224 = (l0_1.length : Int)
      · rw [if_pos c8] at H
        have c8b0 : (t224 == (l0_1.length : Int)) = true := beq_iff_eq.mpr c8
        have c8b1 : (t224 != (l0_1.length : Int)) = false := bne_eq_false_iff_eq.mpr c8
        clear c8
        obtain rfl := Option.some.inj H
        go_enter Try.func69, Try.ntmps69
        go_wp2_with (first | ((with_reducible refine gate_dst (N := 1) rfl ?_); refine box_e_ 1 #[.slice A0_0 l0_0.length c0_0, .slice A0_1 l0_1.length c0_1] 26 ?_; intro gb218 hg w9 hbox hb; have BK218 := Aside0.mk (hbox); have GW218 := (bs_ hg : Aside0 (w.heap.size ≤ _)); have GE218 := (bs_ hg : Aside0 (w.heap.size ≤ _)); replace HB := Aside0.mk (below_step bb_ hb); clear hb hbox hg; obtain ⟨hcz10_0, hcz10_1, hfz10_0, hfz10_1⟩ := cf2_ BK218) | ((with_reducible refine gate_callee (f := 78) rfl ?_); refine goe_ (some 18) Try.func78 #[.slice A0_0 l0_0.length c0_0] ?_; (with_reducible refine (spec_l10Read.calls k _ _ l0_0 t219 t220 _ ?side1 ?side2 A5.out).mono ?_); (case side1 => exact kc_ (Kd.C_below HR0_0.out HB.out)); (case side2 => exact HC0_0.out); rintro e w11 ⟨v221, rfl, ho0, hb⟩; refine ⟨_, rfl, ?_⟩; have HO222 := Aside0.mk (Kd.S_lower ho0 (below_size bb_)); replace BK218 := Aside0.mk (blk_below (kb_ BK218) hb); replace HB := Aside0.mk (below_step bb_ hb); (try clear hb); (try clear hb2); (try clear hk); (try clear hi); (try clear ho0); obtain ⟨hcz12_0, hcz12_1, hfz12_0, hfz12_1⟩ := cf2_ BK218) | ((with_reducible refine gate_callee (f := 78) rfl ?_); refine goe_ (some 29) Try.func78 #[.slice A0_1 l0_1.length c0_1] ?_; (with_reducible refine (spec_l10Read.calls k _ _ l0_1 t223 t224 _ ?side1 ?side2 A7.out).mono ?_); (case side1 => exact kc_ (Kd.C_below HR0_1.out HB.out)); (case side2 => exact HC0_1.out); rintro e w13 ⟨v225, rfl, ho0, hb⟩; refine ⟨_, rfl, ?_⟩; have HO226 := Aside0.mk (Kd.S_lower (Kd.S_new' ho0 (Kd.S_lt (by (with_reducible repeat (first | apply Kd.S_alloc | apply Kd.S_drewN | apply Kd.S_drew)); exact HO222.out))) (below_size bb_)); replace HO222 := Aside0.mk (Kd.S_elder' (by (with_reducible repeat (first | apply Kd.S_alloc | apply Kd.S_drewN | apply Kd.S_drew)); exact HO222.out) (Kd.S_base ho0) hb); replace BK218 := Aside0.mk (blk_below (kb_ BK218) hb); replace HB := Aside0.mk (below_step bb_ hb); (try clear hb); (try clear hb2); (try clear hk); (try clear hi); (try clear ho0); obtain ⟨hcz14_0, hcz14_1, hfz14_0, hfz14_1⟩ := cf2_ BK218))
        go_ret
        exact ⟨er_, bb_⟩
      · rw [if_neg c8] at H
        have c8b0 : (t224 == (l0_1.length : Int)) = false := beq_eq_false_iff_ne.mpr c8
        have c8b1 : (t224 != (l0_1.length : Int)) = true := bne_iff_ne.mpr c8
        obtain rfl := Option.some.inj H
        go_enter Try.func69, Try.ntmps69
        go_wp2_with (first | ((with_reducible refine gate_dst (N := 1) rfl ?_); refine box_e_ 1 #[.slice A0_0 l0_0.length c0_0, .slice A0_1 l0_1.length c0_1] 26 ?_; intro gb218 hg w15 hbox hb; have BK218 := Aside0.mk (hbox); have GW218 := (bs_ hg : Aside0 (w.heap.size ≤ _)); have GE218 := (bs_ hg : Aside0 (w.heap.size ≤ _)); replace HB := Aside0.mk (below_step bb_ hb); clear hb hbox hg; obtain ⟨hcz16_0, hcz16_1, hfz16_0, hfz16_1⟩ := cf2_ BK218) | ((with_reducible refine gate_callee (f := 78) rfl ?_); refine goe_ (some 18) Try.func78 #[.slice A0_0 l0_0.length c0_0] ?_; (with_reducible refine (spec_l10Read.calls k _ _ l0_0 t219 t220 _ ?side1 ?side2 A5.out).mono ?_); (case side1 => exact kc_ (Kd.C_below HR0_0.out HB.out)); (case side2 => exact HC0_0.out); rintro e w17 ⟨v221, rfl, ho0, hb⟩; refine ⟨_, rfl, ?_⟩; have HO222 := Aside0.mk (Kd.S_lower ho0 (below_size bb_)); replace BK218 := Aside0.mk (blk_below (kb_ BK218) hb); replace HB := Aside0.mk (below_step bb_ hb); (try clear hb); (try clear hb2); (try clear hk); (try clear hi); (try clear ho0); obtain ⟨hcz18_0, hcz18_1, hfz18_0, hfz18_1⟩ := cf2_ BK218) | ((with_reducible refine gate_callee (f := 78) rfl ?_); refine goe_ (some 29) Try.func78 #[.slice A0_1 l0_1.length c0_1] ?_; (with_reducible refine (spec_l10Read.calls k _ _ l0_1 t223 t224 _ ?side1 ?side2 A7.out).mono ?_); (case side1 => exact kc_ (Kd.C_below HR0_1.out HB.out)); (case side2 => exact HC0_1.out); rintro e w19 ⟨v225, rfl, ho0, hb⟩; refine ⟨_, rfl, ?_⟩; have HO226 := Aside0.mk (Kd.S_lower (Kd.S_new' ho0 (Kd.S_lt (by (with_reducible repeat (first | apply Kd.S_alloc | apply Kd.S_drewN | apply Kd.S_drew)); exact HO222.out))) (below_size bb_)); replace HO222 := Aside0.mk (Kd.S_elder' (by (with_reducible repeat (first | apply Kd.S_alloc | apply Kd.S_drewN | apply Kd.S_drew)); exact HO222.out) (Kd.S_base ho0) hb); replace BK218 := Aside0.mk (blk_below (kb_ BK218) hb); replace HB := Aside0.mk (below_step bb_ hb); (try clear hb); (try clear hb2); (try clear hk); (try clear hi); (try clear ho0); obtain ⟨hcz20_0, hcz20_1, hfz20_0, hfz20_1⟩ := cf2_ BK218))
        go_ret
        exact ⟨er_, bb_⟩
    · rw [if_neg c6] at H
      have c6b0 : (t220 == (l0_0.length : Int)) = false := beq_eq_false_iff_ne.mpr c6
      have c6b1 : (t220 != (l0_0.length : Int)) = true := bne_iff_ne.mpr c6
      obtain rfl := Option.some.inj H
      go_enter Try.func69, Try.ntmps69
      go_wp2_with (first | ((with_reducible refine gate_dst (N := 1) rfl ?_); refine box_e_ 1 #[.slice A0_0 l0_0.length c0_0, .slice A0_1 l0_1.length c0_1] 26 ?_; intro gb218 hg w21 hbox hb; have BK218 := Aside0.mk (hbox); have GW218 := (bs_ hg : Aside0 (w.heap.size ≤ _)); have GE218 := (bs_ hg : Aside0 (w.heap.size ≤ _)); replace HB := Aside0.mk (below_step bb_ hb); clear hb hbox hg; obtain ⟨hcz22_0, hcz22_1, hfz22_0, hfz22_1⟩ := cf2_ BK218) | ((with_reducible refine gate_callee (f := 78) rfl ?_); refine goe_ (some 18) Try.func78 #[.slice A0_0 l0_0.length c0_0] ?_; (with_reducible refine (spec_l10Read.calls k _ _ l0_0 t219 t220 _ ?side1 ?side2 A5.out).mono ?_); (case side1 => exact kc_ (Kd.C_below HR0_0.out HB.out)); (case side2 => exact HC0_0.out); rintro e w23 ⟨v221, rfl, ho0, hb⟩; refine ⟨_, rfl, ?_⟩; have HO222 := Aside0.mk (Kd.S_lower ho0 (below_size bb_)); replace BK218 := Aside0.mk (blk_below (kb_ BK218) hb); replace HB := Aside0.mk (below_step bb_ hb); (try clear hb); (try clear hb2); (try clear hk); (try clear hi); (try clear ho0); obtain ⟨hcz24_0, hcz24_1, hfz24_0, hfz24_1⟩ := cf2_ BK218))
      go_ret
      exact ⟨er_, bb_⟩
def spec_l10Of.f (k : Nat) (l0 : List Int) (l1 : List Int) : Option (Int × Int × List Int × List Int) := (some (([] : List Int) : List Int)).bind fun y228 => (if y228.length + l0.length < 140737488355328 then ((some (([] : List Int) : List Int)).bind fun y234 => (if y234.length + l1.length < 140737488355328 then ((spec_l10Read.f k l0).bind fun bt241 => ((spec_l10Read.f k l1).bind fun bt245 => (some (0, wrap64 ((bt241.1.length : Int) + (bt245.1.length : Int)), (y228 ++ l0), (y234 ++ l1))))) else (none))) else (none))
theorem spec_l10Of.mono : ∀ a0 a1 k, LeO (spec_l10Of.f k a0 a1) (spec_l10Of.f (k + 1) a0 a1) := by
  intro a0 a1 k
  unfold spec_l10Of.f
  repeat' first
      | (with_reducible exact spec_l10Read.mono _ _)
      | (with_reducible exact LeO.refl _)
      | (with_reducible exact LeO.none _)
      | (with_reducible refine LeO.ite ?_ ?_)
      | (with_reducible refine LeO.bind ?_ (fun _ => ?_))
      | exact spec_l10Read.mono _ _
      | exact LeO.none _
      | refine LeO.ite ?_ ?_
      | refine LeO.bind ?_ (fun _ => ?_)
set_option maxHeartbeats 8000000 in
set_option maxRecDepth 100000 in
theorem spec_l10Of.calls (k : Nat) (A0 : Option Addr) (c0 : Nat) (l0 : List Int) (A1 : Option Addr) (c1 : Nat) (l1 : List Int) (r1 : Int) (r2 : Int) (r3 : List Int) (r4 : List Int) (w : World) (hr0 : Kd.C (Kd.int .u8) w A0 l0.length l0) (hc0 : l0.length ≤ c0) (hr1 : Kd.C (Kd.int .u8) w A1 l1.length l1) (hc1 : l1.length ≤ c1) (h : spec_l10Of.f k l0 l1 = some (r1, r2, r3, r4)) :
    Calls Try.prog 70 #[.slice A0 l0.length c0, .slice A1 l1.length c1] w fun e w' => ∃ v2_ v3_ : Value, e = .returned (.agg #[.int .i64 r1, .int .i64 r2, v2_, v3_]) ∧ Kd.R (Kd.int .u8) 5 w' w.heap.size (fun k_ => some k_ ≠ (v3_ : Value).ownBlock) v2_ r3 ∧ Kd.R (Kd.int .u8) 5 w' w.heap.size (fun k_ => some k_ ≠ (v2_ : Value).ownBlock) v3_ r4 ∧ Below w.heap.size w w' := by
  have hu28 := Try.underlying28
  have hu26 := Try.underlying26
  have HR0 := Aside0.mk hr0
  have HC0 := Aside0.mk hc0
  clear hr0 hc0
  have HR1 := Aside0.mk hr1
  have HC1 := Aside0.mk hc1
  clear hr1 hc1
  have HB := Aside0.mk (Below.refl w.heap.size w)
  have H : ((some (([] : List Int) : List Int)).bind fun y228 => (if y228.length + l0.length < 140737488355328 then ((some (([] : List Int) : List Int)).bind fun y234 => (if y234.length + l1.length < 140737488355328 then ((spec_l10Read.f k l0).bind fun bt241 => ((spec_l10Read.f k l1).bind fun bt245 => (some (0, wrap64 ((bt241.1.length : Int) + (bt245.1.length : Int)), (y228 ++ l0), (y234 ++ l1))))) else (none))) else (none))) = some (r1, r2, r3, r4) := h
  clear h
  obtain ⟨y228, hy228⟩ : ∃ y_ : List Int, y_ = (([] : List Int)) := ⟨_, rfl⟩
  replace H : (if y228.length + l0.length < 140737488355328 then ((some (([] : List Int) : List Int)).bind fun y234 => (if y234.length + l1.length < 140737488355328 then ((spec_l10Read.f k l0).bind fun bt241 => ((spec_l10Read.f k l1).bind fun bt245 => (some (0, wrap64 ((bt241.1.length : Int) + (bt245.1.length : Int)), (y228 ++ l0), (y234 ++ l1))))) else (none))) else (none)) = some (r1, r2, r3, r4) := by first | (rw [hy228]; with_reducible exact H) | (have H2_ := (Option.bind_some _ _).symm.trans H; rw [hy228]; with_reducible exact H2_) | (have H2_ := (Option.bind_some _ _).symm.trans H; with_reducible exact H2_) | with_reducible exact H | (rw [hy228]; exact H) | exact H
  have Ny228 := Aside0.mk hy228
  clear hy228
  by_cases c3 : y228.length + l0.length < 140737488355328
  · rw [if_pos c3] at H
    have LMc3 := Aside0.mk c3
    clear c3
    obtain ⟨y231, hy231⟩ : ∃ y_ : List Int, y_ = (y228 ++ l0) := ⟨_, rfl⟩
    replace H : ((some (([] : List Int) : List Int)).bind fun y234 => (if y234.length + l1.length < 140737488355328 then ((spec_l10Read.f k l0).bind fun bt241 => ((spec_l10Read.f k l1).bind fun bt245 => (some (0, wrap64 ((bt241.1.length : Int) + (bt245.1.length : Int)), y231, (y234 ++ l1))))) else (none))) = some (r1, r2, r3, r4) := by first | (rw [hy231]; with_reducible exact H) | (have H2_ := (Option.bind_some _ _).symm.trans H; rw [hy231]; with_reducible exact H2_) | (have H2_ := (Option.bind_some _ _).symm.trans H; with_reducible exact H2_) | with_reducible exact H | (rw [hy231]; exact H) | exact H
    have Ny231 := Aside0.mk hy231
    clear hy231
    obtain ⟨y234, hy234⟩ : ∃ y_ : List Int, y_ = (([] : List Int)) := ⟨_, rfl⟩
    replace H : (if y234.length + l1.length < 140737488355328 then ((spec_l10Read.f k l0).bind fun bt241 => ((spec_l10Read.f k l1).bind fun bt245 => (some (0, wrap64 ((bt241.1.length : Int) + (bt245.1.length : Int)), y231, (y234 ++ l1))))) else (none)) = some (r1, r2, r3, r4) := by first | (rw [hy234]; with_reducible exact H) | (have H2_ := (Option.bind_some _ _).symm.trans H; rw [hy234]; with_reducible exact H2_) | (have H2_ := (Option.bind_some _ _).symm.trans H; with_reducible exact H2_) | with_reducible exact H | (rw [hy234]; exact H) | exact H
    have Ny234 := Aside0.mk hy234
    clear hy234
    by_cases c4 : y234.length + l1.length < 140737488355328
    · rw [if_pos c4] at H
      have LMc4 := Aside0.mk c4
      clear c4
      obtain ⟨y237, hy237⟩ : ∃ y_ : List Int, y_ = (y234 ++ l1) := ⟨_, rfl⟩
      replace H : ((spec_l10Read.f k l0).bind fun bt241 => ((spec_l10Read.f k l1).bind fun bt245 => (some (0, wrap64 ((bt241.1.length : Int) + (bt245.1.length : Int)), y231, y237)))) = some (r1, r2, r3, r4) := by first | (rw [hy237]; with_reducible exact H) | (have H2_ := (Option.bind_some _ _).symm.trans H; rw [hy237]; with_reducible exact H2_) | (have H2_ := (Option.bind_some _ _).symm.trans H; with_reducible exact H2_) | with_reducible exact H | (rw [hy237]; exact H) | exact H
      have Ny237 := Aside0.mk hy237
      clear hy237
      replace H := Option.bind_eq_some_iff.mp H
      obtain ⟨⟨t241, t242⟩, A50, H⟩ := H
      replace H : ((spec_l10Read.f k l1).bind fun bt245 => (some (0, wrap64 ((t241.length : Int) + (bt245.1.length : Int)), y231, y237))) = some (r1, r2, r3, r4) := H
      have A5 := Aside0.mk A50
      clear A50
      replace H := Option.bind_eq_some_iff.mp H
      obtain ⟨⟨t245, t246⟩, A60, H⟩ := H
      replace H : (some (0, wrap64 ((t241.length : Int) + (t245.length : Int)), y231, y237)) = some (r1, r2, r3, r4) := H
      have A6 := Aside0.mk A60
      clear A60
      simp only [Option.some.injEq, Prod.mk.injEq] at H
      obtain ⟨rfl, rfl, rfl, rfl⟩ := H
      go_enter Try.func70, Try.ntmps70
      go_wp2_with (first | ((with_reducible refine gate_dst (N := 4) rfl ?_); refine box_e_ 4 #[.int .i64 0, .int .i64 0, .slice none 0 0, .slice none 0 0] 28 ?_; intro gb227 hg w7 hbox hb; have BK227 := Aside0.mk (hbox); have GW227 := (bs_ hg : Aside0 (w.heap.size ≤ _)); have GE227 := (bs_ hg : Aside0 (w.heap.size ≤ _)); replace HB := Aside0.mk (below_step bb_ hb); clear hb hbox hg) | ((with_reducible refine gate_dst (N := 10) rfl ?_); refine Kd.R_lit (Kd.int .u8) _ 5 ?hg (N := 10) ?hd (xs := ([] : List Int)) (inner := []) (ok := fun _ => True) (okp := fun _ => True) ?hr ?hp (fun _ hk => hk) trivial (Below.refl _ _) (Nat.le_refl _) (by simp) ?_; (case hd => rfl); (case hg => rfl); (case hr => first | (go_simp; done) | (go_simp; rfl)); (case hp => exact (Reps.none _ _)); intro v229 w8 ho9 hb hg_ hnew_; clear hg_ hnew_; (first | rw [← Ny228.out] at ho9 | (simp only [Int.reduceToNat] at ho9; rw [← Ny228.out] at ho9)); have HO230 := Aside0.mk (Kd.R_lower ho9 (below_size bb_)); replace BK227 := Aside0.mk (blk_below (kb_ BK227) hb); replace HB := Aside0.mk (below_step bb_ hb); clear hb ho9) | ((with_reducible refine gate_builtin (b := .append) (xs := #[.tmp 10, .tmp 11]) rfl ?_); at_builtin; refine Kd.R_append_rows (Kd.int .u8) (w0 := w) w.heap.size rfl (.tmp 10) (.tmp 11) 22 5 (.int .u8 0) 1 rfl Try.underlying22 info5 rfl (by decide) (by omega) v229 y228 l0 _ _ _ (fun _ => True) (fun _ => False) rfl rfl ?aO ?aR (fun _ _ h => h) (fun _ h => h.elim) ?aF ?aB ?aS ?aL ?_; (case aR => repeat (first | exact (Kd.C_below HR0.out HB.out) | (with_reducible refine Kd.C_alloc ?_ _) | (with_reducible refine Kd.C_drewN ?_ _) | (with_reducible refine Kd.C_drew ?_))); (case aB => exact bb_); (case aF => exact (fun _ _ => trivial)); (case aO => exact (kr_ HO230)); (case aS => exact (below_size bb_)); (case aL => have := LMc3.out; omega); intro v232 w10 ho hb hg hat; rw [← Ny231.out] at ho; have n0_ := Aside0.mk (blk_grown (g := gb227) (o := .cells #[.int .i64 0, .int .i64 0, .slice none 0 0, .slice none 0 0] 28 (0, 0)) (by (with_reducible repeat (first | refine blk_drewN ?_ _ | refine blk_drew ?_ | refine blk_alloc ?_ _)); exact BK227.out) hg (Kd.R_ne HO230.out BK227.out (by decide))); have n1_ := Aside0.mk (hb); have n2_ := Aside0.mk (ho); clear BK227; clear HB; clear HO230; have BK227 := n0_; have HB := n1_; have HO233 := n2_; clear n0_ n1_ n2_; clear ho hb hg hat) | ((with_reducible refine gate_dst (N := 13) rfl ?_); refine Kd.R_lit (Kd.int .u8) _ 5 ?hg (N := 13) ?hd (xs := ([] : List Int)) (inner := []) (ok := fun _ => True) (okp := fun _ => True) ?hr ?hp (fun _ hk => hk) trivial (Below.refl _ _) (Nat.le_refl _) (by simp) ?_; (case hd => rfl); (case hg => rfl); (case hr => first | (go_simp; done) | (go_simp; rfl)); (case hp => exact (Reps.none _ _)); intro v235 w11 ho12 hb hg_ hnew_; clear hg_ hnew_; (first | rw [← Ny234.out] at ho12 | (simp only [Int.reduceToNat] at ho12; rw [← Ny234.out] at ho12)); have HO236 := Aside0.mk (Kd.R_lower (Kd.R_new' ho12 (Kd.R_lt (kr_ HO233))) (below_size bb_)); replace HO233 := Aside0.mk (Kd.R_elder' (kr_ HO233) (Kd.R_base ho12) hb); replace BK227 := Aside0.mk (blk_below (kb_ BK227) hb); replace HB := Aside0.mk (below_step bb_ hb); clear hb ho12) | ((with_reducible refine gate_builtin (b := .append) (xs := #[.tmp 13, .tmp 14]) rfl ?_); at_builtin; refine Kd.R_append_rows (Kd.int .u8) (w0 := w) w.heap.size rfl (.tmp 13) (.tmp 14) 22 5 (.int .u8 0) 1 rfl Try.underlying22 info5 rfl (by decide) (by omega) v235 y234 l1 _ _ _ (fun k_ => some k_ ≠ (v232 : Value).ownBlock) (fun _ => False) rfl rfl ?aO ?aR (fun _ _ h => h) (fun _ h => h.elim) ?aF ?aB ?aS ?aL ?_; (case aR => repeat (first | exact (Kd.C_below HR1.out HB.out) | (with_reducible refine Kd.C_alloc ?_ _) | (with_reducible refine Kd.C_drewN ?_ _) | (with_reducible refine Kd.C_drew ?_))); (case aB => exact bb_); (case aF => exact (fun k_ hk => Kd.fresh' (Kd.R_lt (kr_ HO233)) k_ hk)); (case aO => exact (by (with_reducible repeat (first | apply Kd.R_alloc | apply Kd.R_drewN | apply Kd.R_drew)); exact Kd.R_mono HO236.out (fun _ hk => hk.2))); (case aS => exact (below_size bb_)); (case aL => have := LMc4.out; omega); intro v238 w13 ho hb hg hat; rw [← Ny237.out] at ho; have n0_ := Aside0.mk (blk_grown (g := gb227) (o := .cells #[.int .i64 0, .int .i64 0, .slice none 0 0, .slice none 0 0] 28 (0, 0)) (by (with_reducible repeat (first | refine blk_drewN ?_ _ | refine blk_drew ?_ | refine blk_alloc ?_ _)); exact BK227.out) hg (Kd.R_ne HO236.out BK227.out (by decide))); have n1_ := Aside0.mk (Kd.R_after (ok := (fun _ => True)) (kr_ HO233) hg hat); have n2_ := Aside0.mk (hb); have n3_ := Aside0.mk (ho); clear BK227; clear HO233; clear HB; clear HO236; have BK227 := n0_; have HO233 := n1_; have HB := n2_; have HO239 := n3_; clear n0_ n1_ n2_ n3_; clear ho hb hg hat; obtain ⟨Ao14, co14, eo14⟩ := Kd.R_slice HO239.out; subst eo14; obtain ⟨Ao15, co15, eo15⟩ := Kd.R_slice HO233.out; subst eo15) | ((with_reducible refine gate_dst (N := 5) rfl ?_); refine box_e_ 5 #[.slice none 0 0, .slice none 0 0] 26 ?_; intro gb240 hg w16 hbox hb; replace HO233 := Aside0.mk (Kd.R_below (kr_ HO233) hb); replace HO239 := Aside0.mk (Kd.R_below (kr_ HO239) hb); have BK240 := Aside0.mk (hbox); have GW240 := (bs_ hg : Aside0 (w.heap.size ≤ _)); have GE240 := (bs_ hg : Aside0 (w.heap.size ≤ _)); replace HB := Aside0.mk (below_step bb_ hb); have NB227_240 := (nl_ hg BK227 : Aside0 (gb227 ≠ gb240)); have NB240_227 := (nr_ hg BK227 : Aside0 (gb240 ≠ gb227)); replace BK227 := Aside0.mk (blk_below (kb_ BK227) hb); clear hb hbox hg; have hnb17 := NB240_227.out; have hnc17 := NB227_240.out; obtain ⟨hcz18_0, hcz18_1, hfz18_0, hfz18_1⟩ := cf2_ BK240) | ((with_reducible refine gate_callee (f := 78) rfl ?_); refine goe_ (some 19) Try.func78 #[.slice A0 l0.length c0] ?_; (with_reducible refine (spec_l10Read.calls k _ _ l0 t241 t242 _ ?side1 ?side2 A5.out).mono ?_); (case side1 => exact Kd.C_below HR0.out bb_); (case side2 => exact HC0.out); rintro e w19 ⟨v243, rfl, ho0, hb⟩; refine ⟨_, rfl, ?_⟩; have HO244 := Aside0.mk (Kd.S_lower (Kd.S_new' (Kd.S_new' ho0 (Kd.R_lt (by (with_reducible repeat (first | apply Kd.R_alloc | apply Kd.R_drewN | apply Kd.R_drew)); exact (Kd.R_mono (Kd.R_far (p := ⟨gb240, 1, none⟩) (Kd.R_far (p := ⟨gb240, 0, none⟩) (Kd.R_types HO233.out BK240.out (by decide)) (fun _ hk => hk.2) (.slice Ao15 y231.length co15)) (fun _ hk => hk.2) (.slice Ao14 y237.length co14)) (fun _ h_ => h_.1))))) (Kd.R_lt (by (with_reducible repeat (first | apply Kd.R_alloc | apply Kd.R_drewN | apply Kd.R_drew)); exact (Kd.R_mono (Kd.R_far (p := ⟨gb240, 1, none⟩) (Kd.R_far (p := ⟨gb240, 0, none⟩) (Kd.R_types HO239.out BK240.out (by decide)) (fun _ hk => hk.2) (.slice Ao15 y231.length co15)) (fun _ hk => hk.2) (.slice Ao14 y237.length co14)) (fun _ h_ => h_.1))))) (below_size bb_)); replace HO233 := Aside0.mk (Kd.R_below (by (with_reducible repeat (first | apply Kd.R_alloc | apply Kd.R_drewN | apply Kd.R_drew)); exact (Kd.R_mono (Kd.R_far (p := ⟨gb240, 1, none⟩) (Kd.R_far (p := ⟨gb240, 0, none⟩) (Kd.R_types HO233.out BK240.out (by decide)) (fun _ hk => hk.2) (.slice Ao15 y231.length co15)) (fun _ hk => hk.2) (.slice Ao14 y237.length co14)) (fun _ h_ => h_.1))) hb); replace HO239 := Aside0.mk (Kd.R_below (by (with_reducible repeat (first | apply Kd.R_alloc | apply Kd.R_drewN | apply Kd.R_drew)); exact (Kd.R_mono (Kd.R_far (p := ⟨gb240, 1, none⟩) (Kd.R_far (p := ⟨gb240, 0, none⟩) (Kd.R_types HO239.out BK240.out (by decide)) (fun _ hk => hk.2) (.slice Ao15 y231.length co15)) (fun _ hk => hk.2) (.slice Ao14 y237.length co14)) (fun _ h_ => h_.1))) hb); replace BK227 := Aside0.mk (blk_below (kb_ BK227) hb); replace BK240 := Aside0.mk (blk_below (g := gb240) (o := .cells #[.slice Ao15 y231.length co15, .slice Ao14 y237.length co14] 26 (0, 0)) (by (with_reducible repeat (first | refine blk_drewN ?_ _ | refine blk_drew ?_ | refine blk_alloc ?_ _)); refine blk_put (cs := #[.slice Ao15 y231.length co15, .slice none 0 0]) ?_ 1 _ rfl; (with_reducible repeat (first | refine blk_drewN ?_ _ | refine blk_drew ?_ | refine blk_alloc ?_ _)); refine blk_put (cs := #[.slice none 0 0, .slice none 0 0]) ?_ 0 _ rfl; (with_reducible repeat (first | refine blk_drewN ?_ _ | refine blk_drew ?_ | refine blk_alloc ?_ _)); exact BK240.out) hb); replace HB := Aside0.mk (below_step bb_ hb); (try clear hb); (try clear hb2); (try clear hk); (try clear hi); (try clear ho0)) | ((with_reducible refine gate_callee (f := 78) rfl ?_); refine goe_ (some 24) Try.func78 #[.slice A1 l1.length c1] ?_; (with_reducible refine (spec_l10Read.calls k _ _ l1 t245 t246 _ ?side1 ?side2 A6.out).mono ?_); (case side1 => exact kc_ (Kd.C_below HR1.out HB.out)); (case side2 => exact HC1.out); rintro e w20 ⟨v247, rfl, ho0, hb⟩; refine ⟨_, rfl, ?_⟩; have HO248 := Aside0.mk (Kd.S_lower (Kd.S_new' (Kd.S_new' (Kd.S_new' ho0 (Kd.R_lt (kr_ HO233))) (Kd.R_lt (kr_ HO239))) (Kd.S_lt (by (with_reducible repeat (first | apply Kd.S_alloc | apply Kd.S_drewN | apply Kd.S_drew)); exact HO244.out))) (below_size bb_)); replace HO233 := Aside0.mk (Kd.R_below (kr_ HO233) hb); replace HO239 := Aside0.mk (Kd.R_below (kr_ HO239) hb); replace HO244 := Aside0.mk (Kd.S_elder' (by (with_reducible repeat (first | apply Kd.S_alloc | apply Kd.S_drewN | apply Kd.S_drew)); exact HO244.out) (Kd.S_base ho0) hb); replace BK227 := Aside0.mk (blk_below (kb_ BK227) hb); replace BK240 := Aside0.mk (blk_below (kb_ BK240) hb); replace HB := Aside0.mk (below_step bb_ hb); (try clear hb); (try clear hb2); (try clear hk); (try clear hi); (try clear ho0); obtain ⟨Ao21, co21, eo21⟩ := Kd.S_slice HO244.out; subst eo21; obtain ⟨Ao22, co22, eo22⟩ := Kd.S_slice HO248.out; subst eo22; obtain ⟨hcz23_0, hcz23_1, hfz23_0, hfz23_1⟩ := cf2_ BK240; obtain ⟨hcz24_0, hcz24_1, hcz24_2, hcz24_3, hfz24_0, hfz24_1, hfz24_2, hfz24_3⟩ := cf4_ BK227))
      refine bodyPost_ret (results_cell_row rfl _ _ gb227 28 #[.int .i64 0, .int .i64 (wrap64 ((t241.length : Int) + (t245.length : Int))), .slice Ao15 y231.length co15, .slice Ao14 y237.length co14] (0, 0) _ rfl (by (with_reducible repeat (first | refine blk_drewN ?_ _ | refine blk_drew ?_ | refine blk_alloc ?_ _)); refine blk_put (cs := #[.int .i64 0, .int .i64 (wrap64 ((t241.length : Int) + (t245.length : Int))), .slice Ao15 y231.length co15, .slice none 0 0]) ?_ 3 _ rfl; (with_reducible repeat (first | refine blk_drewN ?_ _ | refine blk_drew ?_ | refine blk_alloc ?_ _)); refine blk_put (cs := #[.int .i64 0, .int .i64 (wrap64 ((t241.length : Int) + (t245.length : Int))), .slice none 0 0, .slice none 0 0]) ?_ 2 _ rfl; (with_reducible repeat (first | refine blk_drewN ?_ _ | refine blk_drew ?_ | refine blk_alloc ?_ _)); refine blk_put (cs := #[.int .i64 0, .int .i64 0, .slice none 0 0, .slice none 0 0]) ?_ 1 _ rfl; (with_reducible repeat (first | refine blk_drewN ?_ _ | refine blk_drew ?_ | refine blk_alloc ?_ _)); refine blk_put (cs := #[.int .i64 0, .int .i64 0, .slice none 0 0, .slice none 0 0]) ?_ 0 _ rfl; (with_reducible repeat (first | refine blk_drewN ?_ _ | refine blk_drew ?_ | refine blk_alloc ?_ _)); exact BK227.out) Try.underlying28 rfl (by kernel_rfl)) rfl ?_
      exact ⟨_, _, er_, by (with_reducible repeat (first | apply Kd.R_alloc | apply Kd.R_drewN | apply Kd.R_drew)); exact Kd.R_mono (Kd.R_far (p := ⟨gb227, 3, none⟩) (Kd.R_far (p := ⟨gb227, 2, none⟩) (Kd.R_far (p := ⟨gb227, 1, none⟩) (Kd.R_far (p := ⟨gb227, 0, none⟩) (Kd.R_types HO233.out BK227.out (by decide)) (fun _ hk => hk.2) (.int .i64 0)) (fun _ hk => hk.2) (.int .i64 (wrap64 ((t241.length : Int) + (t245.length : Int))))) (fun _ hk => hk.2) (.slice Ao15 y231.length co15)) (fun _ hk => hk.2) (.slice Ao14 y237.length co14)) (fun _ hk => hk.1.2), by (with_reducible repeat (first | apply Kd.R_alloc | apply Kd.R_drewN | apply Kd.R_drew)); exact Kd.R_mono (Kd.R_far (p := ⟨gb227, 3, none⟩) (Kd.R_far (p := ⟨gb227, 2, none⟩) (Kd.R_far (p := ⟨gb227, 1, none⟩) (Kd.R_far (p := ⟨gb227, 0, none⟩) (Kd.R_types HO239.out BK227.out (by decide)) (fun _ hk => hk.2) (.int .i64 0)) (fun _ hk => hk.2) (.int .i64 (wrap64 ((t241.length : Int) + (t245.length : Int))))) (fun _ hk => hk.2) (.slice Ao15 y231.length co15)) (fun _ hk => hk.2) (.slice Ao14 y237.length co14)) (fun _ hk => hk.1), bb_⟩
    · rw [if_neg c4] at H
      exact absurd H (by simp)
  · rw [if_neg c3] at H
    exact absurd H (by simp)
def spec_CrashJournal.f (k : Nat) (l0_0 : List Int) (l0_1 : List Int) (a1 : Int) : Option (Int × Int × List Int × List Int) := (spec_JournalFault.f k l0_0 l0_1).bind fun t251 => (if t251 = 0 then ((spec_l1In.f a1 0 (l0_1.length : Int)).bind fun t252 => (if t252 = true then ((some (([] : List Int) : List Int)).bind fun y253 => (if y253.length + l0_0.length < 140737488355328 then ((some (y253 ++ l0_0 : List Int)).bind fun y256 => (if 0 ≤ a1 then (if a1 ≤ (l0_1.length : Int) then (if y256.length + (l0_1.take (a1 : Int).toNat).length < 140737488355328 then ((some (y256 ++ (l0_1.take (a1 : Int).toNat) : List Int)).bind fun y260 => ((spec_l10Read.f k y260).bind fun bt263 => (if 0 ≤ bt263.2 then (if bt263.2 ≤ (y260.length : Int) then ((spec_l10Of.f k (y260.take (bt263.2 : Int).toNat) ([] : List Int)).bind fun bt271 => (some (bt271.1, bt271.2.1, bt271.2.2.1, bt271.2.2.2))) else (none)) else (none)))) else (none)) else (none)) else (none))) else (none))) else (some (3, 0, ([] : List Int), ([] : List Int))))) else (some (t251, 0, ([] : List Int), ([] : List Int))))
theorem spec_CrashJournal.mono : ∀ a0 a1 a2 k, LeO (spec_CrashJournal.f k a0 a1 a2) (spec_CrashJournal.f (k + 1) a0 a1 a2) := by
  intro a0 a1 a2 k
  unfold spec_CrashJournal.f
  repeat' first
      | (with_reducible exact spec_JournalFault.mono _ _ _)
      | (with_reducible exact spec_l10Of.mono _ _ _)
      | (with_reducible exact spec_l10Read.mono _ _)
      | (with_reducible exact LeO.refl _)
      | (with_reducible exact LeO.none _)
      | (with_reducible refine LeO.ite ?_ ?_)
      | (with_reducible refine LeO.bind ?_ (fun _ => ?_))
      | exact spec_JournalFault.mono _ _ _
      | exact spec_l10Of.mono _ _ _
      | exact spec_l10Read.mono _ _
      | exact LeO.none _
      | refine LeO.ite ?_ ?_
      | refine LeO.bind ?_ (fun _ => ?_)
def spec_CrashJournal.T6 : Bool × List (List Nat × List Nat) := (true, [([], []), ([], []), ([1], [1]), ([0, 2], [0, 2]), ([], []), ([4], [4]), ([], []), ([5, 6], [5, 6]), ([3, 7, 3], [3, 7]), ([8, 8, 0, 1, 2, 3, 4, 5, 6, 7, 8], [8])])
def spec_CrashJournal.B6 : List Nat := [0, 0, 2, 7, 0, 16, 0, 112, 255, 511]
theorem spec_CrashJournal.tab6 : rtab .any (opsOf Try.f24 6) = spec_CrashJournal.T6 := by kernel_rfl
theorem spec_CrashJournal.bits6 : waitsOk spec_CrashJournal.T6.2 spec_CrashJournal.B6 = true := by kernel_rfl
set_option maxHeartbeats 8000000 in
set_option maxRecDepth 100000 in
theorem spec_CrashJournal.calls (k : Nat) (A0_0 : Option Addr) (c0_0 : Nat) (l0_0 : List Int) (A0_1 : Option Addr) (c0_1 : Nat) (l0_1 : List Int) (a1 : Int) (r1 : Int) (r2 : Int) (r3 : List Int) (r4 : List Int) (w : World) (hr0_0 : Kd.C (Kd.int .u8) w A0_0 l0_0.length l0_0) (hc0_0 : l0_0.length ≤ c0_0) (hr0_1 : Kd.C (Kd.int .u8) w A0_1 l0_1.length l0_1) (hc0_1 : l0_1.length ≤ c0_1) (h : spec_CrashJournal.f k l0_0 l0_1 a1 = some (r1, r2, r3, r4)) :
    Calls Try.prog 24 #[.agg #[.slice A0_0 l0_0.length c0_0, .slice A0_1 l0_1.length c0_1], .int .i64 a1] w fun e w' => ∃ v2_ v3_ : Value, e = .returned (.agg #[.int .i64 r1, .int .i64 r2, v2_, v3_]) ∧ Kd.R (Kd.int .u8) 5 w' w.heap.size (fun k_ => some k_ ≠ (v3_ : Value).ownBlock) v2_ r3 ∧ Kd.R (Kd.int .u8) 5 w' w.heap.size (fun k_ => some k_ ≠ (v2_ : Value).ownBlock) v3_ r4 ∧ Below w.heap.size w w' := by
  have hu26 := Try.underlying26
  have hu28 := Try.underlying28
  have HR0_0 := Aside0.mk hr0_0
  have HC0_0 := Aside0.mk hc0_0
  clear hr0_0 hc0_0
  have HR0_1 := Aside0.mk hr0_1
  have HC0_1 := Aside0.mk hc0_1
  clear hr0_1 hc0_1
  have HB := Aside0.mk (Below.refl w.heap.size w)
  have H : ((spec_JournalFault.f k l0_0 l0_1).bind fun t251 => (if t251 = 0 then ((spec_l1In.f a1 0 (l0_1.length : Int)).bind fun t252 => (if t252 = true then ((some (([] : List Int) : List Int)).bind fun y253 => (if y253.length + l0_0.length < 140737488355328 then ((some (y253 ++ l0_0 : List Int)).bind fun y256 => (if 0 ≤ a1 then (if a1 ≤ (l0_1.length : Int) then (if y256.length + (l0_1.take (a1 : Int).toNat).length < 140737488355328 then ((some (y256 ++ (l0_1.take (a1 : Int).toNat) : List Int)).bind fun y260 => ((spec_l10Read.f k y260).bind fun bt263 => (if 0 ≤ bt263.2 then (if bt263.2 ≤ (y260.length : Int) then ((spec_l10Of.f k (y260.take (bt263.2 : Int).toNat) ([] : List Int)).bind fun bt271 => (some (bt271.1, bt271.2.1, bt271.2.2.1, bt271.2.2.2))) else (none)) else (none)))) else (none)) else (none)) else (none))) else (none))) else (some (3, 0, ([] : List Int), ([] : List Int))))) else (some (t251, 0, ([] : List Int), ([] : List Int))))) = some (r1, r2, r3, r4) := h
  clear h
  replace H := Option.bind_eq_some_iff.mp H
  obtain ⟨t251, A30, H⟩ := H
  replace H : (if t251 = 0 then ((spec_l1In.f a1 0 (l0_1.length : Int)).bind fun t252 => (if t252 = true then ((some (([] : List Int) : List Int)).bind fun y253 => (if y253.length + l0_0.length < 140737488355328 then ((some (y253 ++ l0_0 : List Int)).bind fun y256 => (if 0 ≤ a1 then (if a1 ≤ (l0_1.length : Int) then (if y256.length + (l0_1.take (a1 : Int).toNat).length < 140737488355328 then ((some (y256 ++ (l0_1.take (a1 : Int).toNat) : List Int)).bind fun y260 => ((spec_l10Read.f k y260).bind fun bt263 => (if 0 ≤ bt263.2 then (if bt263.2 ≤ (y260.length : Int) then ((spec_l10Of.f k (y260.take (bt263.2 : Int).toNat) ([] : List Int)).bind fun bt271 => (some (bt271.1, bt271.2.1, bt271.2.2.1, bt271.2.2.2))) else (none)) else (none)))) else (none)) else (none)) else (none))) else (none))) else (some (3, 0, ([] : List Int), ([] : List Int))))) else (some (t251, 0, ([] : List Int), ([] : List Int)))) = some (r1, r2, r3, r4) := H
  have A3 := Aside0.mk A30
  clear A30
  by_cases c4 : t251 = 0
  · rw [if_pos c4] at H
    have c4b0 : (t251 == 0) = true := beq_iff_eq.mpr c4
    have c4b1 : (t251 != 0) = false := bne_eq_false_iff_eq.mpr c4
    clear c4
    replace H := Option.bind_eq_some_iff.mp H
    obtain ⟨t252, A50, H⟩ := H
    replace H : (if t252 = true then ((some (([] : List Int) : List Int)).bind fun y253 => (if y253.length + l0_0.length < 140737488355328 then ((some (y253 ++ l0_0 : List Int)).bind fun y256 => (if 0 ≤ a1 then (if a1 ≤ (l0_1.length : Int) then (if y256.length + (l0_1.take (a1 : Int).toNat).length < 140737488355328 then ((some (y256 ++ (l0_1.take (a1 : Int).toNat) : List Int)).bind fun y260 => ((spec_l10Read.f k y260).bind fun bt263 => (if 0 ≤ bt263.2 then (if bt263.2 ≤ (y260.length : Int) then ((spec_l10Of.f k (y260.take (bt263.2 : Int).toNat) ([] : List Int)).bind fun bt271 => (some (bt271.1, bt271.2.1, bt271.2.2.1, bt271.2.2.2))) else (none)) else (none)))) else (none)) else (none)) else (none))) else (none))) else (some (3, 0, ([] : List Int), ([] : List Int)))) = some (r1, r2, r3, r4) := H
    have A5 := Aside0.mk A50
    clear A50
    by_cases c6 : t252 = true
    · subst c6
      have H1 : ((some (([] : List Int) : List Int)).bind fun y253 => (if y253.length + l0_0.length < 140737488355328 then ((some (y253 ++ l0_0 : List Int)).bind fun y256 => (if 0 ≤ a1 then (if a1 ≤ (l0_1.length : Int) then (if y256.length + (l0_1.take (a1 : Int).toNat).length < 140737488355328 then ((some (y256 ++ (l0_1.take (a1 : Int).toNat) : List Int)).bind fun y260 => ((spec_l10Read.f k y260).bind fun bt263 => (if 0 ≤ bt263.2 then (if bt263.2 ≤ (y260.length : Int) then ((spec_l10Of.f k (y260.take (bt263.2 : Int).toNat) ([] : List Int)).bind fun bt271 => (some (bt271.1, bt271.2.1, bt271.2.2.1, bt271.2.2.2))) else (none)) else (none)))) else (none)) else (none)) else (none))) else (none))) = some (r1, r2, r3, r4) := by rw [if_pos rfl] at H; exact H
      clear H
      have H := H1
      clear H1
      obtain ⟨y253, hy253⟩ : ∃ y_ : List Int, y_ = (([] : List Int)) := ⟨_, rfl⟩
      replace H : (if y253.length + l0_0.length < 140737488355328 then ((some (y253 ++ l0_0 : List Int)).bind fun y256 => (if 0 ≤ a1 then (if a1 ≤ (l0_1.length : Int) then (if y256.length + (l0_1.take (a1 : Int).toNat).length < 140737488355328 then ((some (y256 ++ (l0_1.take (a1 : Int).toNat) : List Int)).bind fun y260 => ((spec_l10Read.f k y260).bind fun bt263 => (if 0 ≤ bt263.2 then (if bt263.2 ≤ (y260.length : Int) then ((spec_l10Of.f k (y260.take (bt263.2 : Int).toNat) ([] : List Int)).bind fun bt271 => (some (bt271.1, bt271.2.1, bt271.2.2.1, bt271.2.2.2))) else (none)) else (none)))) else (none)) else (none)) else (none))) else (none)) = some (r1, r2, r3, r4) := by first | (rw [hy253]; with_reducible exact H) | (have H2_ := (Option.bind_some _ _).symm.trans H; rw [hy253]; with_reducible exact H2_) | (have H2_ := (Option.bind_some _ _).symm.trans H; with_reducible exact H2_) | with_reducible exact H | (rw [hy253]; exact H) | exact H
      have Ny253 := Aside0.mk hy253
      clear hy253
      by_cases c7 : y253.length + l0_0.length < 140737488355328
      · rw [if_pos c7] at H
        have LMc7 := Aside0.mk c7
        clear c7
        obtain ⟨y256, hy256⟩ : ∃ y_ : List Int, y_ = (y253 ++ l0_0) := ⟨_, rfl⟩
        replace H : (if 0 ≤ a1 then (if a1 ≤ (l0_1.length : Int) then (if y256.length + (l0_1.take (a1 : Int).toNat).length < 140737488355328 then ((some (y256 ++ (l0_1.take (a1 : Int).toNat) : List Int)).bind fun y260 => ((spec_l10Read.f k y260).bind fun bt263 => (if 0 ≤ bt263.2 then (if bt263.2 ≤ (y260.length : Int) then ((spec_l10Of.f k (y260.take (bt263.2 : Int).toNat) ([] : List Int)).bind fun bt271 => (some (bt271.1, bt271.2.1, bt271.2.2.1, bt271.2.2.2))) else (none)) else (none)))) else (none)) else (none)) else (none)) = some (r1, r2, r3, r4) := by first | (rw [hy256]; with_reducible exact H) | (have H2_ := (Option.bind_some _ _).symm.trans H; rw [hy256]; with_reducible exact H2_) | (have H2_ := (Option.bind_some _ _).symm.trans H; with_reducible exact H2_) | with_reducible exact H | (rw [hy256]; exact H) | exact H
        have Ny256 := Aside0.mk hy256
        clear hy256
        by_cases c8 : 0 ≤ a1
        · rw [if_pos c8] at H
          have c8b0 := eq_true c8
          have c8b1 : decide (0 ≤ a1) = true := decide_eq_true c8
          clear c8
          by_cases c9 : a1 ≤ (l0_1.length : Int)
          · rw [if_pos c9] at H
            have c9b0 := eq_true c9
            have c9b1 : decide (a1 ≤ (l0_1.length : Int)) = true := decide_eq_true c9
            clear c9
            by_cases c10 : y256.length + (l0_1.take (a1 : Int).toNat).length < 140737488355328
            · rw [if_pos c10] at H
              have LMc10 := Aside0.mk c10
              clear c10
              obtain ⟨y260, hy260⟩ : ∃ y_ : List Int, y_ = (y256 ++ (l0_1.take (a1 : Int).toNat)) := ⟨_, rfl⟩
              replace H : ((spec_l10Read.f k y260).bind fun bt263 => (if 0 ≤ bt263.2 then (if bt263.2 ≤ (y260.length : Int) then ((spec_l10Of.f k (y260.take (bt263.2 : Int).toNat) ([] : List Int)).bind fun bt271 => (some (bt271.1, bt271.2.1, bt271.2.2.1, bt271.2.2.2))) else (none)) else (none))) = some (r1, r2, r3, r4) := by first | (rw [hy260]; with_reducible exact H) | (have H2_ := (Option.bind_some _ _).symm.trans H; rw [hy260]; with_reducible exact H2_) | (have H2_ := (Option.bind_some _ _).symm.trans H; with_reducible exact H2_) | with_reducible exact H | (rw [hy260]; exact H) | exact H
              have Ny260 := Aside0.mk hy260
              clear hy260
              replace H := Option.bind_eq_some_iff.mp H
              obtain ⟨⟨t263, t264⟩, A110, H⟩ := H
              replace H : (if 0 ≤ t264 then (if t264 ≤ (y260.length : Int) then ((spec_l10Of.f k (y260.take (t264 : Int).toNat) ([] : List Int)).bind fun bt271 => (some (bt271.1, bt271.2.1, bt271.2.2.1, bt271.2.2.2))) else (none)) else (none)) = some (r1, r2, r3, r4) := H
              have A11 := Aside0.mk A110
              clear A110
              by_cases c12 : 0 ≤ t264
              · rw [if_pos c12] at H
                have c12b0 := eq_true c12
                have c12b1 : decide (0 ≤ t264) = true := decide_eq_true c12
                clear c12
                by_cases c13 : t264 ≤ (y260.length : Int)
                · rw [if_pos c13] at H
                  have c13b0 := eq_true c13
                  have c13b1 : decide (t264 ≤ (y260.length : Int)) = true := decide_eq_true c13
                  clear c13
                  obtain ⟨y267, hy267⟩ : ∃ y_ : List Int, y_ = (y260.take (t264 : Int).toNat) := ⟨_, rfl⟩
                  replace H : ((spec_l10Of.f k y267 ([] : List Int)).bind fun bt271 => (some (bt271.1, bt271.2.1, bt271.2.2.1, bt271.2.2.2))) = some (r1, r2, r3, r4) := by first | (rw [hy267]; with_reducible exact H) | (have H2_ := (Option.bind_some _ _).symm.trans H; rw [hy267]; with_reducible exact H2_) | (have H2_ := (Option.bind_some _ _).symm.trans H; with_reducible exact H2_) | with_reducible exact H | (rw [hy267]; exact H) | exact H
                  have Ny267 := Aside0.mk hy267
                  clear hy267
                  replace H := Option.bind_eq_some_iff.mp H
                  obtain ⟨⟨t271, t272, t273, t276⟩, A140, H⟩ := H
                  replace H : (some (t271, t272, t273, t276)) = some (r1, r2, r3, r4) := H
                  have A14 := Aside0.mk A140
                  clear A140
                  simp only [Option.some.injEq, Prod.mk.injEq] at H
                  obtain ⟨rfl, rfl, rfl, rfl⟩ := H
                  go_enter Try.func24, Try.ntmps24
                  try go_wp2_with (first | ((with_reducible refine gate_dst (N := 2) rfl ?_); refine box_e_ 2 #[.slice A0_0 l0_0.length c0_0, .slice A0_1 l0_1.length c0_1] 26 ?_; intro gb249 hg w15 hbox hb; have BK249 := Aside0.mk (hbox); have GW249 := (bs_ hg : Aside0 (w.heap.size ≤ _)); have GE249 := (bs_ hg : Aside0 (w.heap.size ≤ _)); replace HB := Aside0.mk (below_step bb_ hb); clear hb hbox hg) | ((with_reducible refine gate_dst (N := 4) rfl ?_); refine box_e_ 4 #[.int .i64 0, .int .i64 0, .slice none 0 0, .slice none 0 0] 28 ?_; intro gb250 hg w16 hbox hb; have BK250 := Aside0.mk (hbox); have GW250 := (bs_ hg : Aside0 (w.heap.size ≤ _)); have GE250 := (bs_ hg : Aside0 (w.heap.size ≤ _)); replace HB := Aside0.mk (below_step bb_ hb); have NB249_250 := (nl_ hg BK249 : Aside0 (gb249 ≠ gb250)); have NB250_249 := (nr_ hg BK249 : Aside0 (gb250 ≠ gb249)); replace BK249 := Aside0.mk (blk_below (kb_ BK249) hb); clear hb hbox hg; have hnb17 := NB249_250.out; have hnc17 := NB250_249.out; obtain ⟨hcz18_0, hcz18_1, hfz18_0, hfz18_1⟩ := cf2_ BK249) | ((with_reducible refine gate_callee (f := 69) rfl ?_); refine goe_ (some 10) Try.func69 #[.agg #[.slice A0_0 l0_0.length c0_0, .slice A0_1 l0_1.length c0_1]] ?_; (with_reducible refine (spec_JournalFault.calls k _ _ l0_0 _ _ l0_1 t251 _ ?side1 ?side2 ?side3 ?side4 A3.out).mono ?_); (case side1 => exact kc_ (Kd.C_below HR0_0.out HB.out)); (case side2 => exact HC0_0.out); (case side3 => exact kc_ (Kd.C_below HR0_1.out HB.out)); (case side4 => exact HC0_1.out); rintro e w19 ⟨rfl, hb⟩; refine ⟨_, rfl, ?_⟩; replace BK249 := Aside0.mk (blk_below (kb_ BK249) hb); replace BK250 := Aside0.mk (blk_below (kb_ BK250) hb); replace HB := Aside0.mk (below_step bb_ hb); (try clear hb); (try clear hb2); (try clear hk); (try clear hi); obtain ⟨hcz20_0, hcz20_1, hfz20_0, hfz20_1⟩ := cf2_ BK249) | ((with_reducible refine gate_callee (f := 77) rfl ?_); refine goe_ (some 19) Try.func77 #[.int .i64 a1, .int .i64 0, .int .i64 (l0_1.length : Int)] ?_; (with_reducible refine (spec_l1In.calls a1 0 (l0_1.length : Int) true _ A5.out).mono ?_); rintro e w' ⟨rfl, ⟨nd, rfl⟩⟩; refine ⟨_, rfl, ?_⟩; (try (rw [drewN_self w19]; generalize hq_ : World.drewN w19 _ = w19; have n0_ : Aside0 (w19.heap[gb249]? = some (.cells #[.slice A0_0 l0_0.length c0_0, .slice A0_1 l0_1.length c0_1] 26 (0, 0))) := ⟨by rw [← hq_]; exact (by (with_reducible repeat (first | refine blk_drewN ?_ _ | refine blk_drew ?_ | refine blk_alloc ?_ _)); exact BK249.out)⟩; have n1_ : Aside0 (w19.heap[gb250]? = some (.cells #[.int .i64 0, .int .i64 0, .slice none 0 0, .slice none 0 0] 28 (0, 0))) := ⟨by rw [← hq_]; exact (by (with_reducible repeat (first | refine blk_drewN ?_ _ | refine blk_drew ?_ | refine blk_alloc ?_ _)); exact BK250.out)⟩; have n2_ : Aside0 (Below w.heap.size w w19) := ⟨by rw [← hq_]; exact bb_⟩; clear BK249 BK250 HB hq_; have BK249 := n0_; have BK250 := n1_; have HB := n2_; clear n0_ n1_ n2_))))
                  have n0_ := Aside0.mk (blk_drew BK249.out)
                  have n1_ := Aside0.mk (blk_drew BK250.out)
                  have n2_ := Aside0.mk (below_drew1 HB.out)
                  clear BK249
                  clear BK250
                  clear HB
                  have BK249 := n0_
                  have BK250 := n1_
                  have HB := n2_
                  clear n0_ n1_ n2_
                  obtain ⟨i022, hi022, _, hsz22, _⟩ := info_parts info5
                  obtain ⟨hcut22, hA22, hC22⟩ := print_take_of (P := Try.prog) (Value.int .u8) 0 22 5 .i64 Try.underlying22 hi022 hsz22 A0_1 c0_1 l0_1 a1 (of_decide_eq_true as_) (of_decide_eq_true as_) HC0_1.out
                  have HR259 := Aside0.mk (Kd.C_of_reads (h1 := fun _ => rfl) (hA22 _ (Kd.reads_of_C HR0_1.out)))
                  have HC259 := Aside0.mk hC22
                  clear hA22 hC22 hi022 hsz22
                  refine start_ (n := 10) (S := fun w' => w'.cell? ⟨gb249, 0, none⟩ = some (.slice A0_0 l0_0.length c0_0) ∧ w'.cell? ⟨gb249, 1, none⟩ = some (.slice A0_1 l0_1.length c0_1)) (ds := []) #[false, false, false, false, false, false, false, false, false, false] (by kernel_rfl) rfl rfl ⟨(blk_cell BK249.out 0).trans rfl, (blk_cell BK249.out 1).trans rfl⟩ (fun hHeld => ?_); refine with_tabW spec_CrashJournal.tab6 spec_CrashJournal.bits6 (fun HT_ HW_ => ?_)
                  generalize w19.drew = w21 at BK249 BK250 HB HR259 hHeld ⊢
                  refine pure_ (i := 1) (N := some 23) (v := ?_) (a' := ?_) #[false, true, false, false, false, false, false, false, false, false] rfl rfl (any_of HT_.out (by kernel_rfl)) (fun _ _ _ h => h) (Or.inl ⟨by rfl, ?_⟩) ?_ ?_
                  rotate_left
                  · intro w'
                    go_simp
                    with_reducible rfl
                  rotate_left
                  · simp only [Act.put, List.setIfInBounds_toArray, List.set_cons_zero, List.set_cons_succ, i64_w, i32_w]
                    rfl
                  refine pure_ (i := 4) (N := some 26) (v := ?_) (a' := ?_) #[false, true, false, false, true, false, false, false, false, false] rfl rfl (any_of HT_.out (by kernel_rfl)) (fun _ _ _ h => h) (Or.inl ⟨by rfl, ?_⟩) ?_ ?_
                  rotate_left
                  · intro w'
                    go_simp
                    with_reducible rfl
                  rotate_left
                  · simp only [Act.put, List.setIfInBounds_toArray, List.set_cons_zero, List.set_cons_succ, i64_w, i32_w]
                    rfl
                  refine pure_ (i := 6) (N := some 28) (v := ?_) (a' := ?_) #[false, true, false, false, true, false, true, false, false, false] rfl rfl (any_of HT_.out (by kernel_rfl)) (fun _ _ _ h => h) (Or.inl ⟨by rfl, ?_⟩) ?_ ?_
                  rotate_left
                  · intro w'
                    go_simp
                    with_reducible rfl
                  rotate_left
                  · simp only [Act.put, List.setIfInBounds_toArray, List.set_cons_zero, List.set_cons_succ, i64_w, i32_w]
                    rfl
                  refine take_ (i := 2) (N := some 24) (v := ?_) (a' := ?_) #[false, true, true, false, true, false, true, false, false, false] rfl rfl (take_ofW HT_.out HW_.out (by kernel_rfl)) (fun _ _ _ h => h) (Or.inl ⟨by rfl, ?_⟩) hHeld ?_ ?_
                  rotate_left
                  · rintro w' ⟨s0, s1⟩
                    go_simp
                    with_reducible rfl
                  rotate_left
                  · simp only [Act.put, List.setIfInBounds_toArray, List.set_cons_zero, List.set_cons_succ, i64_w, i32_w]
                    rfl
                  refine take_ (i := 5) (N := some 27) (v := ?_) (a' := ?_) #[false, true, true, false, true, true, true, false, false, false] rfl rfl (take_ofW HT_.out HW_.out (by kernel_rfl)) (fun _ _ _ h => h) (Or.inl ⟨by rfl, ?_⟩) hHeld ?_ ?_
                  rotate_left
                  · rintro w' ⟨s0, s1⟩
                    go_simp
                    with_reducible rfl
                  rotate_left
                  · simp only [Act.put, List.setIfInBounds_toArray, List.set_cons_zero, List.set_cons_succ, i64_w, i32_w]
                    rfl
                  refine pure_ (i := 7) (N := some 29) (v := ?_) (a' := ?_) #[false, true, true, false, true, true, true, true, false, false] rfl rfl (any_of HT_.out (by kernel_rfl)) (fun _ _ _ h => h) (Or.inl ⟨by rfl, ?_⟩) ?_ ?_
                  rotate_left
                  · intro w'
                    go_simp
                    with_reducible rfl
                  rotate_left
                  · simp only [Act.put, List.setIfInBounds_toArray, List.set_cons_zero, List.set_cons_succ, i64_w, i32_w]
                    rfl
                  refine one_ (i := 0) (N := some 22) #[true, true, true, false, true, true, true, true, false, false] rfl rfl (one_of HT_.out (by kernel_rfl)) (by decide) (fun K hK => ?_)
                  refine Kd.R_lit_step (Kd.int .u8) _ 5 ?hg (N := 22) ?hd (xs := ([] : List Int)) (inner := []) (ok := fun _ => True) (okp := fun _ => True) ?hr ?hp (fun _ hk => hk) trivial (Below.refl _ _) (Nat.le_refl _) (by simp) ?_; (case hd => rfl); (case hg => rfl); (case hr => first | (go_simp; done) | (go_simp; rfl)); (case hp => exact (Reps.none _ _))
                  intro v254 w23 ho24 hb hg_ hnew_
                  clear hg_ hnew_
                  (first | rw [← Ny253.out] at ho24 | (simp only [Int.reduceToNat] at ho24; rw [← Ny253.out] at ho24))
                  have n0_ := Aside0.mk (Kd.R_lower ho24 (below_size bb_))
                  have n1_ := Aside0.mk (blk_below (kb_ BK249) hb)
                  have n2_ := Aside0.mk (blk_below (kb_ BK250) hb)
                  have n3_ := Aside0.mk (below_step bb_ hb)
                  clear BK249
                  clear BK250
                  clear HB
                  have HO255 := n0_
                  have BK249 := n1_
                  have BK250 := n2_
                  have HB := n3_
                  clear n0_ n1_ n2_ n3_
                  clear hb ho24
                  refine hK.out _ _ ⟨(blk_cell BK249.out 0).trans rfl, (blk_cell BK249.out 1).trans rfl⟩ (fun hHeld => ?_)
                  clear hK K
                  refine norm_ (a' := ?_) ?_ ?_
                  rotate_left
                  · show Act.put _ (some 22) _ = _
                    simp only [Act.put, List.setIfInBounds_toArray, List.set_cons_zero, List.set_cons_succ, i64_w, i32_w]
                    rfl
                  refine one_ (i := 3) (N := some 25) #[true, true, true, true, true, true, true, true, false, false] rfl rfl (one_of HT_.out (by kernel_rfl)) (by decide) (fun K hK => ?_)
                  refine Kd.R_append_rows_step (Kd.int .u8) (w0 := w) w.heap.size (by rfl) (.tmp 22) (.tmp 24) 22 5 (.int .u8 0) 1 rfl Try.underlying22 info5 rfl (by decide) (by omega) v254 y253 l0_0 _ _ _ (fun _ => True) (fun _ => False) rfl rfl ?aO ?aR (fun _ _ h => h) (fun _ h => h.elim) ?aF ?aB ?aS ?aL ?_
                  (case aR => repeat (first | exact (Kd.C_below HR0_0.out HB.out) | (with_reducible refine Kd.C_alloc ?_ _) | (with_reducible refine Kd.C_drewN ?_ _) | (with_reducible refine Kd.C_drew ?_)))
                  (case aB => exact bb_)
                  (case aF => exact (fun _ _ => trivial))
                  (case aO => exact (kr_ HO255))
                  (case aS => exact (below_size bb_))
                  (case aL => have := LMc7.out; omega)
                  intro v257 w25 ho hb hg hat
                  rw [← Ny256.out] at ho
                  have n0_ := Aside0.mk (blk_grown (g := gb249) (o := .cells #[.slice A0_0 l0_0.length c0_0, .slice A0_1 l0_1.length c0_1] 26 (0, 0)) (by (with_reducible repeat (first | refine blk_drewN ?_ _ | refine blk_drew ?_ | refine blk_alloc ?_ _)); exact BK249.out) hg (Kd.R_ne HO255.out BK249.out (by decide)))
                  have n1_ := Aside0.mk (blk_grown (g := gb250) (o := .cells #[.int .i64 0, .int .i64 0, .slice none 0 0, .slice none 0 0] 28 (0, 0)) (by (with_reducible repeat (first | refine blk_drewN ?_ _ | refine blk_drew ?_ | refine blk_alloc ?_ _)); exact BK250.out) hg (Kd.R_ne HO255.out BK250.out (by decide)))
                  have n2_ := Aside0.mk (hb)
                  have n3_ := Aside0.mk (ho)
                  clear BK249
                  clear BK250
                  clear HB
                  clear HO255
                  have BK249 := n0_
                  have BK250 := n1_
                  have HB := n2_
                  have HO258 := n3_
                  clear n0_ n1_ n2_ n3_
                  clear ho hb hg hat
                  refine hK.out _ _ ⟨(blk_cell BK249.out 0).trans rfl, (blk_cell BK249.out 1).trans rfl⟩ (fun hHeld => ?_)
                  clear hK K
                  refine norm_ (a' := ?_) ?_ ?_
                  rotate_left
                  · show Act.put _ (some 25) _ = _
                    simp only [Act.put, List.setIfInBounds_toArray, List.set_cons_zero, List.set_cons_succ, i64_w, i32_w]
                    rfl
                  refine one_ (i := 8) (N := some 30) #[true, true, true, true, true, true, true, true, true, false] rfl rfl (one_of HT_.out (by kernel_rfl)) (by decide) (fun K hK => ?_)
                  refine Kd.R_append_rows_step (Kd.int .u8) (w0 := w) w.heap.size (by rfl) (.tmp 25) (.tmp 29) 22 5 (.int .u8 0) 1 rfl Try.underlying22 info5 rfl (by decide) (by omega) v257 y256 (l0_1.take (a1 : Int).toNat) _ _ _ (fun _ => True) (fun _ => False) rfl rfl ?aO ?aR (fun _ _ h => h) (fun _ h => h.elim) ?aF ?aB ?aS ?aL ?_
                  (case aR => first | (have hq_ := HR259.out; rw [show (l0_1.take (a1 : Int).toNat).length = a1.toNat from (by rw [List.length_take]; have h_ : (a1 : Int) ≤ (l0_1.length : Int) := of_decide_eq_true as_; omega)] at hq_; repeat (first | exact (Kd.C_below hq_ HB.out) | (with_reducible refine Kd.C_alloc ?_ _) | (with_reducible refine Kd.C_drewN ?_ _) | (with_reducible refine Kd.C_drew ?_)); done) | (rw [← show (l0_1.take (a1 : Int).toNat).length = a1.toNat from (by rw [List.length_take]; have h_ : (a1 : Int) ≤ (l0_1.length : Int) := of_decide_eq_true as_; omega)]; repeat (first | exact (Kd.C_below HR259.out HB.out) | (with_reducible refine Kd.C_alloc ?_ _) | (with_reducible refine Kd.C_drewN ?_ _) | (with_reducible refine Kd.C_drew ?_)); done) | (repeat (first | exact (Kd.C_below HR259.out HB.out) | (with_reducible refine Kd.C_alloc ?_ _) | (with_reducible refine Kd.C_drewN ?_ _) | (with_reducible refine Kd.C_drew ?_))))
                  (case aB => exact bb_)
                  (case aF => exact (fun _ _ => trivial))
                  (case aO => exact (kr_ HO258))
                  (case aS => exact (below_size bb_))
                  (case aL => have := LMc10.out; have hlx_ := (show (l0_1.take (a1 : Int).toNat).length = a1.toNat from (by rw [List.length_take]; have h_ : (a1 : Int) ≤ (l0_1.length : Int) := of_decide_eq_true as_; omega)); omega)
                  intro v261 w26 ho hb hg hat
                  rw [← Ny260.out] at ho
                  have n0_ := Aside0.mk (blk_grown (g := gb249) (o := .cells #[.slice A0_0 l0_0.length c0_0, .slice A0_1 l0_1.length c0_1] 26 (0, 0)) (by (with_reducible repeat (first | refine blk_drewN ?_ _ | refine blk_drew ?_ | refine blk_alloc ?_ _)); exact BK249.out) hg (Kd.R_ne HO258.out BK249.out (by decide)))
                  have n1_ := Aside0.mk (blk_grown (g := gb250) (o := .cells #[.int .i64 0, .int .i64 0, .slice none 0 0, .slice none 0 0] 28 (0, 0)) (by (with_reducible repeat (first | refine blk_drewN ?_ _ | refine blk_drew ?_ | refine blk_alloc ?_ _)); exact BK250.out) hg (Kd.R_ne HO258.out BK250.out (by decide)))
                  have n2_ := Aside0.mk (hb)
                  have n3_ := Aside0.mk (ho)
                  clear BK249
                  clear BK250
                  clear HB
                  clear HO258
                  have BK249 := n0_
                  have BK250 := n1_
                  have HB := n2_
                  have HO262 := n3_
                  clear n0_ n1_ n2_ n3_
                  clear ho hb hg hat
                  refine hK.out _ _ ⟨(blk_cell BK249.out 0).trans rfl, (blk_cell BK249.out 1).trans rfl⟩ (fun hHeld => ?_)
                  clear hK K
                  refine norm_ (a' := ?_) ?_ ?_
                  rotate_left
                  · show Act.put _ (some 30) _ = _
                    simp only [Act.put, List.setIfInBounds_toArray, List.set_cons_zero, List.set_cons_succ, i64_w, i32_w]
                    rfl
                  refine pure_ (i := 9) (N := some 6) (v := ?_) (a' := ?_) #[true, true, true, true, true, true, true, true, true, true] rfl rfl (any_of HT_.out (by kernel_rfl)) (fun _ _ _ h => h) (Or.inl ⟨by rfl, ?_⟩) ?_ ?_
                  rotate_left
                  · intro w'
                    go_simp
                    with_reducible rfl
                  rotate_left
                  · simp only [Act.put, List.setIfInBounds_toArray, List.set_cons_zero, List.set_cons_succ, i64_w, i32_w]
                    rfl
                  refine done_ (done_of HT_.out (by kernel_rfl)) ?_
                  obtain ⟨Ao27, co27, eo27⟩ := Kd.R_slice HO262.out
                  subst eo27
                  try go_wp2_with (first | ((with_reducible refine gate_callee (f := 78) rfl ?_); refine goe_ (some 33) Try.func78 #[.slice Ao27 y260.length co27] ?_; (with_reducible refine (spec_l10Read.calls k _ _ y260 t263 t264 _ ?side1 ?side2 A11.out).mono ?_); (case side1 => exact kc_ ((Kd.R_reads' HO262.out).2.2)); (case side2 => exact (Kd.R_reads' HO262.out).2.1); rintro e w28 ⟨v265, rfl, ho0, hb⟩; refine ⟨_, rfl, ?_⟩; have HO266 := Aside0.mk (Kd.S_lower (Kd.S_new' ho0 (Kd.R_lt (kr_ HO262))) (below_size bb_)); replace HO262 := Aside0.mk (Kd.R_below (kr_ HO262) hb); replace BK249 := Aside0.mk (blk_below (kb_ BK249) hb); replace BK250 := Aside0.mk (blk_below (kb_ BK250) hb); replace HB := Aside0.mk (below_step bb_ hb); (try clear hb); (try clear hb2); (try clear hk); (try clear hi); (try clear ho0); have q29 : (t264 : Int) ≤ ((y260.length : Int) : Int) := of_decide_eq_true as_; obtain ⟨i029, hi029, _, hsz29, _⟩ := info_parts info5; have hroom29 : y260.length ≤ co27 := (Kd.R_reads' HO262.out).2.1; have hC29 : Kd.C (Kd.int .u8) _ Ao27 y260.length y260 := (Kd.R_reads' HO262.out).2.2; have hcut29 := cut_to (P := Try.prog) 22 5 .i64 Try.underlying22 hi029 Ao27 y260.length co27 t264 (of_decide_eq_true as_) q29 hroom29; have hr29 := Kd.C_take (m := (t264 : Int).toNat) hC29 (by omega); have hy29 : y267.length = (t264 : Int).toNat := (by rw [Ny267.out, List.length_take]; omega); rw [← Ny267.out] at hr29; rw [← hy29] at hcut29; have HR270 := Aside0.mk hr29; have HC270 := Aside0.mk (show y267.length ≤ co27 from by omega); clear hr29 hC29 hroom29 hi029 hsz29; have KY29 := Aside0.mk hy29; clear hy29; have KL29 := Aside0.mk (show (t264 : Int).toNat ≤ y260.length from by omega); replace q29 := eq_true q29) | ((with_reducible refine gate_callee (f := 70) rfl ?_); refine goe_ (some 39) Try.func70 #[.slice Ao27 y267.length co27, .slice none 0 0] ?_; (refine (spec_l10Of.calls k _ _ y267 _ _ ([] : List Int) t271 t272 t273 t276 _ ?side1 ?side2 ?side3 ?side4 A14.out).mono ?_); (case side1 => repeat (first | exact (by repeat (first | (with_reducible exact HR270.out) | (with_reducible refine Kd.C_alloc ?_ _) | (with_reducible refine Kd.C_drewN ?_ _) | (with_reducible refine Kd.C_drew ?_) | exact HR270.out)) | (with_reducible refine Kd.C_alloc ?_ _) | (with_reducible refine Kd.C_drewN ?_ _) | (with_reducible refine Kd.C_drew ?_))); (case side2 => exact HC270.out); (case side3 => exact Kd.C_nil _ _); (case side4 => exact Nat.le_refl _); rintro e w30 ⟨v274, v277, rfl, ho0, ho1, hb⟩; refine ⟨_, rfl, ?_⟩; replace HO266 := Aside0.mk (Kd.S_mono (Kd.S_told (Kd.S_told (Kd.S_old (by (with_reducible repeat (first | apply Kd.S_alloc | apply Kd.S_drewN | apply Kd.S_drew)); exact HO266.out) hb) (Kd.R_base ho0)) (Kd.R_base ho1)) (fun _ h_ => h_.1)); have HO275 := Aside0.mk (Kd.R_lower (Kd.R_new' ho0 (Kd.R_lt (kr_ HO262))) (below_size bb_)); have HO278 := Aside0.mk (Kd.R_lower (Kd.R_new' ho1 (Kd.R_lt (kr_ HO262))) (below_size bb_)); replace HO262 := Aside0.mk (Kd.R_mono (Kd.R_told (Kd.R_told (Kd.R_old (kr_ HO262) hb) (Kd.R_base ho0)) (Kd.R_base ho1)) (fun _ h_ => h_.1)); replace BK249 := Aside0.mk (blk_below (kb_ BK249) hb); replace BK250 := Aside0.mk (blk_below (kb_ BK250) hb); replace HR270 := Aside0.mk (Kd.C_below (by repeat (first | (with_reducible exact HR270.out) | (with_reducible refine Kd.C_alloc ?_ _) | (with_reducible refine Kd.C_drewN ?_ _) | (with_reducible refine Kd.C_drew ?_) | exact HR270.out)) hb); replace HB := Aside0.mk (below_step bb_ hb); (try clear hb); (try clear hb2); (try clear hk); (try clear hi); (try clear ho0); (try clear ho1); obtain ⟨hcz31_0, hcz31_1, hcz31_2, hcz31_3, hfz31_0, hfz31_1, hfz31_2, hfz31_3⟩ := cf4_ BK250; obtain ⟨Ao32, co32, eo32⟩ := Kd.R_slice HO275.out; subst eo32; obtain ⟨Ao33, co33, eo33⟩ := Kd.R_slice HO278.out; subst eo33))
                  refine bodyPost_ret (results_cell_row rfl _ _ gb250 28 #[.int .i64 t271, .int .i64 t272, .slice Ao32 t273.length co32, .slice Ao33 t276.length co33] (0, 0) _ rfl (by (with_reducible repeat (first | refine blk_drewN ?_ _ | refine blk_drew ?_ | refine blk_alloc ?_ _)); refine blk_put (cs := #[.int .i64 t271, .int .i64 t272, .slice Ao32 t273.length co32, .slice none 0 0]) ?_ 3 _ rfl; (with_reducible repeat (first | refine blk_drewN ?_ _ | refine blk_drew ?_ | refine blk_alloc ?_ _)); refine blk_put (cs := #[.int .i64 t271, .int .i64 t272, .slice none 0 0, .slice none 0 0]) ?_ 2 _ rfl; (with_reducible repeat (first | refine blk_drewN ?_ _ | refine blk_drew ?_ | refine blk_alloc ?_ _)); refine blk_put (cs := #[.int .i64 t271, .int .i64 0, .slice none 0 0, .slice none 0 0]) ?_ 1 _ rfl; (with_reducible repeat (first | refine blk_drewN ?_ _ | refine blk_drew ?_ | refine blk_alloc ?_ _)); refine blk_put (cs := #[.int .i64 0, .int .i64 0, .slice none 0 0, .slice none 0 0]) ?_ 0 _ rfl; (with_reducible repeat (first | refine blk_drewN ?_ _ | refine blk_drew ?_ | refine blk_alloc ?_ _)); exact BK250.out) Try.underlying28 rfl (by kernel_rfl)) rfl ?_
                  exact ⟨_, _, er_, by (with_reducible repeat (first | apply Kd.R_alloc | apply Kd.R_drewN | apply Kd.R_drew)); exact Kd.R_mono (Kd.R_far (p := ⟨gb250, 3, none⟩) (Kd.R_far (p := ⟨gb250, 2, none⟩) (Kd.R_far (p := ⟨gb250, 1, none⟩) (Kd.R_far (p := ⟨gb250, 0, none⟩) (Kd.R_types HO275.out BK250.out (by decide)) (fun _ hk => hk.2) (.int .i64 t271)) (fun _ hk => hk.2) (.int .i64 t272)) (fun _ hk => hk.2) (.slice Ao32 t273.length co32)) (fun _ hk => hk.2) (.slice Ao33 t276.length co33)) (fun _ hk => hk.1.1), by (with_reducible repeat (first | apply Kd.R_alloc | apply Kd.R_drewN | apply Kd.R_drew)); exact Kd.R_mono (Kd.R_far (p := ⟨gb250, 3, none⟩) (Kd.R_far (p := ⟨gb250, 2, none⟩) (Kd.R_far (p := ⟨gb250, 1, none⟩) (Kd.R_far (p := ⟨gb250, 0, none⟩) (Kd.R_types HO278.out BK250.out (by decide)) (fun _ hk => hk.2) (.int .i64 t271)) (fun _ hk => hk.2) (.int .i64 t272)) (fun _ hk => hk.2) (.slice Ao32 t273.length co32)) (fun _ hk => hk.2) (.slice Ao33 t276.length co33)) (fun _ hk => hk.1.1), bb_⟩
                · rw [if_neg c13] at H
                  exact absurd H (by simp)
              · rw [if_neg c12] at H
                exact absurd H (by simp)
            · rw [if_neg c10] at H
              exact absurd H (by simp)
          · rw [if_neg c9] at H
            exact absurd H (by simp)
        · rw [if_neg c8] at H
          exact absurd H (by simp)
      · rw [if_neg c7] at H
        exact absurd H (by simp)
    · replace c6 := Bool.eq_false_iff.mpr c6
      subst c6
      have H1 : (some (3, 0, ([] : List Int), ([] : List Int))) = some (r1, r2, r3, r4) := by rw [if_neg (show ¬ (false = true) by decide)] at H; exact H
      clear H
      have H := H1
      clear H1
      simp only [Option.some.injEq, Prod.mk.injEq] at H
      obtain ⟨rfl, rfl, rfl, rfl⟩ := H
      go_enter Try.func24, Try.ntmps24
      go_wp2_with (first | ((with_reducible refine gate_dst (N := 2) rfl ?_); refine box_e_ 2 #[.slice A0_0 l0_0.length c0_0, .slice A0_1 l0_1.length c0_1] 26 ?_; intro gb249 hg w34 hbox hb; have BK249 := Aside0.mk (hbox); have GW249 := (bs_ hg : Aside0 (w.heap.size ≤ _)); have GE249 := (bs_ hg : Aside0 (w.heap.size ≤ _)); replace HB := Aside0.mk (below_step bb_ hb); clear hb hbox hg) | ((with_reducible refine gate_dst (N := 4) rfl ?_); refine box_e_ 4 #[.int .i64 0, .int .i64 0, .slice none 0 0, .slice none 0 0] 28 ?_; intro gb250 hg w35 hbox hb; have BK250 := Aside0.mk (hbox); have GW250 := (bs_ hg : Aside0 (w.heap.size ≤ _)); have GE250 := (bs_ hg : Aside0 (w.heap.size ≤ _)); replace HB := Aside0.mk (below_step bb_ hb); have NB249_250 := (nl_ hg BK249 : Aside0 (gb249 ≠ gb250)); have NB250_249 := (nr_ hg BK249 : Aside0 (gb250 ≠ gb249)); replace BK249 := Aside0.mk (blk_below (kb_ BK249) hb); clear hb hbox hg; have hnb36 := NB249_250.out; have hnc36 := NB250_249.out; obtain ⟨hcz37_0, hcz37_1, hfz37_0, hfz37_1⟩ := cf2_ BK249) | ((with_reducible refine gate_callee (f := 69) rfl ?_); refine goe_ (some 10) Try.func69 #[.agg #[.slice A0_0 l0_0.length c0_0, .slice A0_1 l0_1.length c0_1]] ?_; (with_reducible refine (spec_JournalFault.calls k _ _ l0_0 _ _ l0_1 t251 _ ?side1 ?side2 ?side3 ?side4 A3.out).mono ?_); (case side1 => exact kc_ (Kd.C_below HR0_0.out HB.out)); (case side2 => exact HC0_0.out); (case side3 => exact kc_ (Kd.C_below HR0_1.out HB.out)); (case side4 => exact HC0_1.out); rintro e w38 ⟨rfl, hb⟩; refine ⟨_, rfl, ?_⟩; replace BK249 := Aside0.mk (blk_below (kb_ BK249) hb); replace BK250 := Aside0.mk (blk_below (kb_ BK250) hb); replace HB := Aside0.mk (below_step bb_ hb); (try clear hb); (try clear hb2); (try clear hk); (try clear hi); obtain ⟨hcz39_0, hcz39_1, hfz39_0, hfz39_1⟩ := cf2_ BK249) | ((with_reducible refine gate_callee (f := 77) rfl ?_); refine goe_ (some 19) Try.func77 #[.int .i64 a1, .int .i64 0, .int .i64 (l0_1.length : Int)] ?_; (with_reducible refine (spec_l1In.calls a1 0 (l0_1.length : Int) false _ A5.out).mono ?_); rintro e w' ⟨rfl, ⟨nd, rfl⟩⟩; refine ⟨_, rfl, ?_⟩; (try (rw [drewN_self w38]; generalize hq_ : World.drewN w38 _ = w38; have n0_ : Aside0 (w38.heap[gb249]? = some (.cells #[.slice A0_0 l0_0.length c0_0, .slice A0_1 l0_1.length c0_1] 26 (0, 0))) := ⟨by rw [← hq_]; exact (by (with_reducible repeat (first | refine blk_drewN ?_ _ | refine blk_drew ?_ | refine blk_alloc ?_ _)); exact BK249.out)⟩; have n1_ : Aside0 (w38.heap[gb250]? = some (.cells #[.int .i64 0, .int .i64 0, .slice none 0 0, .slice none 0 0] 28 (0, 0))) := ⟨by rw [← hq_]; exact (by (with_reducible repeat (first | refine blk_drewN ?_ _ | refine blk_drew ?_ | refine blk_alloc ?_ _)); exact BK250.out)⟩; have n2_ : Aside0 (Below w.heap.size w w38) := ⟨by rw [← hq_]; exact bb_⟩; clear BK249 BK250 HB hq_; have BK249 := n0_; have BK250 := n1_; have HB := n2_; clear n0_ n1_ n2_)); obtain ⟨hcz40_0, hcz40_1, hcz40_2, hcz40_3, hfz40_0, hfz40_1, hfz40_2, hfz40_3⟩ := cf4_ BK250))
      refine bodyPost_ret (results_cell_row rfl _ _ gb250 28 #[.int .i64 3, .int .i64 0, .slice none 0 0, .slice none 0 0] (0, 0) _ rfl (by (with_reducible repeat (first | refine blk_drewN ?_ _ | refine blk_drew ?_ | refine blk_alloc ?_ _)); refine blk_put (cs := #[.int .i64 3, .int .i64 0, .slice none 0 0, .slice none 0 0]) ?_ 3 _ rfl; (with_reducible repeat (first | refine blk_drewN ?_ _ | refine blk_drew ?_ | refine blk_alloc ?_ _)); refine blk_put (cs := #[.int .i64 3, .int .i64 0, .slice none 0 0, .slice none 0 0]) ?_ 2 _ rfl; (with_reducible repeat (first | refine blk_drewN ?_ _ | refine blk_drew ?_ | refine blk_alloc ?_ _)); refine blk_put (cs := #[.int .i64 3, .int .i64 0, .slice none 0 0, .slice none 0 0]) ?_ 1 _ rfl; (with_reducible repeat (first | refine blk_drewN ?_ _ | refine blk_drew ?_ | refine blk_alloc ?_ _)); refine blk_put (cs := #[.int .i64 0, .int .i64 0, .slice none 0 0, .slice none 0 0]) ?_ 0 _ rfl; (with_reducible repeat (first | refine blk_drewN ?_ _ | refine blk_drew ?_ | refine blk_alloc ?_ _)); exact BK250.out) Try.underlying28 rfl (by kernel_rfl)) rfl ?_
      exact ⟨_, _, er_, by first | exact Kd.R_nil _ _ _ _ _ | exact Kd.N_nil _ _ _ _ _ | exact Kd.V_nil _ _ _ _ _ | exact Kd.Q_nil _ _ _ _ _ | exact Kd.S_nil _ _ _ _ _, by first | exact Kd.R_nil _ _ _ _ _ | exact Kd.N_nil _ _ _ _ _ | exact Kd.V_nil _ _ _ _ _ | exact Kd.Q_nil _ _ _ _ _ | exact Kd.S_nil _ _ _ _ _, bb_⟩
  · rw [if_neg c4] at H
    have c4b0 : (t251 == 0) = false := beq_eq_false_iff_ne.mpr c4
    have c4b1 : (t251 != 0) = true := bne_iff_ne.mpr c4
    simp only [Option.some.injEq, Prod.mk.injEq] at H
    obtain ⟨rfl, rfl, rfl, rfl⟩ := H
    go_enter Try.func24, Try.ntmps24
    go_wp2_with (first | ((with_reducible refine gate_dst (N := 2) rfl ?_); refine box_e_ 2 #[.slice A0_0 l0_0.length c0_0, .slice A0_1 l0_1.length c0_1] 26 ?_; intro gb249 hg w41 hbox hb; have BK249 := Aside0.mk (hbox); have GW249 := (bs_ hg : Aside0 (w.heap.size ≤ _)); have GE249 := (bs_ hg : Aside0 (w.heap.size ≤ _)); replace HB := Aside0.mk (below_step bb_ hb); clear hb hbox hg) | ((with_reducible refine gate_dst (N := 4) rfl ?_); refine box_e_ 4 #[.int .i64 0, .int .i64 0, .slice none 0 0, .slice none 0 0] 28 ?_; intro gb250 hg w42 hbox hb; have BK250 := Aside0.mk (hbox); have GW250 := (bs_ hg : Aside0 (w.heap.size ≤ _)); have GE250 := (bs_ hg : Aside0 (w.heap.size ≤ _)); replace HB := Aside0.mk (below_step bb_ hb); have NB249_250 := (nl_ hg BK249 : Aside0 (gb249 ≠ gb250)); have NB250_249 := (nr_ hg BK249 : Aside0 (gb250 ≠ gb249)); replace BK249 := Aside0.mk (blk_below (kb_ BK249) hb); clear hb hbox hg; have hnb43 := NB249_250.out; have hnc43 := NB250_249.out; obtain ⟨hcz44_0, hcz44_1, hfz44_0, hfz44_1⟩ := cf2_ BK249) | ((with_reducible refine gate_callee (f := 69) rfl ?_); refine goe_ (some 10) Try.func69 #[.agg #[.slice A0_0 l0_0.length c0_0, .slice A0_1 l0_1.length c0_1]] ?_; (with_reducible refine (spec_JournalFault.calls k _ _ l0_0 _ _ l0_1 t251 _ ?side1 ?side2 ?side3 ?side4 A3.out).mono ?_); (case side1 => exact kc_ (Kd.C_below HR0_0.out HB.out)); (case side2 => exact HC0_0.out); (case side3 => exact kc_ (Kd.C_below HR0_1.out HB.out)); (case side4 => exact HC0_1.out); rintro e w45 ⟨rfl, hb⟩; refine ⟨_, rfl, ?_⟩; replace BK249 := Aside0.mk (blk_below (kb_ BK249) hb); replace BK250 := Aside0.mk (blk_below (kb_ BK250) hb); replace HB := Aside0.mk (below_step bb_ hb); (try clear hb); (try clear hb2); (try clear hk); (try clear hi); obtain ⟨hcz46_0, hcz46_1, hcz46_2, hcz46_3, hfz46_0, hfz46_1, hfz46_2, hfz46_3⟩ := cf4_ BK250))
    refine bodyPost_ret (results_cell_row rfl _ _ gb250 28 #[.int .i64 t251, .int .i64 0, .slice none 0 0, .slice none 0 0] (0, 0) _ rfl (by (with_reducible repeat (first | refine blk_drewN ?_ _ | refine blk_drew ?_ | refine blk_alloc ?_ _)); refine blk_put (cs := #[.int .i64 t251, .int .i64 0, .slice none 0 0, .slice none 0 0]) ?_ 3 _ rfl; (with_reducible repeat (first | refine blk_drewN ?_ _ | refine blk_drew ?_ | refine blk_alloc ?_ _)); refine blk_put (cs := #[.int .i64 t251, .int .i64 0, .slice none 0 0, .slice none 0 0]) ?_ 2 _ rfl; (with_reducible repeat (first | refine blk_drewN ?_ _ | refine blk_drew ?_ | refine blk_alloc ?_ _)); refine blk_put (cs := #[.int .i64 t251, .int .i64 0, .slice none 0 0, .slice none 0 0]) ?_ 1 _ rfl; (with_reducible repeat (first | refine blk_drewN ?_ _ | refine blk_drew ?_ | refine blk_alloc ?_ _)); refine blk_put (cs := #[.int .i64 0, .int .i64 0, .slice none 0 0, .slice none 0 0]) ?_ 0 _ rfl; (with_reducible repeat (first | refine blk_drewN ?_ _ | refine blk_drew ?_ | refine blk_alloc ?_ _)); exact BK250.out) Try.underlying28 rfl (by kernel_rfl)) rfl ?_
    exact ⟨_, _, er_, by first | exact Kd.R_nil _ _ _ _ _ | exact Kd.N_nil _ _ _ _ _ | exact Kd.V_nil _ _ _ _ _ | exact Kd.Q_nil _ _ _ _ _ | exact Kd.S_nil _ _ _ _ _, by first | exact Kd.R_nil _ _ _ _ _ | exact Kd.N_nil _ _ _ _ _ | exact Kd.V_nil _ _ _ _ _ | exact Kd.Q_nil _ _ _ _ _ | exact Kd.S_nil _ _ _ _ _, bb_⟩
end Go.Proofs.Ythmkjapmnlhflaa.PFnExactCrashJournal
