/- The functions that the law FnExactCutJournal reaches: each as a plain Lean function, with the proof that the call does what it says. -/
import Derived.Test.YthmkjapmnlhflaaYFnExactCutJournalx0
import Derived.Test.YthmkjapmnlhflaaYFnExactCutJournalx9
namespace Go.Proofs.Ythmkjapmnlhflaa.PFnExactCutJournal
open Go.RowKit Go.Proofs.YthmkjapmnlhflaaW.PrintWords Go.Proofs.YthmkjapmnlhflaaW.PrintLast Go.Proofs.YthmkjapmnlhflaaW.PrintMore
attribute [local go_sem] max2_int min2_int max_two min_two max_three min_three max_four min_four
set_option linter.unusedVariables false
set_option linter.unusedSimpArgs false
def impl_readEntries.l0 : Nat → List Int → List (S61) → Int → Option ((List (S61)) × Int)
  | 0, _, _, _ => none
  | k + 1, x0, x4, x5 => if 0 ≤ x5 then (if x5 ≤ (x0.length : Int) then ((impl_nextEntry.f k (x0.drop (x5 : Int).toNat)).bind fun bt337 => (if bt337.2.2.2.2 = 0 then (some (x4, x5)) else (if x4.length < 2932031007402 then (impl_readEntries.l0 k x0 (x4 ++ [(⟨bt337.1, (⟨bt337.2.1, bt337.2.2.1, bt337.2.2.2.1⟩ : S59)⟩ : S61)]) (wrap64 (x5 + bt337.2.2.2.2))) else (none)))) else (none)) else (none)
def impl_readEntries.f (k : Nat) (l0 : List Int) : Option ((List (S61)) × Int) := impl_readEntries.l0 k l0 (([] : List (S61))) 0
theorem impl_readEntries.mono_l : ∀ k, (∀ y0 y1 y2, LeO (impl_readEntries.l0 k y0 y1 y2) (impl_readEntries.l0 (k + 1) y0 y1 y2))
  | 0 => fun _ _ _ r h => by simp [impl_readEntries.l0] at h
  | k + 1 => by
    have ih0 := impl_readEntries.mono_l k
    · intro y0 y1 y2
      unfold impl_readEntries.l0
      repeat' first
      | (with_reducible exact ih0 _ _ _)
      | (with_reducible exact impl_nextEntry.mono _ _)
      | (with_reducible exact LeO.refl _)
      | (with_reducible exact LeO.none _)
      | (with_reducible refine LeO.ite ?_ ?_)
      | (with_reducible refine LeO.bind ?_ (fun _ => ?_))
      | exact ih0 _ _ _
      | exact impl_nextEntry.mono _ _
      | exact LeO.none _
      | refine LeO.ite ?_ ?_
      | refine LeO.bind ?_ (fun _ => ?_)
theorem impl_readEntries.mono : ∀ a0 k, LeO (impl_readEntries.f k a0) (impl_readEntries.f (k + 1) a0) := by
  intro a0 k; have ih0 := impl_readEntries.mono_l k; unfold impl_readEntries.f
  repeat' first
      | (with_reducible exact ih0 _ _ _)
      | (with_reducible exact impl_nextEntry.mono _ _)
      | (with_reducible exact LeO.refl _)
      | (with_reducible exact LeO.none _)
      | (with_reducible refine LeO.ite ?_ ?_)
      | (with_reducible refine LeO.bind ?_ (fun _ => ?_))
      | exact ih0 _ _ _
      | exact impl_nextEntry.mono _ _
      | exact LeO.none _
      | refine LeO.ite ?_ ?_
      | refine LeO.bind ?_ (fun _ => ?_)
set_option maxHeartbeats 8000000 in
set_option maxRecDepth 100000 in
theorem impl_readEntries.calls (k : Nat) (A0 : Option Addr) (c0 : Nat) (l0 : List Int) (r1 : List (S61)) (r2 : Int) (w : World) (hr0 : Kd.C (Kd.int .u8) w A0 l0.length l0) (hc0 : l0.length ≤ c0) (h : impl_readEntries.f k l0 = some (r1, r2)) :
    Calls Try.prog 81 #[.slice A0 l0.length c0] w fun e w' => ∃ v0_ : Value, e = .returned (.tuple #[v0_, .int .i64 r2]) ∧ Kd.S k61 61 w' w.heap.size (fun _ => True) v0_ r1 ∧ Below w.heap.size w w' := by
  have hu61 := Try.underlying61; have HR0 := Aside0.mk hr0; have HC0 := Aside0.mk hc0; clear hr0 hc0; have HB := Aside0.mk (Below.refl w.heap.size w); have H : (impl_readEntries.l0 k l0 (([] : List (S61))) 0) = some (r1, r2) := h; clear h; obtain ⟨y333, hy333⟩ : ∃ y_ : List (S61), y_ = (([] : List (S61))) := ⟨_, rfl⟩; replace H : (impl_readEntries.l0 k l0 y333 0) = some (r1, r2) := by first | (rw [hy333]; with_reducible exact H) | (have H2_ := (Option.bind_some _ _).symm.trans H; rw [hy333]; with_reducible exact H2_) | (have H2_ := (Option.bind_some _ _).symm.trans H; with_reducible exact H2_) | with_reducible exact H | (rw [hy333]; exact H) | exact H
  have Ny333 := Aside0.mk hy333; clear hy333; have H' := Aside0.mk H; clear H
  go_enter Try.func81, Try.ntmps81
  go_wp2_with (first | ((with_reducible refine gate_dst (N := 8) rfl ?_); refine Kd.S_lit k61 _ 61 ?hg (N := 8) ?hd (xs := ([] : List (S61))) (inner := []) (ok := fun _ => True) (okp := fun _ => True) ?hr ?hp (fun _ hk => hk) trivial (Below.refl _ _) (Nat.le_refl _) (by simp) ?_; (case hd => rfl); (case hg => rfl); (case hr => first | (go_simp; done) | (go_simp; rfl)); (case hp => exact (Reps.none _ _)); intro v334 w2 ho3 hb hg_ hnew_; clear hg_ hnew_; (first | rw [← Ny333.out] at ho3 | (simp only [Int.reduceToNat] at ho3; rw [← Ny333.out] at ho3)); have HO335 := Aside0.mk (Kd.S_lower ho3 (below_size bb_)); replace HB := bw_ hb; clear hb ho3))
  go_loopg [4, 5] k (fun kq v4 v5 w' => ∃ (x4_1 : List (S61)) (x5_1 : Int), v5 = .int .i64 x5_1 ∧ Aside0 (impl_readEntries.l0 kq l0 x4_1 x5_1 = some (r1, r2)) ∧ Aside0 (kq ≤ k) ∧ Aside0 (Kd.S k61 61 w' w.heap.size (fun _ => True) v4 x4_1) ∧ Aside0 (Below w.heap.size w w'))
  case atStart => exact ⟨(y333), (0), sd_, H', ⟨Nat.le_refl _⟩, ⟨by (with_reducible repeat (first | apply Kd.S_alloc | apply Kd.S_drewN | apply Kd.S_drew)); exact HO335.out⟩, ⟨bb_⟩⟩
  case round =>
    clear H'; try clear p2
    obtain ⟨x4_1, x5_1, rfl, HA, HK1, HO_4, HB⟩ := hrel
    cases gk with
    | zero => exact absurd HA.out (by simp [impl_readEntries.l0])
    | succ k1 =>
      have H := HA.out; clear HA; simp only [impl_readEntries.l0] at H
      by_cases c4 : 0 ≤ x5_1
      · rw [if_pos c4] at H
        have c4b0 := eq_true c4; have c4b1 : decide (0 ≤ x5_1) = true := decide_eq_true c4; clear c4
        by_cases c5 : x5_1 ≤ (l0.length : Int)
        · rw [if_pos c5] at H
          have c5b0 := eq_true c5; have c5b1 : decide (x5_1 ≤ (l0.length : Int)) = true := decide_eq_true c5; clear c5; replace H := Option.bind_eq_some_iff.mp H; obtain ⟨⟨t337, t338, t339, t340, t343⟩, A60, H⟩ := H; replace H : (if t343 = 0 then (some (x4_1, x5_1)) else (if x4_1.length < 2932031007402 then (impl_readEntries.l0 k1 l0 (x4_1 ++ [(⟨t337, (⟨t338, t339, t340⟩ : S59)⟩ : S61)]) (wrap64 (x5_1 + t343))) else (none))) = some (r1, r2) := H; have A6 := Aside0.mk A60; clear A60
          by_cases c7 : t343 = 0
          · rw [if_pos c7] at H
            have c7b0 : (t343 == 0) = true := beq_iff_eq.mpr c7; have c7b1 : (t343 != 0) = false := bne_eq_false_iff_eq.mpr c7; clear c7; simp only [Option.some.injEq, Prod.mk.injEq] at H; obtain ⟨rfl, rfl⟩ := H; obtain ⟨i08, hi08, _, hsz8, _⟩ := info_parts info5; obtain ⟨A8, hcut8, hA8, hC8⟩ := print_drop_of (P := Try.prog) (Value.int .u8) 0 22 5 .i64 Try.underlying22 hi08 hsz8 A0 c0 l0 x5_1 (of_decide_eq_true as_) (of_decide_eq_true as_) HC0.out; have HR336 := Aside0.mk (Kd.C_of_reads (h1 := fun _ => rfl) (hA8 _ (Kd.reads_of_C HR0.out))); have HC336 := Aside0.mk hC8; clear hA8 hC8 hi08 hsz8; generalize hdl8_ : (l0.drop (x5_1 : Int).toNat) = dl8_ at *; go_wp2_with (first | ((with_reducible refine gate_callee (f := 135) rfl ?_); refine goesL_ (some 13) rfl rfl Try.func135 (by kernel_rfl) rfl #[.slice A8 dl8_.length (c0 - x5_1.toNat)] rfl (by (try simp only [List.map_toArray, List.map_cons, List.map_nil]); first | done | (rw [show dl8_.length = (l0.length - x5_1.toNat) from List.length_drop] <;> rfl) | rfl | (simp only [List.length_drop, List.length_take]; rfl)) ?_; (with_reducible refine (impl_nextEntry.calls k1 _ _ dl8_ t337 t338 t339 t340 t343 _ ?side1 ?side2 A6.out).mono ?_); (case side1 => exact kc_ (Kd.C_below HR336.out HB.out)); (case side2 => exact HC336.out); rintro e w9 ⟨v341, rfl, ho0, hb⟩; refine ⟨_, rfl, ?_⟩; replace HO_4 := Aside0.mk (Kd.S_elder' (by (with_reducible repeat (first | apply Kd.S_alloc | apply Kd.S_drewN | apply Kd.S_drew)); exact HO_4.out) (Kd.R_base ho0) hb); have HO342 := Aside0.mk (Kd.R_lower ho0 (below_size bb_)); replace HB := bw_ hb; (try clear hb); (try clear ho0)) | ((with_reducible refine gate_dst (N := 6) rfl ?_); refine box_e_ 6 #[.int .i64 0, .int .i64 0, .int .i64 0, .slice none 0 0] 61 ?_; intro gb344 hg w10 hbox hb; replace HO_4 := Aside0.mk (Kd.S_below (Kd.S_elderB (by (with_reducible repeat (first | apply Kd.S_alloc | apply Kd.S_drewN | apply Kd.S_drew)); exact HO_4.out) gb344 (Nat.le_of_eq hg.symm)) hb); replace HO342 := rb_ HO342 hb; have BK344 := Aside0.mk (hbox); have GW344 := (bs_ hg : Aside0 (w.heap.size ≤ _)); have GE344 := (bs_ hg : Aside0 (w.heap.size ≤ _)); replace HB := bw_ hb; clear hb hbox hg; obtain ⟨hcz11_0, hcz11_1, hcz11_2, hcz11_3, hfz11_0, hfz11_1, hfz11_2, hfz11_3⟩ := cf4_ BK344; obtain ⟨Ao12, co12, eo12⟩ := Kd.R_slice HO342.out; subst eo12))
            go_ret2
            exact ⟨_, er_, by (with_reducible repeat (first | apply Kd.S_alloc | apply Kd.S_drewN | apply Kd.S_drew)); exact Kd.S_mono (Kd.S_far (p := ⟨gb344, 3, none⟩) (Kd.S_far (p := ⟨gb344, 2, none⟩) (Kd.S_far (p := ⟨gb344, 1, none⟩) (Kd.S_far (p := ⟨gb344, 0, none⟩) (Kd.S_mono HO_4.out (fun k_ hk => (⟨hk, hk.2⟩ : _ ∧ k_ ≠ gb344))) (fun _ hk => hk.2) (.int .i64 t337)) (fun _ hk => hk.2) (.int .i64 t338)) (fun _ hk => hk.2) (.int .i64 t339)) (fun _ hk => hk.2) (.slice Ao12 t340.length co12)) (fun _ hk => trivial), bb_⟩
          · rw [if_neg c7] at H
            have c7b0 : (t343 == 0) = false := beq_eq_false_iff_ne.mpr c7; have c7b1 : (t343 != 0) = true := bne_iff_ne.mpr c7
            by_cases c13 : x4_1.length < 2932031007402
            · rw [if_pos c13] at H
              have LMc13 := Aside0.mk c13; clear c13; obtain ⟨y345, hy345⟩ : ∃ y_ : List (S61), y_ = (x4_1 ++ [(⟨t337, (⟨t338, t339, t340⟩ : S59)⟩ : S61)]) := ⟨_, rfl⟩; replace H : (impl_readEntries.l0 k1 l0 y345 (wrap64 (x5_1 + t343))) = some (r1, r2) := by first | (rw [hy345]; with_reducible exact H) | (have H2_ := (Option.bind_some _ _).symm.trans H; rw [hy345]; with_reducible exact H2_) | (have H2_ := (Option.bind_some _ _).symm.trans H; with_reducible exact H2_) | with_reducible exact H | (rw [hy345]; exact H) | exact H
              have Ny345 := Aside0.mk hy345; clear hy345; have H' := Aside0.mk H; clear H; obtain ⟨i014, hi014, _, hsz14, _⟩ := info_parts info5; obtain ⟨A14, hcut14, hA14, hC14⟩ := print_drop_of (P := Try.prog) (Value.int .u8) 0 22 5 .i64 Try.underlying22 hi014 hsz14 A0 c0 l0 x5_1 (of_decide_eq_true as_) (of_decide_eq_true as_) HC0.out; have HR336 := Aside0.mk (Kd.C_of_reads (h1 := fun _ => rfl) (hA14 _ (Kd.reads_of_C HR0.out))); have HC336 := Aside0.mk hC14; clear hA14 hC14 hi014 hsz14; generalize hdl14_ : (l0.drop (x5_1 : Int).toNat) = dl14_ at *; go_wp2_with (first | ((with_reducible refine gate_callee (f := 135) rfl ?_); refine goesL_ (some 13) rfl rfl Try.func135 (by kernel_rfl) rfl #[.slice A14 dl14_.length (c0 - x5_1.toNat)] rfl (by (try simp only [List.map_toArray, List.map_cons, List.map_nil]); first | done | (rw [show dl14_.length = (l0.length - x5_1.toNat) from List.length_drop] <;> rfl) | rfl | (simp only [List.length_drop, List.length_take]; rfl)) ?_; (with_reducible refine (impl_nextEntry.calls k1 _ _ dl14_ t337 t338 t339 t340 t343 _ ?side1 ?side2 A6.out).mono ?_); (case side1 => exact kc_ (Kd.C_below HR336.out HB.out)); (case side2 => exact HC336.out); rintro e w15 ⟨v341, rfl, ho0, hb⟩; refine ⟨_, rfl, ?_⟩; replace HO_4 := Aside0.mk (Kd.S_elder' (by (with_reducible repeat (first | apply Kd.S_alloc | apply Kd.S_drewN | apply Kd.S_drew)); exact HO_4.out) (Kd.R_base ho0) hb); have HO342 := Aside0.mk (Kd.R_lower ho0 (below_size bb_)); replace HB := bw_ hb; (try clear hb); (try clear hk); (try clear ho0)) | ((with_reducible refine gate_dst (N := 6) rfl ?_); refine box_e_ 6 #[.int .i64 0, .int .i64 0, .int .i64 0, .slice none 0 0] 61 ?_; intro gb344 hg w16 hbox hb; replace HO_4 := Aside0.mk (Kd.S_below (Kd.S_elderB (by (with_reducible repeat (first | apply Kd.S_alloc | apply Kd.S_drewN | apply Kd.S_drew)); exact HO_4.out) gb344 (Nat.le_of_eq hg.symm)) hb); replace HO342 := rb_ HO342 hb; have BK344 := Aside0.mk (hbox); have GW344 := (bs_ hg : Aside0 (w.heap.size ≤ _)); have GE344 := (bs_ hg : Aside0 (w.heap.size ≤ _)); replace HB := bw_ hb; clear hb hbox hg; obtain ⟨hcz17_0, hcz17_1, hcz17_2, hcz17_3, hfz17_0, hfz17_1, hfz17_2, hfz17_3⟩ := cf4_ BK344; obtain ⟨Ao18, co18, eo18⟩ := Kd.R_slice HO342.out; subst eo18) | ((with_reducible refine gate_store (t := 61) (p := 6) rfl ?_); refine store_event (t := 61) (p := 6) (v := ?vo_w19) (w1 := ((((w16.setCell ⟨gb344, 0, none⟩ (.int .i64 t337)).setCell ⟨gb344, 1, none⟩ (.int .i64 t338)).setCell ⟨gb344, 2, none⟩ (.int .i64 t339)).setCell ⟨gb344, 3, none⟩ (.slice Ao18 t340.length co18))) ?hg ?ho ?hn ?hr ?_; (case ho => rfl); (case hg => rfl); (case hn => rfl); (case hr => first | (go_simp; done) | (go_simp; rfl)); intro w19 hw; have n0_ : Aside0 (Kd.S k61 61 w19 w.heap.size (fun k_ => some k_ ≠ (.slice Ao18 t340.length co18 : Value).ownBlock ∧ k_ ≠ gb344) u4 x4_1) := ⟨(by rw [hw]; exact (by (with_reducible repeat (first | apply Kd.S_alloc | apply Kd.S_drewN | apply Kd.S_drew)); exact Kd.S_mono (Kd.S_far (p := ⟨gb344, 3, none⟩) (Kd.S_far (p := ⟨gb344, 2, none⟩) (Kd.S_far (p := ⟨gb344, 1, none⟩) (Kd.S_far (p := ⟨gb344, 0, none⟩) (Kd.S_mono HO_4.out (fun k_ hk => (⟨hk, hk.2⟩ : _ ∧ k_ ≠ gb344))) (fun _ hk => hk.2) (.int .i64 t337)) (fun _ hk => hk.2) (.int .i64 t338)) (fun _ hk => hk.2) (.int .i64 t339)) (fun _ hk => hk.2) (.slice Ao18 t340.length co18)) (fun _ hk => ⟨hk.1.1.2, hk.1.2⟩)))⟩; have n1_ : Aside0 (Kd.R (Kd.int .u8) 5 w19 w.heap.size (fun _ => True) (.slice Ao18 t340.length co18) t340) := ⟨(by rw [hw]; exact (by (with_reducible repeat (first | apply Kd.R_alloc | apply Kd.R_drewN | apply Kd.R_drew)); exact Kd.R_mono (Kd.R_far (p := ⟨gb344, 3, none⟩) (Kd.R_far (p := ⟨gb344, 2, none⟩) (Kd.R_far (p := ⟨gb344, 1, none⟩) (Kd.R_far (p := ⟨gb344, 0, none⟩) (Kd.R_types HO342.out BK344.out (by decide)) (fun _ hk => hk.2) (.int .i64 t337)) (fun _ hk => hk.2) (.int .i64 t338)) (fun _ hk => hk.2) (.int .i64 t339)) (fun _ hk => hk.2) (.slice Ao18 t340.length co18)) (fun _ hk => trivial)))⟩; have n2_ : Aside0 (w19.heap[gb344]? = some (.cells #[.int .i64 t337, .int .i64 t338, .int .i64 t339, .slice Ao18 t340.length co18] 61 (0, 0))) := ⟨(by rw [hw]; exact (by (with_reducible repeat (first | refine blk_drewN ?_ _ | refine blk_drew ?_ | refine blk_alloc ?_ _)); refine blk_put (cs := #[.int .i64 t337, .int .i64 t338, .int .i64 t339, .slice none 0 0]) ?_ 3 _ rfl; (with_reducible repeat (first | refine blk_drewN ?_ _ | refine blk_drew ?_ | refine blk_alloc ?_ _)); refine blk_put (cs := #[.int .i64 t337, .int .i64 t338, .int .i64 0, .slice none 0 0]) ?_ 2 _ rfl; (with_reducible repeat (first | refine blk_drewN ?_ _ | refine blk_drew ?_ | refine blk_alloc ?_ _)); refine blk_put (cs := #[.int .i64 t337, .int .i64 0, .int .i64 0, .slice none 0 0]) ?_ 1 _ rfl; (with_reducible repeat (first | refine blk_drewN ?_ _ | refine blk_drew ?_ | refine blk_alloc ?_ _)); refine blk_put (cs := #[.int .i64 0, .int .i64 0, .int .i64 0, .slice none 0 0]) ?_ 0 _ rfl; (with_reducible repeat (first | refine blk_drewN ?_ _ | refine blk_drew ?_ | refine blk_alloc ?_ _)); exact BK344.out))⟩; have n3_ : Aside0 (Below w.heap.size w w19) := ⟨(by rw [hw]; exact bb_)⟩; clear hw; clear HO_4; clear HO342; clear BK344; clear HB; have HO_4 := n0_; have HO342 := n1_; have BK344 := n2_; have HB := n3_; clear n0_ n1_ n2_ n3_; obtain ⟨hcz20_0, hcz20_1, hcz20_2, hcz20_3, hfz20_0, hfz20_1, hfz20_2, hfz20_3⟩ := cf4_ BK344) | ((with_reducible refine gate_builtin (b := .append) (xs := #[.tmp 20, .tmp 22]) rfl ?_); at_builtin; refine Kd.S_append k61 (w0 := w) w.heap.size rfl (.tmp 20) (.tmp 22) 71 61 (.agg #[(.int .i64 0), (.int .i64 0), (.int .i64 0), (.slice none 0 0)]) 48 rfl Try.underlying71 info61 rfl (by decide) (by omega) u4 x4_1 (⟨t337, (⟨t338, t339, t340⟩ : S59)⟩ : S61) [.int .i64 t337, .int .i64 t338, .int .i64 t339, .slice Ao18 t340.length co18] (fun k_ => k_ ≠ gb344) (fun k_ => some k_ = (.slice Ao18 t340.length co18 : Value).ownBlock) rfl rfl ?aP (fun k_ hk_ => ((Kd.R_mono (ok' := fun k_ => ((fun k_ => k_ ≠ gb344)) k_ ∧ some k_ ≠ (u4 : Value).ownBlock) (Kd.R_types (Kd.R_apart' (HO342.out) (Kd.S_typed HO_4.out) (by decide)) BK344.out (by decide)) (fun k_ hk => ⟨hk.2, hk.1.2⟩))).1 k_ hk_.symm) ?aF ?aO ?aB ?aS ?aL ?_; (case aP => exact k61_mkM _ _ _ (⟨t337, (⟨t338, t339, t340⟩ : S59)⟩ : S61) (Kd.R_mono (Kd.R_tight rfl (Kd.R_mono (ok' := fun k_ => ((fun k_ => k_ ≠ gb344)) k_ ∧ some k_ ≠ (u4 : Value).ownBlock) (Kd.R_types (Kd.R_apart' (HO342.out) (Kd.S_typed HO_4.out) (by decide)) BK344.out (by decide)) (fun k_ hk => ⟨hk.2, hk.1.2⟩))) (fun _ h_ => h_))); (case aB => exact bb_); (case aF => exact (fun k_ hk => Kd.freshB (g := gb344) (o := .cells #[.int .i64 t337, .int .i64 t338, .int .i64 t339, .slice Ao18 t340.length co18] 61 (0, 0)) (kb_ BK344) k_ hk)); (case aO => exact (by (with_reducible repeat (first | apply Kd.S_alloc | apply Kd.S_drewN | apply Kd.S_drew)); exact Kd.S_mono HO_4.out (fun k_ hk => ⟨hk.2, fun e_ => hk.1 e_⟩))); (case aS => exact (below_size bb_)); (case aL => have := LMc13.out; omega); intro v346 w21 ho hb hg hat; rw [← Ny345.out] at ho; have n0_ := Aside0.mk (blk_grown (g := gb344) (o := .cells #[.int .i64 t337, .int .i64 t338, .int .i64 t339, .slice Ao18 t340.length co18] 61 (0, 0)) (kb_ BK344) hg (Kd.S_away HO_4.out (fun _ hk => hk.2))); have n1_ := Aside0.mk (hb); have n2_ := Aside0.mk (ho); clear BK344; clear HB; clear HO_4; clear HO342; have BK344 := n0_; have HB := n1_; have HO347 := n2_; clear n0_ n1_ n2_; clear ho hb hg hat))
              go_roundg k1
              case measure => have := HK1.out; omega
              case rel => exact ⟨(y345), (wrap64 (x5_1 + t343)), sd_, H', ⟨by have := HK1.out; omega⟩, ⟨by (with_reducible repeat (first | apply Kd.S_alloc | apply Kd.S_drewN | apply Kd.S_drew)); exact Kd.S_mono HO347.out (fun _ hk => trivial)⟩, ⟨bb_⟩⟩
            · rw [if_neg c13] at H
              exact absurd H (by simp)
        · rw [if_neg c5] at H
          exact absurd H (by simp)
      · rw [if_neg c4] at H
        exact absurd H (by simp)
def impl_JournalFault.l0 : Nat → List (List Int) → Int → Int → Option (Int)
  | 0, _, _, _ => none
  | k + 1, x19, x20, x21 => if x21 < x20 then (if 0 ≤ x21 then (if x21 < (x19.length : Int) then ((impl_readEntries.f k (rd_L2 x19 x21)).bind fun bt353 => (if bt353.2 < ((rd_L2 x19 x21).length : Int) then (some 5) else (impl_JournalFault.l0 k x19 x20 (wrap64 (x21 + 1))))) else (none)) else (none)) else (some 0)
def impl_JournalFault.f (k : Nat) (l0_0 : List Int) (l0_1 : List Int) : Option (Int) := if (wrap64 ((l0_0.length : Int) + (l0_1.length : Int))) > 6000 then (some 2) else ((some (([l0_0, l0_1] : List (List Int)) : List (List Int))).bind fun y349 => (impl_JournalFault.l0 k y349 (y349.length : Int) 0))
theorem impl_JournalFault.mono_l : ∀ k, (∀ y0 y1 y2, LeO (impl_JournalFault.l0 k y0 y1 y2) (impl_JournalFault.l0 (k + 1) y0 y1 y2))
  | 0 => fun _ _ _ r h => by simp [impl_JournalFault.l0] at h
  | k + 1 => by
    have ih0 := impl_JournalFault.mono_l k
    · intro y0 y1 y2
      unfold impl_JournalFault.l0
      repeat' first
      | (with_reducible exact ih0 _ _ _)
      | (with_reducible exact impl_readEntries.mono _ _)
      | (with_reducible exact LeO.refl _)
      | (with_reducible exact LeO.none _)
      | (with_reducible refine LeO.ite ?_ ?_)
      | (with_reducible refine LeO.bind ?_ (fun _ => ?_))
      | exact ih0 _ _ _
      | exact impl_readEntries.mono _ _
      | exact LeO.none _
      | refine LeO.ite ?_ ?_
      | refine LeO.bind ?_ (fun _ => ?_)
theorem impl_JournalFault.mono : ∀ a0 a1 k, LeO (impl_JournalFault.f k a0 a1) (impl_JournalFault.f (k + 1) a0 a1) := by
  intro a0 a1 k; have ih0 := impl_JournalFault.mono_l k; unfold impl_JournalFault.f
  repeat' first
      | (with_reducible exact ih0 _ _ _)
      | (with_reducible exact impl_readEntries.mono _ _)
      | (with_reducible exact LeO.refl _)
      | (with_reducible exact LeO.none _)
      | (with_reducible refine LeO.ite ?_ ?_)
      | (with_reducible refine LeO.bind ?_ (fun _ => ?_))
      | exact ih0 _ _ _
      | exact impl_readEntries.mono _ _
      | exact LeO.none _
      | refine LeO.ite ?_ ?_
      | refine LeO.bind ?_ (fun _ => ?_)
set_option maxHeartbeats 8000000 in
set_option maxRecDepth 100000 in
theorem impl_JournalFault.calls (k : Nat) (P0_0_ : Nat → Prop) (A0_0 : Option Addr) (c0_0 : Nat) (l0_0 : List Int) (P0_1_ : Nat → Prop) (A0_1 : Option Addr) (c0_1 : Nat) (l0_1 : List Int) (r : Int) (w : World) (hs0_0 : Kd.V (Kd.int .u8) 5 w w.heap.size (fun k_ => P0_0_ k_) (.slice A0_0 l0_0.length c0_0) l0_0) (hs0_1 : Kd.V (Kd.int .u8) 5 w w.heap.size (fun k_ => P0_1_ k_) (.slice A0_1 l0_1.length c0_1) l0_1) (h : impl_JournalFault.f k l0_0 l0_1 = some r) :
    Calls Try.prog 52 #[.agg #[.slice A0_0 l0_0.length c0_0, .slice A0_1 l0_1.length c0_1]] w fun e w' => e = .returned (.int .i64 r) ∧ Below w.heap.size w w' := by
  have hu26 := Try.underlying26; have HO0_0 := Aside0.mk (show Kd.V (Kd.int .u8) 5 w w.heap.size (fun k_ => ((P0_0_ k_ ∨ P0_1_ k_) ∨ w.heap.size ≤ k_)) (.slice A0_0 l0_0.length c0_0) l0_0 from Kd.V_mono hs0_0 (fun k_ hk => .inl (.inl hk))); have HO0_1 := Aside0.mk (show Kd.V (Kd.int .u8) 5 w w.heap.size (fun k_ => ((P0_0_ k_ ∨ P0_1_ k_) ∨ w.heap.size ≤ k_)) (.slice A0_1 l0_1.length c0_1) l0_1 from Kd.V_mono hs0_1 (fun k_ hk => .inl (.inr hk))); have HB := Aside0.mk (Below.refl w.heap.size w); have H : (if (wrap64 ((l0_0.length : Int) + (l0_1.length : Int))) > 6000 then (some 2) else ((some (([l0_0, l0_1] : List (List Int)) : List (List Int))).bind fun y349 => (impl_JournalFault.l0 k y349 (y349.length : Int) 0))) = some r := h; clear h
  by_cases c2 : (wrap64 ((l0_0.length : Int) + (l0_1.length : Int))) > 6000
  · rw [if_pos c2] at H
    have c2b0 : decide (6000 < (wrap64 ((l0_0.length : Int) + (l0_1.length : Int)))) = true := decide_eq_true c2; clear c2; obtain rfl := Option.some.inj H
    go_enter Try.func52, Try.ntmps52
    go_wp2_with (first | ((with_reducible refine gate_dst (N := 1) rfl ?_); refine box_e_ 1 #[.slice A0_0 l0_0.length c0_0, .slice A0_1 l0_1.length c0_1] 26 ?_; intro gb348 hg w3 hbox hb; replace HO0_0 := Aside0.mk (Kd.V_below (Kd.V_elderB (by (with_reducible repeat (first | apply Kd.V_alloc | apply Kd.V_drewN | apply Kd.V_drew)); exact HO0_0.out) gb348 (Nat.le_of_eq hg.symm)) hb); replace HO0_1 := Aside0.mk (Kd.V_below (Kd.V_elderB (by (with_reducible repeat (first | apply Kd.V_alloc | apply Kd.V_drewN | apply Kd.V_drew)); exact HO0_1.out) gb348 (Nat.le_of_eq hg.symm)) hb); have BK348 := Aside0.mk (hbox); have GW348 := (bs_ hg : Aside0 (w.heap.size ≤ _)); have GE348 := (bs_ hg : Aside0 (w.heap.size ≤ _)); replace HB := bw_ hb; clear hb hbox hg; obtain ⟨hcz4_0, hcz4_1, hfz4_0, hfz4_1⟩ := cf2_ BK348))
    go_ret
    exact ⟨er_, bb_⟩
  · rw [if_neg c2] at H
    have c2b0 : decide (6000 < (wrap64 ((l0_0.length : Int) + (l0_1.length : Int)))) = false := decide_eq_false c2; clear c2; obtain ⟨y349, hy349⟩ : ∃ y_ : List (List Int), y_ = (([l0_0, l0_1] : List (List Int))) := ⟨_, rfl⟩; replace H : (impl_JournalFault.l0 k y349 (y349.length : Int) 0) = some r := by first | (rw [hy349]; with_reducible exact H) | (have H2_ := (Option.bind_some _ _).symm.trans H; rw [hy349]; with_reducible exact H2_) | (have H2_ := (Option.bind_some _ _).symm.trans H; with_reducible exact H2_) | with_reducible exact H | (rw [hy349]; exact H) | exact H
    have Ny349 := Aside0.mk hy349; clear hy349; have H' := Aside0.mk H; clear H
    go_enter Try.func52, Try.ntmps52
    go_wp2_with (first | ((with_reducible refine gate_dst (N := 1) rfl ?_); refine box_e_ 1 #[.slice A0_0 l0_0.length c0_0, .slice A0_1 l0_1.length c0_1] 26 ?_; intro gb348 hg w5 hbox hb; replace HO0_0 := Aside0.mk (Kd.V_below (Kd.V_elderB (by (with_reducible repeat (first | apply Kd.V_alloc | apply Kd.V_drewN | apply Kd.V_drew)); exact HO0_0.out) gb348 (Nat.le_of_eq hg.symm)) hb); replace HO0_1 := Aside0.mk (Kd.V_below (Kd.V_elderB (by (with_reducible repeat (first | apply Kd.V_alloc | apply Kd.V_drewN | apply Kd.V_drew)); exact HO0_1.out) gb348 (Nat.le_of_eq hg.symm)) hb); have BK348 := Aside0.mk (hbox); have GW348 := (bs_ hg : Aside0 (w.heap.size ≤ _)); have GE348 := (bs_ hg : Aside0 (w.heap.size ≤ _)); replace HB := bw_ hb; clear hb hbox hg; obtain ⟨hcz6_0, hcz6_1, hfz6_0, hfz6_1⟩ := cf2_ BK348) | ((with_reducible refine gate_dst (N := 19) rfl ?_); refine Kd.N_lit (Kd.slice 5 (Kd.int .u8)) _ 22 ?hg (N' := 19) ?hd (xs := ([l0_0, l0_1] : List (List Int))) (inner := [.slice A0_0 l0_0.length c0_0, .slice A0_1 l0_1.length c0_1]) (ok := (fun k_ => ((P0_0_ k_ ∨ P0_1_ k_) ∨ w.heap.size ≤ k_) ∧ k_ ≠ gb348)) (okp := (fun k_ => ((P0_0_ k_ ∨ P0_1_ k_) ∨ w.heap.size ≤ k_) ∧ k_ ≠ gb348)) ?hr ?hp (fun _ hk => hk) ((show ∀ k_, w5.heap.size ≤ k_ → (fun k_ => ((P0_0_ k_ ∨ P0_1_ k_) ∨ w.heap.size ≤ k_) ∧ k_ ≠ gb348) k_ from fun k_ hk => ⟨(.inr (Nat.le_trans (below_size bb_) hk)), Kd.freshB (g := gb348) (o := .cells #[.slice A0_0 l0_0.length c0_0, .slice A0_1 l0_1.length c0_1] 26 (0, 0)) (kb_ BK348) k_ hk⟩) _ (Nat.le_refl _)) (Below.refl _ _) (Nat.le_refl _) (by simp) ?_; (case hd => rfl); (case hg => rfl); (case hr => first | (go_simp; done) | (go_simp; rfl)); (case hp => exact (Reps.one (show Kd.FK (Kd.slice 5 (Kd.int .u8)) _ _ l0_0 [.slice A0_0 l0_0.length c0_0] from (Kd.FK_slice_mk (Kd.V_reads' (Kd.V_mono (ok' := (fun k_ => ((P0_0_ k_ ∨ P0_1_ k_) ∨ w.heap.size ≤ k_) ∧ k_ ≠ gb348)) (HO0_0.out) (fun k_ hk => ⟨hk.1, hk.2⟩))).2.1 (Kd.V_F (Kd.V_mono (ok' := (fun k_ => ((P0_0_ k_ ∨ P0_1_ k_) ∨ w.heap.size ≤ k_) ∧ k_ ≠ gb348)) (HO0_0.out) (fun k_ hk => ⟨hk.1, hk.2⟩))))) (Reps.one (show Kd.FK (Kd.slice 5 (Kd.int .u8)) _ _ l0_1 [.slice A0_1 l0_1.length c0_1] from (Kd.FK_slice_mk (Kd.V_reads' (Kd.V_mono (ok' := (fun k_ => ((P0_0_ k_ ∨ P0_1_ k_) ∨ w.heap.size ≤ k_) ∧ k_ ≠ gb348)) (HO0_1.out) (fun k_ hk => ⟨hk.1, hk.2⟩))).2.1 (Kd.V_F (Kd.V_mono (ok' := (fun k_ => ((P0_0_ k_ ∨ P0_1_ k_) ∨ w.heap.size ≤ k_) ∧ k_ ≠ gb348)) (HO0_1.out) (fun k_ hk => ⟨hk.1, hk.2⟩))))) (Reps.none _ _)))); intro v350 w7 ho8 hb hg_ hnew_; clear hg_ hnew_; (first | rw [← Ny349.out] at ho8 | (simp only [Int.reduceToNat] at ho8; rw [← Ny349.out] at ho8)); replace HO0_0 := Aside0.mk (Kd.V_elder' (by (with_reducible repeat (first | apply Kd.V_alloc | apply Kd.V_drewN | apply Kd.V_drew)); exact HO0_0.out) (Kd.N_base ho8) hb); replace HO0_1 := Aside0.mk (Kd.V_elder' (by (with_reducible repeat (first | apply Kd.V_alloc | apply Kd.V_drewN | apply Kd.V_drew)); exact HO0_1.out) (Kd.N_base ho8) hb); have HO351 := Aside0.mk (Kd.N_lower ho8 (below_size bb_)); replace BK348 := bl_ BK348 hb; replace HB := bw_ hb; clear hb ho8; obtain ⟨Ao9, co9, eo9⟩ := Kd.N_slice HO351.out; subst eo9))
    go_loopg [21] k (fun kq v21 w' => ∃ (x21_1 : Int), v21 = .int .i64 x21_1 ∧ Aside0 (impl_JournalFault.l0 kq y349 (y349.length : Int) x21_1 = some r) ∧ Aside0 (kq ≤ k) ∧ Aside0 (Kd.N (Kd.slice 5 (Kd.int .u8)) 22 w' w.heap.size (fun k_ => ((P0_0_ k_ ∨ P0_1_ k_) ∨ w.heap.size ≤ k_) ∧ k_ ≠ gb348) (.slice Ao9 y349.length co9) y349) ∧ Aside0 (Kd.V (Kd.int .u8) 5 w' w.heap.size (fun k_ => ((P0_0_ k_ ∨ P0_1_ k_) ∨ w.heap.size ≤ k_) ∧ some k_ ≠ ((.slice Ao9 y349.length co9) : Value).ownBlock ∧ k_ ≠ gb348) (.slice A0_0 l0_0.length c0_0) l0_0) ∧ Aside0 (Kd.V (Kd.int .u8) 5 w' w.heap.size (fun k_ => ((P0_0_ k_ ∨ P0_1_ k_) ∨ w.heap.size ≤ k_) ∧ some k_ ≠ ((.slice Ao9 y349.length co9) : Value).ownBlock ∧ k_ ≠ gb348) (.slice A0_1 l0_1.length c0_1) l0_1) ∧ Aside0 (w'.heap[gb348]? = some (.cells #[(.slice A0_0 l0_0.length c0_0), (.slice A0_1 l0_1.length c0_1)] 26 (0, 0))) ∧ Aside0 (Below w.heap.size w w'))
    case atStart => exact ⟨(0), sd_, H', ⟨Nat.le_refl _⟩, ⟨by (with_reducible repeat (first | apply Kd.N_alloc | apply Kd.N_drewN | apply Kd.N_drew)); exact HO351.out⟩, ⟨by (with_reducible repeat (first | apply Kd.V_alloc | apply Kd.V_drewN | apply Kd.V_drew)); exact Kd.V_mono HO0_0.out (fun _ hk => ⟨hk.1.1, ⟨hk.2, hk.1.2⟩⟩)⟩, ⟨by (with_reducible repeat (first | apply Kd.V_alloc | apply Kd.V_drewN | apply Kd.V_drew)); exact Kd.V_mono HO0_1.out (fun _ hk => ⟨hk.1.1, ⟨hk.2, hk.1.2⟩⟩)⟩, ⟨by (with_reducible repeat (first | refine blk_drewN ?_ _ | refine blk_drew ?_ | refine blk_alloc ?_ _)); exact BK348.out⟩, ⟨bb_⟩⟩
    case round =>
      clear H'; try clear c2
      try clear c2b0
      try clear p2
      try clear c5
      try clear p6
      try clear hcz4_0
      try clear hcz4_1
      try clear hcz6_0
      try clear hcz6_1
      try clear hfz4_0
      try clear hfz4_1
      try clear hfz6_0
      try clear hfz6_1
      obtain ⟨x21_1, rfl, HA, HK1, HO_19, HO_349000, HO_349001, BK348, HB⟩ := hrel
      cases gk with
      | zero => exact absurd HA.out (by simp [impl_JournalFault.l0])
      | succ k1 =>
        have H := HA.out; clear HA; simp only [impl_JournalFault.l0] at H
        by_cases c10 : x21_1 < (y349.length : Int)
        · rw [if_pos c10] at H
          have c10b0 : decide (x21_1 < (y349.length : Int)) = true := decide_eq_true c10; clear c10
          by_cases c11 : 0 ≤ x21_1
          · rw [if_pos c11] at H
            have c11b0 : decide (0 ≤ x21_1) = true := decide_eq_true c11; clear c11
            by_cases c12 : x21_1 < (y349.length : Int)
            · rw [if_pos c12] at H
              have c12b0 : decide (x21_1 < (y349.length : Int)) = true := decide_eq_true c12; clear c12; replace H := Option.bind_eq_some_iff.mp H; obtain ⟨⟨t353, t354⟩, A130, H⟩ := H; replace H : (if t354 < ((rd_L2 y349 x21_1).length : Int) then (some 5) else (impl_JournalFault.l0 k1 y349 (y349.length : Int) (wrap64 (x21_1 + 1)))) = some r := H; have A13 := Aside0.mk A130; clear A130
              by_cases c14 : t354 < ((rd_L2 y349 x21_1).length : Int)
              · rw [if_pos c14] at H
                have c14b0 : decide (t354 < ((rd_L2 y349 x21_1).length : Int)) = true := decide_eq_true c14; clear c14; obtain rfl := Option.some.inj H; have p352 : 0 ≤ (x21_1 : Int) := of_decide_eq_true as_; have q352 : x21_1 < (y349.length : Int) := of_decide_eq_true as_; obtain ⟨ad352, A352_0, c352_0, e352, hx352_0, hl352_0, hi352_0⟩ := at_L2 (Kd.N_reads' HO_19.out).2.2 x21_1 p352 q352
                cases e352
                obtain ⟨ce352, hce352, hMe352, hcc352⟩ := Kd.N_get HO_19.out [] x21_1 p352 (by first | exact q352 | exact of_decide_eq_true as_ | (have e_ := (Kd.N_reads' HO_19.out).1; omega)); obtain ⟨ua352_0, uc352_0, rfl, ul352_0, ge352_0⟩ := Kd.FK_slice_open hMe352; have hv352_0 := hcc352 0 _ rfl; rw [Nat.add_zero, show ((Kd.slice 5 (Kd.int .u8))).sz = 1 from rfl, Nat.mul_one] at hv352_0; replace hv352_0 := Option.some.inj (hv352_0.symm.trans hx352_0); injection hv352_0 with hva_ hvn_ hvc_; rw [hva_] at ge352_0; rw [hvc_] at ul352_0; have HL352_0 := Aside0.mk (show Kd.V (Kd.int .u8) 5 _ w.heap.size _ _ (rd_L2 y349 x21_1) from Kd.V_mk ul352_0 ge352_0); clear hva_ hvn_ hvc_ ge352_0 ul352_0; clear hcc352 hce352; have HR352_0 := Aside0.mk hi352_0; have HC352_0 := Aside0.mk hl352_0; clear hi352_0 hl352_0; replace p352 := eq_true p352; replace q352 := eq_true q352; go_wp2_with (first | ((with_reducible refine gate_callee (f := 81) rfl ?_); refine goe_ (some 27) Try.func81 #[.slice A352_0 (rd_L2 y349 x21_1).length c352_0] ?_; (with_reducible refine (impl_readEntries.calls k1 _ _ (rd_L2 y349 x21_1) t353 t354 _ ?side1 ?side2 A13.out).mono ?_); (case side1 => repeat (first | exact (by repeat (first | (with_reducible exact HR352_0.out) | (with_reducible refine Kd.C_alloc ?_ _) | (with_reducible refine Kd.C_drewN ?_ _) | (with_reducible refine Kd.C_drew ?_) | exact HR352_0.out)) | (with_reducible refine Kd.C_alloc ?_ _) | (with_reducible refine Kd.C_drewN ?_ _) | (with_reducible refine Kd.C_drew ?_))); (case side2 => exact HC352_0.out); rintro e w15 ⟨v355, rfl, ho0, hb⟩; refine ⟨_, rfl, ?_⟩; replace HO_349000 := Aside0.mk (Kd.V_elder' (by (with_reducible repeat (first | apply Kd.V_alloc | apply Kd.V_drewN | apply Kd.V_drew)); exact HO_349000.out) (by first | exact Kd.N_base ho0 | exact Kd.S_base ho0 | exact Kd.R_base ho0 | exact Kd.N_base (Kd.S_N ho0) | exact Kd.N_base (Kd.R_N ho0)) hb); replace HO_349001 := Aside0.mk (Kd.V_elder' (by (with_reducible repeat (first | apply Kd.V_alloc | apply Kd.V_drewN | apply Kd.V_drew)); exact HO_349001.out) (by first | exact Kd.N_base ho0 | exact Kd.S_base ho0 | exact Kd.R_base ho0 | exact Kd.N_base (Kd.S_N ho0) | exact Kd.N_base (Kd.R_N ho0)) hb); replace HL352_0 := Aside0.mk (Kd.V_elder' (by (with_reducible repeat (first | apply Kd.V_alloc | apply Kd.V_drewN | apply Kd.V_drew)); exact HL352_0.out) (by first | exact Kd.N_base ho0 | exact Kd.S_base ho0 | exact Kd.R_base ho0 | exact Kd.N_base (Kd.S_N ho0) | exact Kd.N_base (Kd.R_N ho0)) hb); have HO356 := Aside0.mk (Kd.N_lower (Kd.N_mono (ok' := fun k_ => ((P0_0_ k_ ∨ P0_1_ k_) ∨ w.heap.size ≤ k_) ∧ some k_ ≠ (.slice (some ad352) y349.length co9 : Value).ownBlock ∧ k_ ≠ gb348) (Kd.S_N (Kd.S_bound ho0)) (fun k_ hk_ => ⟨(.inr (Nat.le_trans (below_size bb_) hk_.2.1)), (Kd.fresh' (Kd.N_lt (by (with_reducible repeat (first | apply Kd.N_alloc | apply Kd.N_drewN | apply Kd.N_drew)); exact HO_19.out)) k_ hk_.2.1), (Kd.freshB (g := gb348) (o := .cells #[.slice A0_0 l0_0.length c0_0, .slice A0_1 l0_1.length c0_1] 26 (0, 0)) (kb_ BK348) k_ hk_.2.1)⟩)) (below_size bb_)); replace HO_19 := Aside0.mk (Kd.N_elder' (by (with_reducible repeat (first | apply Kd.N_alloc | apply Kd.N_drewN | apply Kd.N_drew)); exact HO_19.out) (by first | exact Kd.N_base ho0 | exact Kd.S_base ho0 | exact Kd.R_base ho0 | exact Kd.N_base (Kd.S_N ho0) | exact Kd.N_base (Kd.R_N ho0)) hb); replace BK348 := bl_ BK348 hb; replace HR352_0 := Aside0.mk (Kd.C_below (by repeat (first | (with_reducible exact HR352_0.out) | (with_reducible refine Kd.C_alloc ?_ _) | (with_reducible refine Kd.C_drewN ?_ _) | (with_reducible refine Kd.C_drew ?_) | exact HR352_0.out)) hb); replace HB := bw_ hb; (try clear hb); (try clear ho0)))
                go_ret
                exact ⟨er_, bb_⟩
              · rw [if_neg c14] at H
                have c14b0 : decide (t354 < ((rd_L2 y349 x21_1).length : Int)) = false := decide_eq_false c14; clear c14; have H' := Aside0.mk H; clear H; have p352 : 0 ≤ (x21_1 : Int) := of_decide_eq_true as_; have q352 : x21_1 < (y349.length : Int) := of_decide_eq_true as_; obtain ⟨ad352, A352_0, c352_0, e352, hx352_0, hl352_0, hi352_0⟩ := at_L2 (Kd.N_reads' HO_19.out).2.2 x21_1 p352 q352
                cases e352
                obtain ⟨ce352, hce352, hMe352, hcc352⟩ := Kd.N_get HO_19.out [] x21_1 p352 (by first | exact q352 | exact of_decide_eq_true as_ | (have e_ := (Kd.N_reads' HO_19.out).1; omega)); obtain ⟨ua352_0, uc352_0, rfl, ul352_0, ge352_0⟩ := Kd.FK_slice_open hMe352; have hv352_0 := hcc352 0 _ rfl; rw [Nat.add_zero, show ((Kd.slice 5 (Kd.int .u8))).sz = 1 from rfl, Nat.mul_one] at hv352_0; replace hv352_0 := Option.some.inj (hv352_0.symm.trans hx352_0); injection hv352_0 with hva_ hvn_ hvc_; rw [hva_] at ge352_0; rw [hvc_] at ul352_0; have HL352_0 := Aside0.mk (show Kd.V (Kd.int .u8) 5 _ w.heap.size _ _ (rd_L2 y349 x21_1) from Kd.V_mk ul352_0 ge352_0); clear hva_ hvn_ hvc_ ge352_0 ul352_0; clear hcc352 hce352; have HR352_0 := Aside0.mk hi352_0; have HC352_0 := Aside0.mk hl352_0; clear hi352_0 hl352_0; replace p352 := eq_true p352; replace q352 := eq_true q352; go_wp2_with (first | ((with_reducible refine gate_callee (f := 81) rfl ?_); refine goe_ (some 27) Try.func81 #[.slice A352_0 (rd_L2 y349 x21_1).length c352_0] ?_; (with_reducible refine (impl_readEntries.calls k1 _ _ (rd_L2 y349 x21_1) t353 t354 _ ?side1 ?side2 A13.out).mono ?_); (case side1 => repeat (first | exact (by repeat (first | (with_reducible exact HR352_0.out) | (with_reducible refine Kd.C_alloc ?_ _) | (with_reducible refine Kd.C_drewN ?_ _) | (with_reducible refine Kd.C_drew ?_) | exact HR352_0.out)) | (with_reducible refine Kd.C_alloc ?_ _) | (with_reducible refine Kd.C_drewN ?_ _) | (with_reducible refine Kd.C_drew ?_))); (case side2 => exact HC352_0.out); rintro e w16 ⟨v355, rfl, ho0, hb⟩; refine ⟨_, rfl, ?_⟩; replace HO_349000 := Aside0.mk (Kd.V_elder' (by (with_reducible repeat (first | apply Kd.V_alloc | apply Kd.V_drewN | apply Kd.V_drew)); exact HO_349000.out) (by first | exact Kd.N_base ho0 | exact Kd.S_base ho0 | exact Kd.R_base ho0 | exact Kd.N_base (Kd.S_N ho0) | exact Kd.N_base (Kd.R_N ho0)) hb); replace HO_349001 := Aside0.mk (Kd.V_elder' (by (with_reducible repeat (first | apply Kd.V_alloc | apply Kd.V_drewN | apply Kd.V_drew)); exact HO_349001.out) (by first | exact Kd.N_base ho0 | exact Kd.S_base ho0 | exact Kd.R_base ho0 | exact Kd.N_base (Kd.S_N ho0) | exact Kd.N_base (Kd.R_N ho0)) hb); replace HL352_0 := Aside0.mk (Kd.V_elder' (by (with_reducible repeat (first | apply Kd.V_alloc | apply Kd.V_drewN | apply Kd.V_drew)); exact HL352_0.out) (by first | exact Kd.N_base ho0 | exact Kd.S_base ho0 | exact Kd.R_base ho0 | exact Kd.N_base (Kd.S_N ho0) | exact Kd.N_base (Kd.R_N ho0)) hb); have HO356 := Aside0.mk (Kd.N_lower (Kd.N_mono (ok' := fun k_ => ((P0_0_ k_ ∨ P0_1_ k_) ∨ w.heap.size ≤ k_) ∧ some k_ ≠ (.slice (some ad352) y349.length co9 : Value).ownBlock ∧ k_ ≠ gb348) (Kd.S_N (Kd.S_bound ho0)) (fun k_ hk_ => ⟨(.inr (Nat.le_trans (below_size bb_) hk_.2.1)), (Kd.fresh' (Kd.N_lt (by (with_reducible repeat (first | apply Kd.N_alloc | apply Kd.N_drewN | apply Kd.N_drew)); exact HO_19.out)) k_ hk_.2.1), (Kd.freshB (g := gb348) (o := .cells #[.slice A0_0 l0_0.length c0_0, .slice A0_1 l0_1.length c0_1] 26 (0, 0)) (kb_ BK348) k_ hk_.2.1)⟩)) (below_size bb_)); replace HO_19 := Aside0.mk (Kd.N_elder' (by (with_reducible repeat (first | apply Kd.N_alloc | apply Kd.N_drewN | apply Kd.N_drew)); exact HO_19.out) (by first | exact Kd.N_base ho0 | exact Kd.S_base ho0 | exact Kd.R_base ho0 | exact Kd.N_base (Kd.S_N ho0) | exact Kd.N_base (Kd.R_N ho0)) hb); replace BK348 := bl_ BK348 hb; replace HR352_0 := Aside0.mk (Kd.C_below (by repeat (first | (with_reducible exact HR352_0.out) | (with_reducible refine Kd.C_alloc ?_ _) | (with_reducible refine Kd.C_drewN ?_ _) | (with_reducible refine Kd.C_drew ?_) | exact HR352_0.out)) hb); replace HB := bw_ hb; (try clear hb); (try clear ho0)))
                go_roundg k1
                case measure => have := HK1.out; omega
                case rel => exact ⟨(wrap64 (x21_1 + 1)), sd_, H', ⟨by have := HK1.out; omega⟩, ⟨by (with_reducible repeat (first | apply Kd.N_alloc | apply Kd.N_drewN | apply Kd.N_drew)); exact Kd.N_mono HO_19.out (fun _ hk => ⟨hk.1.1, hk.1.2⟩)⟩, ⟨by (with_reducible repeat (first | apply Kd.V_alloc | apply Kd.V_drewN | apply Kd.V_drew)); exact Kd.V_mono HO_349000.out (fun _ hk => ⟨hk.1.1, ⟨hk.1.2.1, hk.1.2.2⟩⟩)⟩, ⟨by (with_reducible repeat (first | apply Kd.V_alloc | apply Kd.V_drewN | apply Kd.V_drew)); exact Kd.V_mono HO_349001.out (fun _ hk => ⟨hk.1.1, ⟨hk.1.2.1, hk.1.2.2⟩⟩)⟩, ⟨by (with_reducible repeat (first | refine blk_drewN ?_ _ | refine blk_drew ?_ | refine blk_alloc ?_ _)); exact BK348.out⟩, ⟨bb_⟩⟩
            · rw [if_neg c12] at H
              exact absurd H (by simp)
          · rw [if_neg c11] at H
            exact absurd H (by simp)
        · rw [if_neg c10] at H
          have c10b0 : decide (x21_1 < (y349.length : Int)) = false := decide_eq_false c10; clear c10; obtain rfl := Option.some.inj H; go_wp2
          go_ret
          exact ⟨er_, bb_⟩
def impl_Entry_83.f (l0 : List (S61)) : Option (Int) := some (l0.length : Int)
set_option maxHeartbeats 8000000 in
set_option maxRecDepth 100000 in
theorem impl_Entry_83.calls (A0 : Option Addr) (c0 : Nat) (l0 : List (S61)) (r : Int) (w : World) (hr0 : Kd.C k61 w A0 l0.length l0) (hc0 : l0.length ≤ c0) (h : impl_Entry_83.f l0 = some r) :
    Calls Try.prog 83 #[.slice A0 l0.length c0] w fun e w' => e = .returned (.int .i64 r) ∧ Drawn0 w w' := by
  have HR0 := Aside0.mk hr0; have HC0 := Aside0.mk hc0; clear hr0 hc0; have H : (some (l0.length : Int)) = some r := h; clear h; obtain rfl := Option.some.inj H
  go_enter Try.func83, Try.ntmps83
  go_wp2
  go_ret
  exact ⟨sd_, by repeat (first | exact Drawn0.refl _ | apply Drawn0.step)⟩
end Go.Proofs.Ythmkjapmnlhflaa.PFnExactCutJournal
