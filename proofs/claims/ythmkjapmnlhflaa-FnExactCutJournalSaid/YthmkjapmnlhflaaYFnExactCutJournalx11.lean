/- The functions that the law FnExactCutJournal reaches: each as a plain Lean function, with the proof that the call does what it says. -/
import Derived.Test.YthmkjapmnlhflaaYFnExactCutJournalx0
import Derived.Test.YthmkjapmnlhflaaYFnExactCutJournalx8
import Derived.Test.YthmkjapmnlhflaaYFnExactCutJournalx10
namespace Go.Proofs.Ythmkjapmnlhflaa.PFnExactCutJournal
open Go.RowKit Go.Proofs.YthmkjapmnlhflaaW.PrintWords Go.Proofs.YthmkjapmnlhflaaW.PrintLast Go.Proofs.YthmkjapmnlhflaaW.PrintMore
attribute [local go_sem] max2_int min2_int max_two min_two max_three min_three max_four min_four
set_option linter.unusedVariables false
set_option linter.unusedSimpArgs false
def impl_Journal_told.f (k : Nat) (l0_0 : List Int) (l0_1 : List Int) : Option (Int × Int × List Int × List Int) := (impl_readEntries.f k l0_0).bind fun bt359 => ((impl_readEntries.f k l0_1).bind fun bt363 => ((impl_Entry_83.f bt359.1).bind fun t367 => ((impl_Entry_83.f bt363.1).bind fun t368 => ((slices_Clone_byte_byte.f l0_0).bind fun t369 => ((slices_Clone_byte_byte.f l0_1).bind fun t372 => (some (0, wrap64 (t367 + t368), t369, t372)))))))
theorem impl_Journal_told.mono : ∀ a0 a1 k, LeO (impl_Journal_told.f k a0 a1) (impl_Journal_told.f (k + 1) a0 a1) := by
  intro a0 a1 k; unfold impl_Journal_told.f
  repeat' first
      | (with_reducible exact impl_readEntries.mono _ _)
      | (with_reducible exact LeO.refl _)
      | (with_reducible exact LeO.none _)
      | (with_reducible refine LeO.ite ?_ ?_)
      | (with_reducible refine LeO.bind ?_ (fun _ => ?_))
      | exact impl_readEntries.mono _ _
      | exact LeO.none _
      | refine LeO.ite ?_ ?_
      | refine LeO.bind ?_ (fun _ => ?_)
def impl_Journal_told.T3 : Bool × List (List Nat × List Nat) := (true, [([], []), ([0], [0]), ([], []), ([2, 1], [2]), ([1, 3], [1, 3]), ([], []), ([5], [5]), ([6, 3], [6]), ([], []), ([8], [8]), ([9, 7], [9]), ([7, 10], [7, 10]), ([4, 11], [4, 11]), ([12, 10, 0, 1, 2, 3, 4, 5, 6, 7, 8, 9, 10, 11, 12], [12])])
def impl_Journal_told.B3 : List Nat := [0, 1, 0, 7, 15, 0, 32, 111, 0, 256, 1007, 2031, 4095, 8191]
theorem impl_Journal_told.tab3 : rtab .any (opsOf Try.f73 3) = impl_Journal_told.T3 := by kernel_rfl
theorem impl_Journal_told.bits3 : waitsOk impl_Journal_told.T3.2 impl_Journal_told.B3 = true := by kernel_rfl
set_option maxHeartbeats 8000000 in
set_option maxRecDepth 100000 in
theorem impl_Journal_told.calls (k : Nat) (A0_0 : Option Addr) (c0_0 : Nat) (l0_0 : List Int) (A0_1 : Option Addr) (c0_1 : Nat) (l0_1 : List Int) (r1 : Int) (r2 : Int) (r3 : List Int) (r4 : List Int) (w : World) (hr0_0 : Kd.C (Kd.int .u8) w A0_0 l0_0.length l0_0) (hc0_0 : l0_0.length ≤ c0_0) (hr0_1 : Kd.C (Kd.int .u8) w A0_1 l0_1.length l0_1) (hc0_1 : l0_1.length ≤ c0_1) (h : impl_Journal_told.f k l0_0 l0_1 = some (r1, r2, r3, r4)) :
    Calls Try.prog 73 #[.agg #[.slice A0_0 l0_0.length c0_0, .slice A0_1 l0_1.length c0_1]] w fun e w' => ∃ v2_ v3_ : Value, e = .returned (.agg #[.int .i64 r1, .int .i64 r2, v2_, v3_]) ∧ Kd.R (Kd.int .u8) 5 w' w.heap.size (fun k_ => some k_ ≠ (v3_ : Value).ownBlock) v2_ r3 ∧ Kd.R (Kd.int .u8) 5 w' w.heap.size (fun k_ => some k_ ≠ (v2_ : Value).ownBlock) v3_ r4 ∧ Below w.heap.size w w' := by
  have hu26 := Try.underlying26; have hu28 := Try.underlying28; have HR0_0 := Aside0.mk hr0_0; have HC0_0 := Aside0.mk hc0_0; clear hr0_0 hc0_0; have HR0_1 := Aside0.mk hr0_1; have HC0_1 := Aside0.mk hc0_1; clear hr0_1 hc0_1; have HB := Aside0.mk (Below.refl w.heap.size w); have H : ((impl_readEntries.f k l0_0).bind fun bt359 => ((impl_readEntries.f k l0_1).bind fun bt363 => ((impl_Entry_83.f bt359.1).bind fun t367 => ((impl_Entry_83.f bt363.1).bind fun t368 => ((slices_Clone_byte_byte.f l0_0).bind fun t369 => ((slices_Clone_byte_byte.f l0_1).bind fun t372 => (some (0, wrap64 (t367 + t368), t369, t372)))))))) = some (r1, r2, r3, r4) := h; clear h; replace H := Option.bind_eq_some_iff.mp H; obtain ⟨⟨t359, t360⟩, A20, H⟩ := H; replace H : ((impl_readEntries.f k l0_1).bind fun bt363 => ((impl_Entry_83.f t359).bind fun t367 => ((impl_Entry_83.f bt363.1).bind fun t368 => ((slices_Clone_byte_byte.f l0_0).bind fun t369 => ((slices_Clone_byte_byte.f l0_1).bind fun t372 => (some (0, wrap64 (t367 + t368), t369, t372))))))) = some (r1, r2, r3, r4) := H; have A2 := Aside0.mk A20; clear A20; replace H := Option.bind_eq_some_iff.mp H; obtain ⟨⟨t363, t364⟩, A30, H⟩ := H; replace H : ((impl_Entry_83.f t359).bind fun t367 => ((impl_Entry_83.f t363).bind fun t368 => ((slices_Clone_byte_byte.f l0_0).bind fun t369 => ((slices_Clone_byte_byte.f l0_1).bind fun t372 => (some (0, wrap64 (t367 + t368), t369, t372)))))) = some (r1, r2, r3, r4) := H; have A3 := Aside0.mk A30; clear A30; replace H := Option.bind_eq_some_iff.mp H; obtain ⟨t367, A40, H⟩ := H; replace H : ((impl_Entry_83.f t363).bind fun t368 => ((slices_Clone_byte_byte.f l0_0).bind fun t369 => ((slices_Clone_byte_byte.f l0_1).bind fun t372 => (some (0, wrap64 (t367 + t368), t369, t372))))) = some (r1, r2, r3, r4) := H; have A4 := Aside0.mk A40; clear A40; replace H := Option.bind_eq_some_iff.mp H; obtain ⟨t368, A50, H⟩ := H; replace H : ((slices_Clone_byte_byte.f l0_0).bind fun t369 => ((slices_Clone_byte_byte.f l0_1).bind fun t372 => (some (0, wrap64 (t367 + t368), t369, t372)))) = some (r1, r2, r3, r4) := H; have A5 := Aside0.mk A50; clear A50; replace H := Option.bind_eq_some_iff.mp H; obtain ⟨t369, A60, H⟩ := H; replace H : ((slices_Clone_byte_byte.f l0_1).bind fun t372 => (some (0, wrap64 (t367 + t368), t369, t372))) = some (r1, r2, r3, r4) := H; have A6 := Aside0.mk A60; clear A60; replace H := Option.bind_eq_some_iff.mp H; obtain ⟨t372, A70, H⟩ := H; replace H : (some (0, wrap64 (t367 + t368), t369, t372)) = some (r1, r2, r3, r4) := H; have A7 := Aside0.mk A70; clear A70; simp only [Option.some.injEq, Prod.mk.injEq] at H; obtain ⟨rfl, rfl, rfl, rfl⟩ := H
  go_enter Try.func73, Try.ntmps73
  try go_wp2_with (first | ((with_reducible refine gate_dst (N := 1) rfl ?_); refine box_e_ 1 #[.slice A0_0 l0_0.length c0_0, .slice A0_1 l0_1.length c0_1] 26 ?_; intro gb357 hg w8 hbox hb; have BK357 := Aside0.mk (hbox); have GW357 := (bs_ hg : Aside0 (w.heap.size ≤ _)); have GE357 := (bs_ hg : Aside0 (w.heap.size ≤ _)); replace HB := bw_ hb; clear hb hbox hg) | ((with_reducible refine gate_dst (N := 2) rfl ?_); refine box_e_ 2 #[.int .i64 0, .int .i64 0, .slice none 0 0, .slice none 0 0] 28 ?_; intro gb358 hg w9 hbox hb; have BK358 := Aside0.mk (hbox); have GW358 := (bs_ hg : Aside0 (w.heap.size ≤ _)); have GE358 := (bs_ hg : Aside0 (w.heap.size ≤ _)); replace HB := bw_ hb; have NB357_358 := (nl_ hg BK357 : Aside0 (gb357 ≠ gb358)); have NB358_357 := (nr_ hg BK357 : Aside0 (gb358 ≠ gb357)); replace BK357 := bl_ BK357 hb; clear hb hbox hg; have hnb10 := NB357_358.out; have hnc10 := NB358_357.out; obtain ⟨hcz11_0, hcz11_1, hfz11_0, hfz11_1⟩ := cf2_ BK357) | ((with_reducible refine gate_callee (f := 81) rfl ?_); refine goe_ (some 10) Try.func81 #[.slice A0_0 l0_0.length c0_0] ?_; (with_reducible refine (impl_readEntries.calls k _ _ l0_0 t359 t360 _ ?side1 ?side2 A2.out).mono ?_); (case side1 => exact kc_ (Kd.C_below HR0_0.out HB.out)); (case side2 => exact HC0_0.out); rintro e w12 ⟨v361, rfl, ho0, hb⟩; refine ⟨_, rfl, ?_⟩; have HO362 := Aside0.mk (Kd.S_lower ho0 (below_size bb_)); replace BK357 := bl_ BK357 hb; replace BK358 := bl_ BK358 hb; replace HB := bw_ hb; (try clear hb); (try clear ho0); obtain ⟨hcz13_0, hcz13_1, hfz13_0, hfz13_1⟩ := cf2_ BK357) | ((with_reducible refine gate_callee (f := 81) rfl ?_); refine goe_ (some 16) Try.func81 #[.slice A0_1 l0_1.length c0_1] ?_; (with_reducible refine (impl_readEntries.calls k _ _ l0_1 t363 t364 _ ?side1 ?side2 A3.out).mono ?_); (case side1 => exact kc_ (Kd.C_below HR0_1.out HB.out)); (case side2 => exact HC0_1.out); rintro e w14 ⟨v365, rfl, ho0, hb⟩; refine ⟨_, rfl, ?_⟩; have HO366 := Aside0.mk (Kd.S_lower (Kd.S_new' ho0 (Kd.S_lt (by (with_reducible repeat (first | apply Kd.S_alloc | apply Kd.S_drewN | apply Kd.S_drew)); exact HO362.out))) (below_size bb_)); replace HO362 := Aside0.mk (Kd.S_elder' (by (with_reducible repeat (first | apply Kd.S_alloc | apply Kd.S_drewN | apply Kd.S_drew)); exact HO362.out) (Kd.S_base ho0) hb); replace BK357 := bl_ BK357 hb; replace BK358 := bl_ BK358 hb; replace HB := bw_ hb; (try clear hb); (try clear ho0)))
  have n0_ := Aside0.mk (Kd.S_drew HO362.out); have n1_ := Aside0.mk (Kd.S_drew HO366.out); have n2_ := Aside0.mk (blk_drew BK357.out); have n3_ := Aside0.mk (blk_drew BK358.out); have n4_ := Aside0.mk (below_drew1 HB.out); clear HO362; clear HO366; clear BK357; clear BK358; clear HB; have HO362 := n0_; have HO366 := n1_; have BK357 := n2_; have BK358 := n3_; have HB := n4_; clear n0_ n1_ n2_ n3_ n4_; obtain ⟨Ao16, co16, eo16⟩ := Kd.S_slice HO362.out; (first | subst eo16 | (injection eo16 with f1_ f2_ f3_; have f4_ := f1_.symm; have f5_ := f3_.symm; clear f1_ f2_ f3_; subst f4_; subst f5_)); refine start_ (n := 14) (S := fun w' => w'.cell? ⟨gb357, 0, none⟩ = some (.slice A0_0 l0_0.length c0_0) ∧ w'.cell? ⟨gb357, 1, none⟩ = some (.slice A0_1 l0_1.length c0_1)) (ds := []) #[false, false, false, false, false, false, false, false, false, false, false, false, false, false] (by kernel_rfl) rfl rfl ⟨bc_ BK357 0, bc_ BK357 1⟩ (fun hHeld => ?_); refine with_tabW impl_Journal_told.tab3 impl_Journal_told.bits3 (fun HT_ HW_ => ?_); generalize w14.drew = w15 at HO362 HO366 BK357 BK358 HB hHeld ⊢; refine pv_ 0 (some 19) (bz_ 14 1) (any_of HT_.out (by kernel_rfl)) ?_; refine pv_ 2 (some 21) (bz_ 14 5) (any_of HT_.out (by kernel_rfl)) ?_; refine pv_ 5 (some 24) (bz_ 14 37) (any_of HT_.out (by kernel_rfl)) ?_; refine pv_ 8 (some 27) (bz_ 14 293) (any_of HT_.out (by kernel_rfl)) ?_; refine tk_ 6 (some 25) (bz_ 14 357) (take_ofW HT_.out HW_.out (by kernel_rfl)) hHeld ?_; refine tk_ 9 (some 28) #[true, false, true, false, false, true, true, false, true, true, false, false, false, false] (take_ofW HT_.out HW_.out (by kernel_rfl)) hHeld ?_; refine one_ (i := 1) (N := some 20) #[true, true, true, false, false, true, true, false, true, true, false, false, false, false] rfl rfl (one_of HT_.out (by kernel_rfl)) (by decide) (fun K hK => ?_); refine gs_ Try.func83 #[.slice Ao16 t359.length co16] ?_; with_reducible refine (impl_Entry_83.calls _ _ t359 t367 _ ?side1 ?side2 A4.out).mono ?_
  (case side1 => exact kc_ ((Kd.S_reads' HO362.out).2.2)); (case side2 => exact (Kd.S_reads' HO362.out).2.1); rintro e w' ⟨rfl, ⟨nd, rfl⟩⟩; refine ⟨_, rfl, ?_⟩; obtain ⟨Ao17, co17, eo17⟩ := Kd.S_slice HO366.out; (first | subst eo17 | (injection eo17 with f1_ f2_ f3_; have f4_ := f1_.symm; have f5_ := f3_.symm; clear f1_ f2_ f3_; subst f4_; subst f5_)); refine hK.out _ _ ⟨bc_ BK357 0, bc_ BK357 1⟩ (fun hHeld => ?_); clear hK K; refine norm_ pq_ ?_; refine one_ (i := 3) (N := some 22) #[true, true, true, true, false, true, true, false, true, true, false, false, false, false] rfl rfl (one_of HT_.out (by kernel_rfl)) (by decide) (fun K hK => ?_); refine gs_ Try.func83 #[.slice Ao17 t363.length co17] ?_; with_reducible refine (impl_Entry_83.calls _ _ t363 t368 _ ?side1 ?side2 A5.out).mono ?_
  (case side1 => exact kc_ ((Kd.S_reads' HO366.out).2.2)); (case side2 => exact (Kd.S_reads' HO366.out).2.1); rintro e w' ⟨rfl, ⟨nd, rfl⟩⟩; refine ⟨_, rfl, ?_⟩; refine hK.out _ _ ⟨bc_ BK357 0, bc_ BK357 1⟩ (fun hHeld => ?_); clear hK K; refine norm_ pq_ ?_; refine pv_ 4 (some 23) #[true, true, true, true, true, true, true, false, true, true, false, false, false, false] (any_of HT_.out (by kernel_rfl)) ?_; refine one_ (i := 7) (N := some 26) #[true, true, true, true, true, true, true, true, true, true, false, false, false, false] rfl rfl (one_of HT_.out (by kernel_rfl)) (by decide) (fun K hK => ?_); refine gs_ Try.func132 #[.slice A0_0 l0_0.length c0_0] ?_; with_reducible refine (slices_Clone_byte_byte.calls _ _ l0_0 t369 _ ?side1 ?side2 A6.out).mono ?_
  (case side1 => exact kc_ (Kd.C_below HR0_0.out bb_)); (case side2 => exact HC0_0.out); rintro e w18 ⟨v370, rfl, ho0, hb⟩; refine ⟨_, rfl, ?_⟩; replace HO362 := Aside0.mk (Kd.S_elder' (by (with_reducible repeat (first | apply Kd.S_alloc | apply Kd.S_drewN | apply Kd.S_drew)); exact HO362.out) (Kd.R_base ho0) hb); replace HO366 := Aside0.mk (Kd.S_elder' (by (with_reducible repeat (first | apply Kd.S_alloc | apply Kd.S_drewN | apply Kd.S_drew)); exact HO366.out) (Kd.R_base ho0) hb); have HO371 := Aside0.mk (Kd.R_lower ho0 (below_size bb_)); replace BK357 := bl_ BK357 hb; replace BK358 := bl_ BK358 hb; replace HB := bw_ hb; (try clear hb); (try clear ho0); refine hK.out _ _ ⟨bc_ BK357 0, bc_ BK357 1⟩ (fun hHeld => ?_); clear hK K; refine norm_ pq_ ?_; refine one_ (i := 10) (N := some 29) #[true, true, true, true, true, true, true, true, true, true, true, false, false, false] rfl rfl (one_of HT_.out (by kernel_rfl)) (by decide) (fun K hK => ?_); refine gs_ Try.func132 #[.slice A0_1 l0_1.length c0_1] ?_; with_reducible refine (slices_Clone_byte_byte.calls _ _ l0_1 t372 _ ?side1 ?side2 A7.out).mono ?_
  (case side1 => exact kc_ (Kd.C_below HR0_1.out HB.out)); (case side2 => exact HC0_1.out); rintro e w19 ⟨v373, rfl, ho0, hb⟩; refine ⟨_, rfl, ?_⟩; replace HO362 := Aside0.mk (Kd.S_elder' (by (with_reducible repeat (first | apply Kd.S_alloc | apply Kd.S_drewN | apply Kd.S_drew)); exact HO362.out) (Kd.R_base ho0) hb); replace HO366 := Aside0.mk (Kd.S_elder' (by (with_reducible repeat (first | apply Kd.S_alloc | apply Kd.S_drewN | apply Kd.S_drew)); exact HO366.out) (Kd.R_base ho0) hb); have HO374 := Aside0.mk (Kd.R_lower (Kd.R_new' ho0 (rl_ HO371)) (below_size bb_)); replace HO371 := re_ HO371 ho0 hb; replace BK357 := bl_ BK357 hb; replace BK358 := bl_ BK358 hb; replace HB := bw_ hb; (try clear hb); (try clear ho0); obtain ⟨Ao20, co20, eo20⟩ := Kd.R_slice HO374.out; (first | subst eo20 | (injection eo20 with f1_ f2_ f3_; have f4_ := f1_.symm; have f5_ := f3_.symm; clear f1_ f2_ f3_; subst f4_; subst f5_)); obtain ⟨Ao21, co21, eo21⟩ := Kd.R_slice HO371.out; (first | subst eo21 | (injection eo21 with f1_ f2_ f3_; have f4_ := f1_.symm; have f5_ := f3_.symm; clear f1_ f2_ f3_; subst f4_; subst f5_)); refine hK.out _ _ ⟨bc_ BK357 0, bc_ BK357 1⟩ (fun hHeld => ?_); clear hK K; refine norm_ pq_ ?_; refine pv_ 11 (some 30) (bz_ 14 4095) (any_of HT_.out (by kernel_rfl)) ?_; refine pv_ 12 (some 31) #[true, true, true, true, true, true, true, true, true, true, true, true, true, false] (any_of HT_.out (by kernel_rfl)) ?_; refine one_ (i := 13) (N := none) #[true, true, true, true, true, true, true, true, true, true, true, true, true, true] rfl rfl (one_of HT_.out (by kernel_rfl)) (by decide) (fun K hK => ?_); have hs22 : w19.cell? ⟨gb358, 0, none⟩ = some (.int .i64 0) := bc_ BK358 0; have hfs22 := blk_frozen BK358.out 0; have hns22_0 := NB357_358.out; have hms22_0 := NB358_357.out; have hs23 : w19.cell? ⟨gb358, 1, none⟩ = some (.int .i64 0) := bc_ BK358 1; have hfs23 := blk_frozen BK358.out 1; have hns23_0 := NB357_358.out; have hms23_0 := NB358_357.out; have hs24 : w19.cell? ⟨gb358, 2, none⟩ = some (.slice none 0 0) := bc_ BK358 2; have hfs24 := blk_frozen BK358.out 2; have hns24_0 := NB357_358.out; have hms24_0 := NB358_357.out; have hs25 : w19.cell? ⟨gb358, 3, none⟩ = some (.slice none 0 0) := bc_ BK358 3; have hfs25 := blk_frozen BK358.out 3; have hns25_0 := NB357_358.out; have hms25_0 := NB358_357.out; refine skip_ (w1 := ?_) ?_ ?_ ?_ ?_; rotate_left
  · first | kernel_rfl | rfl
  · rfl
  · go_simp
    rfl
  refine hK.out _ _ ⟨((cell_far (p := ⟨gb358, _, none⟩) NB357_358.out _).trans (((cell_far (p := ⟨gb358, _, none⟩) NB357_358.out _).trans (((cell_far (p := ⟨gb358, _, none⟩) NB357_358.out _).trans (((cell_far (p := ⟨gb358, _, none⟩) NB357_358.out _).trans (hHeld.1)))))))), ((cell_far (p := ⟨gb358, _, none⟩) NB357_358.out _).trans (((cell_far (p := ⟨gb358, _, none⟩) NB357_358.out _).trans (((cell_far (p := ⟨gb358, _, none⟩) NB357_358.out _).trans (((cell_far (p := ⟨gb358, _, none⟩) NB357_358.out _).trans (hHeld.2))))))))⟩ (fun hHeld => ?_); clear hK K; refine done_ (done_of HT_.out (by kernel_rfl)) ?_; try go_wp2
  refine bodyPost_ret (results_cell_row rfl _ _ gb358 28 #[.int .i64 0, .int .i64 (wrap64 (t367 + t368)), .slice Ao21 t369.length co21, .slice Ao20 t372.length co20] (0, 0) _ rfl (by (with_reducible repeat (first | refine blk_drewN ?_ _ | refine blk_drew ?_ | refine blk_alloc ?_ _)); refine blk_put (cs := #[.int .i64 0, .int .i64 (wrap64 (t367 + t368)), .slice Ao21 t369.length co21, .slice none 0 0]) ?_ 3 _ rfl; (with_reducible repeat (first | refine blk_drewN ?_ _ | refine blk_drew ?_ | refine blk_alloc ?_ _)); refine blk_put (cs := #[.int .i64 0, .int .i64 (wrap64 (t367 + t368)), .slice none 0 0, .slice none 0 0]) ?_ 2 _ rfl; (with_reducible repeat (first | refine blk_drewN ?_ _ | refine blk_drew ?_ | refine blk_alloc ?_ _)); refine blk_put (cs := #[.int .i64 0, .int .i64 0, .slice none 0 0, .slice none 0 0]) ?_ 1 _ rfl; (with_reducible repeat (first | refine blk_drewN ?_ _ | refine blk_drew ?_ | refine blk_alloc ?_ _)); refine blk_put (cs := #[.int .i64 0, .int .i64 0, .slice none 0 0, .slice none 0 0]) ?_ 0 _ rfl; (with_reducible repeat (first | refine blk_drewN ?_ _ | refine blk_drew ?_ | refine blk_alloc ?_ _)); exact BK358.out) Try.underlying28 rfl (by kernel_rfl)) rfl ?_; exact ⟨_, _, er_, by (with_reducible repeat (first | apply Kd.R_alloc | apply Kd.R_drewN | apply Kd.R_drew)); exact Kd.R_mono (Kd.R_far (p := ⟨gb358, 3, none⟩) (Kd.R_far (p := ⟨gb358, 2, none⟩) (Kd.R_far (p := ⟨gb358, 1, none⟩) (Kd.R_far (p := ⟨gb358, 0, none⟩) (Kd.R_types HO371.out BK358.out (by decide)) (fun _ hk => hk.2) (.int .i64 0)) (fun _ hk => hk.2) (.int .i64 (wrap64 (t367 + t368)))) (fun _ hk => hk.2) (.slice Ao21 t369.length co21)) (fun _ hk => hk.2) (.slice Ao20 t372.length co20)) (fun _ hk => hk.1.2), by (with_reducible repeat (first | apply Kd.R_alloc | apply Kd.R_drewN | apply Kd.R_drew)); exact Kd.R_mono (Kd.R_far (p := ⟨gb358, 3, none⟩) (Kd.R_far (p := ⟨gb358, 2, none⟩) (Kd.R_far (p := ⟨gb358, 1, none⟩) (Kd.R_far (p := ⟨gb358, 0, none⟩) (Kd.R_types HO374.out BK358.out (by decide)) (fun _ hk => hk.2) (.int .i64 0)) (fun _ hk => hk.2) (.int .i64 (wrap64 (t367 + t368)))) (fun _ hk => hk.2) (.slice Ao21 t369.length co21)) (fun _ hk => hk.2) (.slice Ao20 t372.length co20)) (fun _ hk => hk.1.2), bb_⟩
set_option maxHeartbeats 8000000 in
set_option maxRecDepth 100000 in
theorem impl_Entry_84_grow.nil_ (n : Int) (xs : List (S61)) (hx : xs = []) (w : World) (h0 : 0 ≤ n) (h1 : n ≤ 1099511627776) :
    Calls Try.prog 136 #[.slice none 0 0, .int .i64 n] w fun e w' => ∃ v0_ : Value, e = .returned (v0_) ∧ Kd.N k61 61 w' w.heap.size (fun k_ => w.heap.size ≤ k_) v0_ xs ∧ Below w.heap.size w w' := by
  subst hx; have HB := Aside0.mk (Below.refl w.heap.size w); have t0 : decide (n < 0) = false := decide_eq_false (by omega)
  by_cases hn : 0 < n
  · have t1 : decide (0 < n) = true := decide_eq_true hn
    have HN := Aside0.mk hn; have H0 := Aside0.mk h0; have H1 := Aside0.mk h1; clear hn
    go_enter Try.func136, Try.ntmps136
    go_wp2_with (first | ((with_reducible refine gate_dst (N := 22) rfl ?_); at_builtin; refine Kd.N_append_zeros k61 (w0 := w) w.heap.size rfl (.tmp 20) (.tmp 21) 71 3 61 (.agg #[(.int .i64 0), (.int .i64 0), (.int .i64 0), (.slice none 0 0)]) 48 rfl Try.underlying71 Try.underlying3 info61 rfl (by decide) (by omega) (.slice none 0 0) [] z61 n (fun k_ => w.heap.size ≤ k_) rfl rfl (k61_mkF _ _ z61 (Nat.le_refl _) (Kd.F_nil _ _ _)) ?aF ?aO H0.out ?aB ?aS ?aL ?_; (case aF => exact fun k_ hk_ => Nat.le_trans HB.out.size hk_); (case aO => exact Kd.N_nil _ _ _ _ _); (case aB => exact HB.out); (case aS => exact Nat.le_refl _); (case aL => have h_ := H1.out; have h2_ := H0.out; simp only [List.length_nil]; omega); intro v1 w1 ho hb hg_ hat_; clear hg_ hat_; have HO := Aside0.mk ho; replace HB := Aside0.mk hb; clear ho hb; obtain ⟨A1, c1, e1⟩ := Kd.N_slice HO.out; subst e1))
    go_ret
    exact ⟨_, rfl, (by have h_ := Kd.N_take (m := 0) HO.out (Nat.zero_le _); exact h_), HB.out⟩
  · have t1 : decide (0 < n) = false := decide_eq_false hn
    clear hn
    go_enter Try.func136, Try.ntmps136
    go_wp2
    go_ret
    exact ⟨_, rfl, Kd.N_nil _ _ _ _ _, HB.out⟩
mutual
def impl_Entry_84.l0 : Nat → List (List (S61)) → Int → List (List (S61)) → Int → Int → Option ((List (S61)))
  | 0, _, _, _, _, _ => none
  | k + 1, x0, x3, x9, x10, x11 => if x11 < x10 then (if 0 ≤ x11 then (if x11 < (x9.length : Int) then (if (wrap64 (x3 + ((rd_L5 x9 x11).length : Int))) < 0 then (none) else (impl_Entry_84.l0 k x0 (wrap64 (x3 + ((rd_L5 x9 x11).length : Int))) x9 x10 (wrap64 (x11 + 1)))) else (none)) else (none)) else (if x3 < 0 then (none) else (if x3 > 1099511627776 then (none) else (if 0 ≤ 5864062014805 then (impl_Entry_84.l1 k (List.replicate 0 z61) x0 (x0.length : Int) 0) else (none))))
def impl_Entry_84.l1 : Nat → List (S61) → List (List (S61)) → Int → Int → Option ((List (S61)))
  | 0, _, _, _, _ => none
  | k + 1, x6, x25, x26, x27 => if x27 < x26 then (if 0 ≤ x27 then (if x27 < (x25.length : Int) then (if x6.length + (rd_L5 x25 x27).length < 2932031007402 then (impl_Entry_84.l1 k (x6 ++ (rd_L5 x25 x27)) x25 x26 (wrap64 (x27 + 1))) else (none)) else (none)) else (none)) else (some x6)
end
def impl_Entry_84.f (k : Nat) (l0 : List (List (S61))) : Option ((List (S61))) := impl_Entry_84.l0 k l0 0 l0 (l0.length : Int) 0
theorem impl_Entry_84.mono_l : ∀ k, (∀ y0 y1 y2 y3 y4, LeO (impl_Entry_84.l0 k y0 y1 y2 y3 y4) (impl_Entry_84.l0 (k + 1) y0 y1 y2 y3 y4)) ∧ (∀ y0 y1 y2 y3, LeO (impl_Entry_84.l1 k y0 y1 y2 y3) (impl_Entry_84.l1 (k + 1) y0 y1 y2 y3))
  | 0 => ⟨fun _ _ _ _ _ r h => by simp [impl_Entry_84.l0] at h, fun _ _ _ _ r h => by simp [impl_Entry_84.l1] at h⟩
  | k + 1 => by
    obtain ⟨ih0, ih1⟩ := impl_Entry_84.mono_l k; refine ⟨?_, ?_⟩
    · intro y0 y1 y2 y3 y4
      unfold impl_Entry_84.l0
      repeat' first
      | (with_reducible exact ih0 _ _ _ _ _)
      | (with_reducible exact ih1 _ _ _ _)
      | (with_reducible exact LeO.refl _)
      | (with_reducible exact LeO.none _)
      | (with_reducible refine LeO.ite ?_ ?_)
      | (with_reducible refine LeO.bind ?_ (fun _ => ?_))
      | exact ih0 _ _ _ _ _
      | exact ih1 _ _ _ _
      | exact LeO.none _
      | refine LeO.ite ?_ ?_
      | refine LeO.bind ?_ (fun _ => ?_)
    · intro y0 y1 y2 y3
      unfold impl_Entry_84.l1
      repeat' first
      | (with_reducible exact ih0 _ _ _ _ _)
      | (with_reducible exact ih1 _ _ _ _)
      | (with_reducible exact LeO.refl _)
      | (with_reducible exact LeO.none _)
      | (with_reducible refine LeO.ite ?_ ?_)
      | (with_reducible refine LeO.bind ?_ (fun _ => ?_))
      | exact ih0 _ _ _ _ _
      | exact ih1 _ _ _ _
      | exact LeO.none _
      | refine LeO.ite ?_ ?_
      | refine LeO.bind ?_ (fun _ => ?_)
theorem impl_Entry_84.mono : ∀ a0 k, LeO (impl_Entry_84.f k a0) (impl_Entry_84.f (k + 1) a0) := by
  intro a0 k; obtain ⟨ih0, ih1⟩ := impl_Entry_84.mono_l k; unfold impl_Entry_84.f
  repeat' first
      | (with_reducible exact ih0 _ _ _ _ _)
      | (with_reducible exact ih1 _ _ _ _)
      | (with_reducible exact LeO.refl _)
      | (with_reducible exact LeO.none _)
      | (with_reducible refine LeO.ite ?_ ?_)
      | (with_reducible refine LeO.bind ?_ (fun _ => ?_))
      | exact ih0 _ _ _ _ _
      | exact ih1 _ _ _ _
      | exact LeO.none _
      | refine LeO.ite ?_ ?_
      | refine LeO.bind ?_ (fun _ => ?_)
set_option maxHeartbeats 8000000 in
set_option maxRecDepth 100000 in
theorem impl_Entry_84.calls (k : Nat) (P0_ : Nat → Prop) (A0 : Option Addr) (c0 : Nat) (l0 : List (List (S61))) (r : List (S61)) (w : World) (hs0 : Kd.V (Kd.slice 61 k61) 71 w w.heap.size (fun k_ => P0_ k_) (.slice A0 l0.length c0) l0) (h : impl_Entry_84.f k l0 = some r) :
    Calls Try.prog 84 #[.slice A0 l0.length c0] w fun e w' => ∃ v0_ : Value, e = .returned (v0_) ∧ Kd.N k61 61 w' w.heap.size (fun k_ => (P0_ k_ ∨ w.heap.size ≤ k_)) v0_ r ∧ Below w.heap.size w w' := by
  have HO0 := Aside0.mk (show Kd.V (Kd.slice 61 k61) 71 w w.heap.size (fun k_ => (P0_ k_ ∨ w.heap.size ≤ k_)) (.slice A0 l0.length c0) l0 from Kd.V_mono hs0 (fun k_ hk => .inl hk)); have HB := Aside0.mk (Below.refl w.heap.size w); have H : (impl_Entry_84.l0 k l0 0 l0 (l0.length : Int) 0) = some r := h; clear h; have H' := Aside0.mk H; clear H
  go_enter Try.func84, Try.ntmps84
  go_wp2
  go_loopg [3, 11] k (fun kq v3 v11 w' => ∃ (x3_1 : Int) (x11_1 : Int), v3 = .int .i64 x3_1 ∧ v11 = .int .i64 x11_1 ∧ Aside0 (impl_Entry_84.l0 kq l0 x3_1 l0 (l0.length : Int) x11_1 = some r) ∧ Aside0 (kq ≤ k) ∧ Aside0 (Kd.V (Kd.slice 61 k61) 71 w' w.heap.size (fun k_ => (P0_ k_ ∨ w.heap.size ≤ k_)) (.slice A0 l0.length c0) l0) ∧ Aside0 (Kd.V (Kd.slice 61 k61) 71 w' w.heap.size (fun k_ => (P0_ k_ ∨ w.heap.size ≤ k_)) (.slice A0 l0.length c0) l0) ∧ Aside0 (Below w.heap.size w w'))
  case atStart => exact ⟨(0), (0), sd_, sd_, H', ⟨Nat.le_refl _⟩, ⟨by (with_reducible repeat (first | apply Kd.V_alloc | apply Kd.V_drewN | apply Kd.V_drew)); exact HO0.out⟩, ⟨by (with_reducible repeat (first | apply Kd.V_alloc | apply Kd.V_drewN | apply Kd.V_drew)); exact HO0.out⟩, ⟨bb_⟩⟩
  case round =>
    clear H'; obtain ⟨x3_1, x11_1, rfl, rfl, HA, HK1, HO_0, HO_9, HB⟩ := hrel
    cases gk with
    | zero => exact absurd HA.out (by simp [impl_Entry_84.l0])
    | succ k1 =>
      have H := HA.out; clear HA; simp only [impl_Entry_84.l0] at H
      by_cases c2 : x11_1 < (l0.length : Int)
      · rw [if_pos c2] at H
        have c2b0 : decide (x11_1 < (l0.length : Int)) = true := decide_eq_true c2; clear c2
        by_cases c3 : 0 ≤ x11_1
        · rw [if_pos c3] at H
          have c3b0 : decide (0 ≤ x11_1) = true := decide_eq_true c3; clear c3
          by_cases c4 : x11_1 < (l0.length : Int)
          · rw [if_pos c4] at H
            have c4b0 : decide (x11_1 < (l0.length : Int)) = true := decide_eq_true c4; clear c4
            by_cases c5 : (wrap64 (x3_1 + ((rd_L5 l0 x11_1).length : Int))) < 0
            · rw [if_pos c5] at H
              exact absurd H (by simp)
            · rw [if_neg c5] at H
              have c5b0 : decide ((wrap64 (x3_1 + ((rd_L5 l0 x11_1).length : Int))) < 0) = false := decide_eq_false c5; clear c5; have H' := Aside0.mk H; clear H; have p375 : 0 ≤ (x11_1 : Int) := of_decide_eq_true as_; have q375 : x11_1 < (l0.length : Int) := of_decide_eq_true as_; obtain ⟨ad375, A375_0, c375_0, e375, hx375_0, hl375_0, hi375_0⟩ := at_L5 (Kd.V_reads' HO_9.out).2.2 x11_1 p375 q375
              cases e375
              obtain ⟨ce375, hce375, hMe375, hcc375⟩ := Kd.V_get HO_9.out [] x11_1 p375 (by first | exact q375 | exact of_decide_eq_true as_ | (have e_ := (Kd.V_reads' HO_9.out).1; omega)); obtain ⟨ua375_0, uc375_0, rfl, ul375_0, ge375_0⟩ := Kd.FK_slice_open hMe375; have hv375_0 := hcc375 0 _ rfl; rw [Nat.add_zero, show ((Kd.slice 61 k61)).sz = 1 from rfl, Nat.mul_one] at hv375_0; replace hv375_0 := Option.some.inj (hv375_0.symm.trans hx375_0); injection hv375_0 with hva_ hvn_ hvc_; rw [hva_] at ge375_0; rw [hvc_] at ul375_0; have HL375_0 := Aside0.mk (show Kd.V k61 61 _ w.heap.size _ _ (rd_L5 l0 x11_1) from Kd.V_mk ul375_0 ge375_0); clear hva_ hvn_ hvc_ ge375_0 ul375_0; clear hcc375 hce375; have HR375_0 := Aside0.mk hi375_0; have HC375_0 := Aside0.mk hl375_0; clear hi375_0 hl375_0; replace p375 := eq_true p375; replace q375 := eq_true q375; go_wp2
              go_roundg k1
              case measure => have := HK1.out; omega
              case rel => exact ⟨(wrap64 (x3_1 + ((rd_L5 l0 x11_1).length : Int))), (wrap64 (x11_1 + 1)), sd_, sd_, H', ⟨by have := HK1.out; omega⟩, ⟨by (with_reducible repeat (first | apply Kd.V_alloc | apply Kd.V_drewN | apply Kd.V_drew)); exact HO_0.out⟩, ⟨by (with_reducible repeat (first | apply Kd.V_alloc | apply Kd.V_drewN | apply Kd.V_drew)); exact HO_9.out⟩, ⟨bb_⟩⟩
          · rw [if_neg c4] at H
            exact absurd H (by simp)
        · rw [if_neg c3] at H
          exact absurd H (by simp)
      · rw [if_neg c2] at H
        have c2b0 : decide (x11_1 < (l0.length : Int)) = false := decide_eq_false c2; clear c2
        by_cases c6 : x3_1 < 0
        · rw [if_pos c6] at H
          exact absurd H (by simp)
        · rw [if_neg c6] at H
          have c6b0 : decide (x3_1 < 0) = false := decide_eq_false c6; clear c6
          by_cases c7 : x3_1 > 1099511627776
          · rw [if_pos c7] at H
            exact absurd H (by simp)
          · rw [if_neg c7] at H
            have c7b0 : decide (1099511627776 < x3_1) = false := decide_eq_false c7; clear c7
            by_cases c8 : 0 ≤ 5864062014805
            · rw [if_pos c8] at H
              have c8b0 := eq_true c8; have c8b1 : decide (0 ≤ 5864062014805) = true := decide_eq_true c8; clear c8; obtain ⟨y376, hy376⟩ : ∃ y_ : List (S61), y_ = (List.replicate 0 z61) := ⟨_, rfl⟩; replace H : (impl_Entry_84.l1 k1 y376 l0 (l0.length : Int) 0) = some r := by first | (rw [hy376]; with_reducible exact H) | (have H2_ := (Option.bind_some _ _).symm.trans H; rw [hy376]; with_reducible exact H2_) | (have H2_ := (Option.bind_some _ _).symm.trans H; with_reducible exact H2_) | with_reducible exact H | (rw [hy376]; exact H) | exact H
              have Ny376 := Aside0.mk hy376; clear hy376; have H' := Aside0.mk H; clear H; go_wp2_with (first | ((with_reducible refine gate_dst (N := 24) rfl ?_); refine goe_ (some 24) Try.func136 #[.slice none 0 0, .int .i64 x3_1] ?_; (with_reducible refine (impl_Entry_84_grow.nil_ x3_1 y376 (by rw [Ny376.out, List.replicate_zero]) _ ?side1 ?side2).mono ?_); (case side1 => have h_ : ¬ x3_1 < 0 := of_decide_eq_false (by assumption); omega); (case side2 => have h_ : ¬ 1099511627776 < x3_1 := of_decide_eq_false (by assumption); omega); rintro e w9 ⟨v377, rfl, ho10, hb⟩; refine ⟨_, rfl, ?_⟩; replace HO_0 := Aside0.mk (Kd.V_elder' (by (with_reducible repeat (first | apply Kd.V_alloc | apply Kd.V_drewN | apply Kd.V_drew)); exact HO_0.out) (Kd.N_base ho10) hb); replace HO_9 := Aside0.mk (Kd.V_elder' (by (with_reducible repeat (first | apply Kd.V_alloc | apply Kd.V_drewN | apply Kd.V_drew)); exact HO_9.out) (Kd.N_base ho10) hb); have HO378 := Aside0.mk (Kd.N_lower (Kd.N_mono (ok' := fun k_ => (P0_ k_ ∨ w.heap.size ≤ k_)) ho10 (fun k_ hk_ => (.inr (Nat.le_trans (below_size bb_) hk_)))) (below_size bb_)); replace HB := bw_ hb; clear hb ho10))
              go_loopg [6, 27] k1 (fun kq v6 v27 w' => ∃ (x6_2 : List (S61)) (x27_2 : Int), v27 = .int .i64 x27_2 ∧ Aside0 (impl_Entry_84.l1 kq x6_2 l0 (l0.length : Int) x27_2 = some r) ∧ Aside0 (kq ≤ k1) ∧ Aside0 (Kd.N k61 61 w' w.heap.size (fun k_ => (P0_ k_ ∨ w.heap.size ≤ k_)) v6 x6_2) ∧ Aside0 (Kd.V (Kd.slice 61 k61) 71 w' w.heap.size (fun k_ => (P0_ k_ ∨ w.heap.size ≤ k_) ∧ some k_ ≠ (v6 : Value).ownBlock) (.slice A0 l0.length c0) l0) ∧ Aside0 (Below w.heap.size w w'))
              case atStart => exact ⟨(y376), (0), sd_, H', ⟨Nat.le_refl _⟩, ⟨by (with_reducible repeat (first | apply Kd.N_alloc | apply Kd.N_drewN | apply Kd.N_drew)); exact HO378.out⟩, ⟨by (with_reducible repeat (first | apply Kd.V_alloc | apply Kd.V_drewN | apply Kd.V_drew)); exact HO_0.out⟩, ⟨bb_⟩⟩
              case round =>
                clear H'; try clear c2
                try clear c2b0
                try clear p2
                try clear c3
                try clear c3b0
                try clear p3
                try clear q3
                try clear hx3
                try clear c4
                try clear c4b0
                try clear c5
                try clear c5b0
                try clear c6
                try clear c6b0
                try clear p6
                try clear c7
                try clear c7b0
                try clear c8
                try clear c8b0
                try clear c8b1
                try clear hx375_0
                try clear p375
                try clear q375
                obtain ⟨x6_2, x27_2, rfl, HA, HK2, HO_6, HO_25, HB⟩ := hrel
                cases gk with
                | zero => exact absurd HA.out (by simp [impl_Entry_84.l1])
                | succ k2 =>
                  have H := HA.out; clear HA; simp only [impl_Entry_84.l1] at H
                  by_cases c11 : x27_2 < (l0.length : Int)
                  · rw [if_pos c11] at H
                    have c11b0 : decide (x27_2 < (l0.length : Int)) = true := decide_eq_true c11; clear c11
                    by_cases c12 : 0 ≤ x27_2
                    · rw [if_pos c12] at H
                      have c12b0 : decide (0 ≤ x27_2) = true := decide_eq_true c12; clear c12
                      by_cases c13 : x27_2 < (l0.length : Int)
                      · rw [if_pos c13] at H
                        have c13b0 : decide (x27_2 < (l0.length : Int)) = true := decide_eq_true c13; clear c13
                        by_cases c14 : x6_2.length + (rd_L5 l0 x27_2).length < 2932031007402
                        · rw [if_pos c14] at H
                          have LMc14 := Aside0.mk c14; clear c14; obtain ⟨y380, hy380⟩ : ∃ y_ : List (S61), y_ = (x6_2 ++ (rd_L5 l0 x27_2)) := ⟨_, rfl⟩; replace H : (impl_Entry_84.l1 k2 y380 l0 (l0.length : Int) (wrap64 (x27_2 + 1))) = some r := by first | (rw [hy380]; with_reducible exact H) | (have H2_ := (Option.bind_some _ _).symm.trans H; rw [hy380]; with_reducible exact H2_) | (have H2_ := (Option.bind_some _ _).symm.trans H; with_reducible exact H2_) | with_reducible exact H | (rw [hy380]; exact H) | exact H
                          have Ny380 := Aside0.mk hy380; clear hy380; have H' := Aside0.mk H; clear H; have p379 : 0 ≤ (x27_2 : Int) := of_decide_eq_true as_; have q379 : x27_2 < (l0.length : Int) := of_decide_eq_true as_; obtain ⟨ad379, A379_0, c379_0, e379, hx379_0, hl379_0, hi379_0⟩ := at_L5 (Kd.V_reads' HO_25.out).2.2 x27_2 p379 q379
                          cases e379
                          obtain ⟨ce379, hce379, hMe379, hcc379⟩ := Kd.V_get HO_25.out [] x27_2 p379 (by first | exact q379 | exact of_decide_eq_true as_ | (have e_ := (Kd.V_reads' HO_25.out).1; omega)); obtain ⟨ua379_0, uc379_0, rfl, ul379_0, ge379_0⟩ := Kd.FK_slice_open hMe379; have hv379_0 := hcc379 0 _ rfl; rw [Nat.add_zero, show ((Kd.slice 61 k61)).sz = 1 from rfl, Nat.mul_one] at hv379_0; replace hv379_0 := Option.some.inj (hv379_0.symm.trans hx379_0); injection hv379_0 with hva_ hvn_ hvc_; rw [hva_] at ge379_0; rw [hvc_] at ul379_0; have HL379_0 := Aside0.mk (show Kd.V k61 61 _ w.heap.size _ _ (rd_L5 l0 x27_2) from Kd.V_mk ul379_0 ge379_0); clear hva_ hvn_ hvc_ ge379_0 ul379_0; clear hcc379 hce379; have HR379_0 := Aside0.mk hi379_0; have HC379_0 := Aside0.mk hl379_0; clear hi379_0 hl379_0; replace p379 := eq_true p379; replace q379 := eq_true q379; go_wp2_with (first | ((with_reducible refine gate_builtin (b := .append) (xs := #[.tmp 31, .tmp 32]) rfl ?_); at_builtin; refine Kd.N_append_rows k61 (w0 := w) w.heap.size rfl (.tmp 31) (.tmp 32) 71 61 (.agg #[(.int .i64 0), (.int .i64 0), (.int .i64 0), (.slice none 0 0)]) 48 rfl Try.underlying71 info61 rfl (by decide) (by omega) u6 x6_2 (rd_L5 l0 x27_2) _ _ _ (fun k_ => (P0_ k_ ∨ w.heap.size ≤ k_)) (fun k_ => ((fun k_ => (P0_ k_ ∨ w.heap.size ≤ k_))) k_ ∧ some k_ ≠ (u6 : Value).ownBlock) rfl rfl ?aO ?aR (fun _ hk => hk) ?aF ?aB ?aS ?aL ?_; (case aR => exact (by skip; exact Kd.V_F (Kd.V_mono (ok' := (fun k_ => ((fun k_ => (P0_ k_ ∨ w.heap.size ≤ k_))) k_ ∧ some k_ ≠ (u6 : Value).ownBlock)) (HL379_0.out) (fun k_ hk => ⟨hk.1, hk.2⟩)))); (case aB => exact bb_); (case aF => exact (fun k_ hk => (.inr (Nat.le_trans (below_size bb_) hk)))); (case aO => exact (by (with_reducible repeat (first | apply Kd.N_alloc | apply Kd.N_drewN | apply Kd.N_drew)); exact HO_6.out)); (case aS => exact (below_size bb_)); (case aL => have := LMc14.out; omega); intro v381 w15 ho hb hg hat; rw [← Ny380.out] at ho; have n0_ := Aside0.mk (Kd.V_afterv (ok := (fun k_ => (P0_ k_ ∨ w.heap.size ≤ k_))) (by (with_reducible repeat (first | apply Kd.V_alloc | apply Kd.V_drewN | apply Kd.V_drew)); exact HO_25.out) hg hat); have n1_ := Aside0.mk (Kd.V_afterv (ok := (fun k_ => (P0_ k_ ∨ w.heap.size ≤ k_))) (by (with_reducible repeat (first | apply Kd.V_alloc | apply Kd.V_drewN | apply Kd.V_drew)); exact HL379_0.out) hg hat); have n2_ := Aside0.mk (hb); have n3_ := Aside0.mk (ho); clear HO_25; clear HL379_0; clear HB; clear HO_6; have HO_25 := n0_; have HL379_0 := n1_; have HB := n2_; have HO382 := n3_; clear n0_ n1_ n2_ n3_; clear ho hb hg hat))
                          go_roundg k2
                          case measure => have := HK1.out; have := HK2.out; omega
                          case rel => exact ⟨(y380), (wrap64 (x27_2 + 1)), sd_, H', ⟨by have := HK1.out; have := HK2.out; omega⟩, ⟨by (with_reducible repeat (first | apply Kd.N_alloc | apply Kd.N_drewN | apply Kd.N_drew)); exact HO382.out⟩, ⟨by (with_reducible repeat (first | apply Kd.V_alloc | apply Kd.V_drewN | apply Kd.V_drew)); exact HO_25.out⟩, ⟨bb_⟩⟩
                        · rw [if_neg c14] at H
                          exact absurd H (by simp)
                      · rw [if_neg c13] at H
                        exact absurd H (by simp)
                    · rw [if_neg c12] at H
                      exact absurd H (by simp)
                  · rw [if_neg c11] at H
                    have c11b0 : decide (x27_2 < (l0.length : Int)) = false := decide_eq_false c11; clear c11; obtain rfl := Option.some.inj H; go_wp2
                    go_ret
                    exact ⟨_, er_, by (with_reducible repeat (first | apply Kd.N_alloc | apply Kd.N_drewN | apply Kd.N_drew)); exact HO_6.out, bb_⟩
            · rw [if_neg c8] at H
              exact absurd H (by simp)
def impl_putTwo.f (l0 : List Int) (a1 : Int) : Option (List Int) := (some (([(a1 / 256) % 256, (a1) % 256] : List Int) : List Int)).bind fun y383 => (if l0.length + y383.length < 140737488355328 then (some (l0 ++ y383)) else (none))
set_option maxHeartbeats 8000000 in
set_option maxRecDepth 100000 in
theorem impl_putTwo.calls (P0_ : Nat → Prop) (u9000_ : Value) (l0 : List Int) (a1 : Int) (r : List Int) (w0 w : World) (hB : Below w0.heap.size w0 w) (ho0 : Kd.R (Kd.int .u8) 5 w w0.heap.size P0_ u9000_ l0) (h : impl_putTwo.f l0 a1 = some r) :
    Calls Try.prog 137 #[u9000_, .int .i64 a1] w fun e w' => ∃ v0_ : Value, e = .returned (v0_) ∧ Kd.R (Kd.int .u8) 5 w' w0.heap.size (fun k_ => (P0_ k_ ∨ w.heap.size ≤ k_)) v0_ r ∧ Below w0.heap.size w0 w' ∧ Kept w w' (fun k_ => P0_ k_) := by
  have HO0 := Aside0.mk (show Kd.R (Kd.int .u8) 5 w w0.heap.size (fun k_ => (P0_ k_ ∨ w.heap.size ≤ k_)) u9000_ l0 from Kd.R_mono ho0 (fun k_ hk => (.inl hk))); have HK := Aside0.mk (Kept.refl w (fun k_ => P0_ k_)); have HW0 := Aside0.mk hB.size; have HB := Aside0.mk hB; clear hB; have H : ((some (([(a1 / 256) % 256, (a1) % 256] : List Int) : List Int)).bind fun y383 => (if l0.length + y383.length < 140737488355328 then (some (l0 ++ y383)) else (none))) = some r := h; clear h; obtain ⟨y383, hy383⟩ : ∃ y_ : List Int, y_ = (([(a1 / 256) % 256, (a1) % 256] : List Int)) := ⟨_, rfl⟩; replace H : (if l0.length + y383.length < 140737488355328 then (some (l0 ++ y383)) else (none)) = some r := by first | (rw [hy383]; with_reducible exact H) | (have H2_ := (Option.bind_some _ _).symm.trans H; rw [hy383]; with_reducible exact H2_) | (have H2_ := (Option.bind_some _ _).symm.trans H; with_reducible exact H2_) | with_reducible exact H | (rw [hy383]; exact H) | exact H
  have Ny383 := Aside0.mk hy383; clear hy383
  by_cases c3 : l0.length + y383.length < 140737488355328
  · rw [if_pos c3] at H
    have LMc3 := Aside0.mk c3; clear c3; obtain ⟨y386, hy386⟩ : ∃ y_ : List Int, y_ = (l0 ++ y383) := ⟨_, rfl⟩; replace H : (some y386) = some r := by first | (rw [hy386]; with_reducible exact H) | (have H2_ := (Option.bind_some _ _).symm.trans H; rw [hy386]; with_reducible exact H2_) | (have H2_ := (Option.bind_some _ _).symm.trans H; with_reducible exact H2_) | with_reducible exact H | (rw [hy386]; exact H) | exact H
    have Ny386 := Aside0.mk hy386; clear hy386; obtain rfl := Option.some.inj H
    go_enter Try.func137, Try.ntmps137
    go_wp2_with (first | ((with_reducible refine gate_dst (N := 11) rfl ?_); refine Kd.R_lit (Kd.int .u8) _ 5 ?hg (N := 11) ?hd (xs := ([(a1 / 256) % 256, (a1) % 256] : List Int)) (inner := [.int .u8 ((a1 / 256) % 256), .int .u8 ((a1) % 256)]) (ok := fun _ => True) (okp := fun _ => True) ?hr ?hp (fun _ hk => hk) trivial (Below.refl _ _) (Nat.le_refl _) (by simp) ?_; (case hd => rfl); (case hg => rfl); (case hr => first | (go_simp; done) | (go_simp; rfl)); (case hp => exact (Reps.one (show Kd.M (Kd.int .u8) _ _ _ ((a1 / 256) % 256) [.int .u8 ((a1 / 256) % 256)] from rfl) (Reps.one (show Kd.M (Kd.int .u8) _ _ _ ((a1) % 256) [.int .u8 ((a1) % 256)] from rfl) (Reps.none _ _)))); intro v384 w4 ho5 hb hg_ hnew_; clear hg_ hnew_; (first | rw [← Ny383.out] at ho5 | (simp only [Int.reduceToNat] at ho5; rw [← Ny383.out] at ho5)); have HO385 := Aside0.mk (Kd.R_lower (Kd.R_new' (Kd.R_newM (M := fun k_ => (P0_ k_ ∨ w.heap.size ≤ k_)) ho5 (by first | exact HK.out.1 | exact (show Kept w _ (fun k_ => P0_ k_) from by repeat (first | (with_reducible first | exact HK.out | apply Kept.alloc | apply Kept.drewN | apply Kept.drew) | exact HK.out)).1) (fun k_ h_ => .inr h_)) (rl_ HO0)) (below_size bb_)); replace HO0 := re_ HO0 ho5 hb; replace HK := Aside0.mk (Kept.below (S := (fun k_ => P0_ k_)) (by repeat (first | (with_reducible first | exact HK.out | apply Kept.alloc | apply Kept.drewN | apply Kept.drew) | exact HK.out)) hb); replace HB := bw_ hb; clear hb ho5; obtain ⟨Ao7, co7, eo7⟩ := Kd.R_slice HO385.out; subst eo7) | ((with_reducible refine gate_builtin (b := .append) (xs := #[.tmp 5, .tmp 11]) rfl ?_); at_builtin; refine Kd.R_append_rows (Kd.int .u8) (w0 := w0) w0.heap.size rfl (.tmp 5) (.tmp 11) 22 5 (.int .u8 0) 1 rfl Try.underlying22 info5 rfl (by decide) (by omega) u9000_ l0 y383 _ _ _ (fun k_ => (P0_ k_ ∨ w.heap.size ≤ k_) ∧ some k_ ≠ (.slice Ao7 y383.length co7 : Value).ownBlock) (fun _ => False) rfl rfl ?aO ?aR (fun _ _ h => h) (fun _ h => h.elim) ?aF ?aB ?aS ?aL ?_; (case aR => repeat (first | exact (Kd.R_reads' HO385.out).2.2 | (with_reducible refine Kd.C_alloc ?_ _) | (with_reducible refine Kd.C_drewN ?_ _) | (with_reducible refine Kd.C_drew ?_))); (case aB => exact bb_); (case aF => exact (fun k_ hk => ⟨(.inr (Nat.le_trans (by first | exact HK.out.1 | exact (show Kept w _ (fun k_ => P0_ k_) from by repeat (first | (with_reducible first | exact HK.out | apply Kept.alloc | apply Kept.drewN | apply Kept.drew) | exact HK.out)).1) hk)), Kd.fresh' (rl_ HO385) k_ hk⟩)); (case aO => exact (kr_ HO0)); (case aS => exact (below_size bb_)); (case aL => have := LMc3.out; omega); intro v387 w6 ho hb hg hat; rw [← Ny386.out] at ho; have n0_ := Aside0.mk (Kd.R_after (ok := (fun k_ => (P0_ k_ ∨ w.heap.size ≤ k_))) (by (with_reducible repeat (first | apply Kd.R_alloc | apply Kd.R_drewN | apply Kd.R_drew)); exact Kd.R_mono HO385.out (fun _ hk => ⟨hk.1.1, hk.2⟩)) hg hat); have n1_ := Aside0.mk (hb); have n2_ := Aside0.mk (Kept.of_grown (S := (fun k_ => P0_ k_)) hg (by repeat (first | (with_reducible first | exact HK.out | apply Kept.alloc | apply Kept.drewN | apply Kept.drew) | exact HK.out)) (fun k_ e_ => (HO0.out.1 k_ e_).1)); have n3_ := Aside0.mk (ho); clear HO385; clear HB; clear HK; clear HO0; have HO385 := n0_; have HB := n1_; have HK := n2_; have HO388 := n3_; clear n0_ n1_ n2_ n3_; clear ho hb hg hat))
    go_ret
    exact ⟨_, er_, by (with_reducible repeat (first | apply Kd.R_alloc | apply Kd.R_drewN | apply Kd.R_drew)); exact Kd.R_mono HO388.out (fun _ hk => hk.1), bb_, by repeat (first | (with_reducible first | exact HK.out | apply Kept.alloc | apply Kept.drewN | apply Kept.drew) | exact HK.out)⟩
  · rw [if_neg c3] at H
    exact absurd H (by simp)
end Go.Proofs.Ythmkjapmnlhflaa.PFnExactCutJournal
