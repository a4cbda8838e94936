/- The functions that the law FnExports reaches: each as a plain Lean function, with the proof that the call does what it says. -/
import Derived.Test.YtmeaabgkndcikaaXFnExportsx0
import Derived.Test.YtmeaabgkndcikaaXFnExportsx2
import Derived.Test.YtmeaabgkndcikaaXFnExportsx3
import Derived.Test.YtmeaabgkndcikaaXFnExportsx4
namespace Go.Proofs.Ytmeaabgkndcikaa.PFnExports
open Go.RowKit Go.Proofs.YtmeaabgkndcikaaW.PrintWords Go.Proofs.YtmeaabgkndcikaaW.PrintLast Go.Proofs.YtmeaabgkndcikaaW.PrintMore
attribute [local go_sem] max2_int min2_int max_two min_two max_three min_three max_four min_four   -- for this text's walks alone
set_option linter.unusedVariables false
set_option linter.unusedSimpArgs false

/-! ### spec_DrawExportAttrs: function 63 -/
def spec_DrawExportAttrs.j0 : Nat → List Int → Int → Int → List Int → Int → Int → Int → Option (Int × List Int × Int × Int × Int × Int × Int)
  | 0, _, _, _, _, _, _, _ => none
  | k + 1, x202000, x202001, x211000, x211001, x211002, x211003, x211004 => (spec_l1Next.f x202000 x202001 5).bind fun bt216 => ((spec_l1Next.f x202000 bt216.2 5).bind fun bt218 => ((spec_l1Pick.f x202000 bt218.2 (([wrap64 (1 + bt216.1), wrap64 (1 + bt218.1), 0, 65536] : List Int))).bind fun bt223 => ((spec_l1Next.f x202000 bt223.2 9).bind fun bt225 => ((spec_l1Next.f x202000 bt225.2 9).bind fun bt227 => ((spec_l1Pick.f x202000 bt227.2 (([bt225.1, bt227.1, (-1)] : List Int))).bind fun bt232 => (some (x211000, x211001, x211002, x211003, x211004, bt223.1, bt232.1)))))))
def spec_DrawExportAttrs.f (k : Nat) (l0 : List Int) : Option (Int × List Int × Int × Int × Int × Int × Int) := (spec_l1Source.f l0).bind fun bt199 => ((spec_l3BentAttrs.f k bt199.1 bt199.2).bind fun bt202 => ((spec_l1Chance.f bt199.1 bt202.2.2.2.2.2 8).bind fun bt211 => (if bt211.1 = true then (spec_DrawExportAttrs.j0 k bt199.1 bt211.2 bt202.1 (([1, 2, 3, 4, 5, 6] : List Int)) bt202.2.2.1 bt202.2.2.2.1 bt202.2.2.2.2.1) else (spec_DrawExportAttrs.j0 k bt199.1 bt211.2 bt202.1 bt202.2.1 bt202.2.2.1 bt202.2.2.2.1 bt202.2.2.2.2.1))))
theorem spec_DrawExportAttrs.mono_l : ∀ k, (∀ y0 y1 y2 y3 y4 y5 y6, LeO (spec_DrawExportAttrs.j0 k y0 y1 y2 y3 y4 y5 y6) (spec_DrawExportAttrs.j0 (k + 1) y0 y1 y2 y3 y4 y5 y6))
  | 0 => fun _ _ _ _ _ _ _ r h => by simp [spec_DrawExportAttrs.j0] at h
  | k + 1 => by
    have ih0 := spec_DrawExportAttrs.mono_l k
    · intro y0 y1 y2 y3 y4 y5 y6
      unfold spec_DrawExportAttrs.j0
      repeat' first
      | (with_reducible exact ih0 _ _ _ _ _ _ _)
      | (with_reducible exact spec_l3BentAttrs.mono _ _ _)
      | (with_reducible exact LeO.refl _)
      | (with_reducible exact LeO.none _)
      | (with_reducible refine LeO.ite ?_ ?_)
      | (with_reducible refine LeO.bind ?_ (fun _ => ?_))
      | exact ih0 _ _ _ _ _ _ _
      | exact spec_l3BentAttrs.mono _ _ _
      | exact LeO.none _
      | refine LeO.ite ?_ ?_
      | refine LeO.bind ?_ (fun _ => ?_)
theorem spec_DrawExportAttrs.mono : ∀ a0 k, LeO (spec_DrawExportAttrs.f k a0) (spec_DrawExportAttrs.f (k + 1) a0) := by
  intro a0 k
  have ih0 := spec_DrawExportAttrs.mono_l k
  unfold spec_DrawExportAttrs.f
  repeat' first
      | (with_reducible exact ih0 _ _ _ _ _ _ _)
      | (with_reducible exact spec_l3BentAttrs.mono _ _ _)
      | (with_reducible exact LeO.refl _)
      | (with_reducible exact LeO.none _)
      | (with_reducible refine LeO.ite ?_ ?_)
      | (with_reducible refine LeO.bind ?_ (fun _ => ?_))
      | exact ih0 _ _ _ _ _ _ _
      | exact spec_l3BentAttrs.mono _ _ _
      | exact LeO.none _
      | refine LeO.ite ?_ ?_
      | refine LeO.bind ?_ (fun _ => ?_)
def spec_DrawExportAttrs.T5 : Bool × List (List Nat × List Nat) := (true, [([], []), ([], []), ([], []), ([2], [2]), ([3], [3]), ([], []), ([5, 3], [5]), ([6], [6]), ([4, 7], [4, 7]), ([1, 8, 6], [1, 8]), ([], []), ([], []), ([11, 9], [11]), ([], []), ([13, 12], [13]), ([12, 14], [12, 14]), ([10, 15, 14], [10, 15]), ([0, 16, 0], [0]), ([9, 17, 0, 1, 2, 3, 4, 5, 6, 7, 8, 9, 17], [9]), ([16, 18, 0, 1, 2, 3, 4, 5, 6, 7, 8, 9, 10, 11, 12, 13, 14, 15, 16, 17, 18], [16])])
def spec_DrawExportAttrs.B5 : List Nat := [0, 0, 0, 4, 12, 0, 44, 108, 252, 510, 0, 0, 3070, 0, 15358, 31742, 65534, 131071, 262143, 524287]
theorem spec_DrawExportAttrs.tab5 : rtab .any (opsOf Try.f63 5) = spec_DrawExportAttrs.T5 := by kernel_rfl
theorem spec_DrawExportAttrs.bits5 : waitsOk spec_DrawExportAttrs.T5.2 spec_DrawExportAttrs.B5 = true := by kernel_rfl
set_option maxHeartbeats 8000000 in
set_option maxRecDepth 100000 in
theorem spec_DrawExportAttrs.calls (k : Nat) (A0 : Option Addr) (c0 : Nat) (l0 : List Int) (r1 : Int) (r2 : List Int) (r3 : Int) (r4 : Int) (r5 : Int) (r6 : Int) (r7 : Int) (w : World) (hr0 : Kd.C (Kd.int .u8) w A0 l0.length l0) (hc0 : l0.length ≤ c0) (h : spec_DrawExportAttrs.f k l0 = some (r1, r2, r3, r4, r5, r6, r7)) :
    Calls Try.prog 63 #[.slice A0 l0.length c0] w fun e w' => ∃ v1_ : Value, e = .returned (.tuple #[.agg #[.int .i64 r1, v1_, .int .i64 r3, .int .i64 r4, .int .i64 r5], .int .i64 r6, .int .i64 r7]) ∧ Kd.R (Kd.int .i64) 2 w' w.heap.size (fun _ => True) v1_ r2 ∧ Below w.heap.size w w' := by
  have hu27 := Try.underlying27
  have HR0 := Aside0.mk hr0
  have HC0 := Aside0.mk hc0
  clear hr0 hc0
  have HB := Aside0.mk (Below.refl w.heap.size w)
  have H : ((spec_l1Source.f l0).bind fun bt199 => ((spec_l3BentAttrs.f k bt199.1 bt199.2).bind fun bt202 => ((spec_l1Chance.f bt199.1 bt202.2.2.2.2.2 8).bind fun bt211 => (if bt211.1 = true then (spec_DrawExportAttrs.j0 k bt199.1 bt211.2 bt202.1 (([1, 2, 3, 4, 5, 6] : List Int)) bt202.2.2.1 bt202.2.2.2.1 bt202.2.2.2.2.1) else (spec_DrawExportAttrs.j0 k bt199.1 bt211.2 bt202.1 bt202.2.1 bt202.2.2.1 bt202.2.2.2.1 bt202.2.2.2.2.1))))) = some (r1, r2, r3, r4, r5, r6, r7) := h
  clear h
  replace H := Option.bind_eq_some_iff.mp H
  obtain ⟨⟨t199, t200⟩, A20, H⟩ := H
  replace H : ((spec_l3BentAttrs.f k t199 t200).bind fun bt202 => ((spec_l1Chance.f t199 bt202.2.2.2.2.2 8).bind fun bt211 => (if bt211.1 = true then (spec_DrawExportAttrs.j0 k t199 bt211.2 bt202.1 (([1, 2, 3, 4, 5, 6] : List Int)) bt202.2.2.1 bt202.2.2.2.1 bt202.2.2.2.2.1) else (spec_DrawExportAttrs.j0 k t199 bt211.2 bt202.1 bt202.2.1 bt202.2.2.1 bt202.2.2.2.1 bt202.2.2.2.2.1)))) = some (r1, r2, r3, r4, r5, r6, r7) := H
  have A2 := Aside0.mk A20
  clear A20
  replace H := Option.bind_eq_some_iff.mp H
  obtain ⟨⟨t202, t203, t206, t207, t208, t209⟩, A30, H⟩ := H
  replace H : ((spec_l1Chance.f t199 t209 8).bind fun bt211 => (if bt211.1 = true then (spec_DrawExportAttrs.j0 k t199 bt211.2 t202 (([1, 2, 3, 4, 5, 6] : List Int)) t206 t207 t208) else (spec_DrawExportAttrs.j0 k t199 bt211.2 t202 t203 t206 t207 t208))) = some (r1, r2, r3, r4, r5, r6, r7) := H
  have A3 := Aside0.mk A30
  clear A30
  replace H := Option.bind_eq_some_iff.mp H
  obtain ⟨⟨t211, t212⟩, A40, H⟩ := H
  replace H : (if t211 = true then (spec_DrawExportAttrs.j0 k t199 t212 t202 (([1, 2, 3, 4, 5, 6] : List Int)) t206 t207 t208) else (spec_DrawExportAttrs.j0 k t199 t212 t202 t203 t206 t207 t208)) = some (r1, r2, r3, r4, r5, r6, r7) := H
  have A4 := Aside0.mk A40
  clear A40
  have HC5 := Aside0.mk H
  clear H
  go_enter Try.func63, Try.ntmps63
  go_upto_if 12 with (first | ((with_reducible refine gate_dst (N := 2) rfl ?_); refine box_event ?hg (N := 2) ?hd (cs := #[.int .i64 0, .slice none 0 0, .int .i64 0, .int .i64 0, .int .i64 0]) (t := 27) ?hr ?_; (case hd => rfl); (case hg => rfl); (case hr => first | (go_simp; done) | (go_simp; rfl)); intro gb198 hg w6 hbox hb; have n0_ := Aside0.mk (below_step (by repeat (first | (with_reducible first | exact HB.out | apply below_alloc | apply pw_below_drewN | apply below_drew1) | exact HB.out)) hb); have n1_ := Aside0.mk (hbox); have n2_ := Aside0.mk ((by rw [hg]; exact (below_size (by repeat (first | (with_reducible first | exact HB.out | apply below_alloc | apply pw_below_drewN | apply below_drew1) | exact HB.out))) : w.heap.size ≤ gb198)); have n3_ := Aside0.mk ((by rw [hg]; exact (below_size (by repeat (first | (with_reducible first | exact HB.out | apply below_alloc | apply pw_below_drewN | apply below_drew1) | exact HB.out))) : w.heap.size ≤ gb198)); clear HB; have HB := n0_; have BK198 := n1_; have GW198 := n2_; have GE198 := n3_; clear n0_ n1_ n2_ n3_; clear hb hbox hg) | ((with_reducible refine gate_callee (f := 83) rfl ?_); refine goesL_ (some 8) rfl rfl Try.func83 (by kernel_rfl) rfl #[.slice A0 l0.length c0] rfl (by (try simp only [List.map_toArray, List.map_cons, List.map_nil]); first | done | rfl | (simp only [List.length_drop, List.length_take]; rfl)) ?_; (with_reducible refine (spec_l1Source.calls _ _ l0 t199 t200 w _ ?side1 ?side2 ?side3 A2.out).mono ?_); (case side1 => repeat (first | (with_reducible first | exact HB.out | apply below_alloc | apply pw_below_drewN | apply below_drew1 | refine below_set ?_ GE198.out) | exact HB.out)); (case side2 => exact HR0.out); (case side3 => exact HC0.out); rintro e w7 ⟨g201, rfl, hi, hb, hb2⟩; refine ⟨_, rfl, ?_⟩; have n0_ := Aside0.mk (blk_below (g := gb198) (o := .cells #[.int .i64 0, .slice none 0 0, .int .i64 0, .int .i64 0, .int .i64 0] 27 (0, 0)) (by (with_reducible repeat (first | refine blk_drewN ?_ _ | refine blk_drew ?_ | refine blk_alloc ?_ _)); exact BK198.out) hb2); have n1_ := Aside0.mk (hb); have n2_ := Aside0.mk (hi); have n3_ := Aside0.mk (IsS184.ne_blk hi (blk_below (g := gb198) (o := .cells #[.int .i64 0, .slice none 0 0, .int .i64 0, .int .i64 0, .int .i64 0] 27 (0, 0)) (by (with_reducible repeat (first | refine blk_drewN ?_ _ | refine blk_drew ?_ | refine blk_alloc ?_ _)); exact BK198.out) hb2) (by decide)); have n4_ := Aside0.mk (Ne.symm (IsS184.ne_blk hi (blk_below (g := gb198) (o := .cells #[.int .i64 0, .slice none 0 0, .int .i64 0, .int .i64 0, .int .i64 0] 27 (0, 0)) (by (with_reducible repeat (first | refine blk_drewN ?_ _ | refine blk_drew ?_ | refine blk_alloc ?_ _)); exact BK198.out) hb2) (by decide))); clear BK198; clear HB; have BK198 := n0_; have HB := n1_; have HI201 := n2_; have NB201_198 := n3_; have NB198_201 := n4_; clear n0_ n1_ n2_ n3_ n4_; (try clear hb); (try clear hb2); (try clear hk); (try clear hi)) | ((with_reducible refine gate_callee (f := 126) rfl ?_); refine goesL_ (some 10) rfl rfl Try.func126 (by kernel_rfl) rfl #[.pointer (some ⟨g201, 0, none⟩)] rfl (by (try simp only [List.map_toArray, List.map_cons, List.map_nil]); first | done | rfl | (simp only [List.length_drop, List.length_take]; rfl)) ?_; (with_reducible refine (spec_l3BentAttrs.calls k g201 t199 t200 t202 t203 t206 t207 t208 t209 w _ ?side1 ?side2 A3.out).mono ?_); (case side1 => repeat (first | (with_reducible first | exact HI201.out | apply IsS184.alloc | apply IsS184.drewN | apply IsS184.drew | apply IsS184.set_1 | refine IsS184.far ?_ NB201_198.out _) | exact HI201.out)); (case side2 => repeat (first | (with_reducible first | exact HB.out | apply below_alloc | apply pw_below_drewN | apply below_drew1 | refine below_set ?_ (IsS184.ge HI201.out) | refine below_set ?_ GE198.out) | exact HB.out)); rintro e w8 ⟨v204, rfl, ho0, hi, hb, hk⟩; refine ⟨_, rfl, ?_⟩; have n0_ := Aside0.mk (KeepBut.blk hk (g' := gb198) (o := .cells #[.int .i64 0, .slice none 0 0, .int .i64 0, .int .i64 0, .int .i64 0] 27 (0, 0)) (by (with_reducible repeat (first | refine blk_drewN ?_ _ | refine blk_drew ?_ | refine blk_alloc ?_ _)); exact BK198.out) NB198_201.out (by simp)); have n1_ := Aside0.mk (Kd.R_lower ho0 (below_size (by repeat (first | (with_reducible first | exact HB.out | apply below_alloc | apply pw_below_drewN | apply below_drew1 | refine below_set ?_ (IsS184.ge HI201.out) | refine below_set ?_ GE198.out) | exact HB.out)))); have n2_ := Aside0.mk (hb); have n3_ := Aside0.mk (hi); clear BK198; clear HB; clear HI201; have BK198 := n0_; have HO205 := n1_; have HB := n2_; have HI201 := n3_; clear n0_ n1_ n2_ n3_; (try clear hb); (try clear hb2); (try clear hk); (try clear hi); (try clear ho0)) | ((with_reducible refine gate_dst (N := 6) rfl ?_); refine box_event ?hg (N := 6) ?hd (cs := #[.int .i64 0, .slice none 0 0, .int .i64 0, .int .i64 0, .int .i64 0]) (t := 27) ?hr ?_; (case hd => rfl); (case hg => rfl); (case hr => first | (go_simp; done) | (go_simp; rfl)); intro gb210 hg w9 hbox hb; have n0_ := Aside0.mk (Kd.R_below (by (with_reducible repeat (first | apply Kd.R_alloc | apply Kd.R_drewN | apply Kd.R_drew)); exact HO205.out) hb); have n1_ := Aside0.mk (blk_below (g := gb198) (o := .cells #[.int .i64 0, .slice none 0 0, .int .i64 0, .int .i64 0, .int .i64 0] 27 (0, 0)) (by (with_reducible repeat (first | refine blk_drewN ?_ _ | refine blk_drew ?_ | refine blk_alloc ?_ _)); exact BK198.out) hb); have n2_ := Aside0.mk (IsS184.below (by repeat (first | (with_reducible first | exact HI201.out | apply IsS184.alloc | apply IsS184.drewN | apply IsS184.drew | apply IsS184.set_1 | refine IsS184.far ?_ NB201_198.out _) | exact HI201.out)) hb); have n3_ := Aside0.mk (below_step (by repeat (first | (with_reducible first | exact HB.out | apply below_alloc | apply pw_below_drewN | apply below_drew1 | refine below_set ?_ (IsS184.ge HI201.out) | refine below_set ?_ GE198.out) | exact HB.out)) hb); have n4_ := Aside0.mk (hbox); have n5_ := Aside0.mk ((by rw [hg]; exact (below_size (by repeat (first | (with_reducible first | exact HB.out | apply below_alloc | apply pw_below_drewN | apply below_drew1 | refine below_set ?_ (IsS184.ge HI201.out) | refine below_set ?_ GE198.out) | exact HB.out))) : w.heap.size ≤ gb210)); have n6_ := Aside0.mk ((by rw [hg]; exact (below_size (by repeat (first | (with_reducible first | exact HB.out | apply below_alloc | apply pw_below_drewN | apply below_drew1 | refine below_set ?_ (IsS184.ge HI201.out) | refine below_set ?_ GE198.out) | exact HB.out))) : w.heap.size ≤ gb210)); have n7_ := Aside0.mk ((by rw [hg]; exact Nat.ne_of_lt (blk_lt (g := gb198) (o := .cells #[.int .i64 0, .slice none 0 0, .int .i64 0, .int .i64 0, .int .i64 0] 27 (0, 0)) (by (with_reducible repeat (first | refine blk_drewN ?_ _ | refine blk_drew ?_ | refine blk_alloc ?_ _)); exact BK198.out)) : gb198 ≠ gb210)); have n8_ := Aside0.mk ((by rw [hg]; exact Nat.ne_of_gt (blk_lt (g := gb198) (o := .cells #[.int .i64 0, .slice none 0 0, .int .i64 0, .int .i64 0, .int .i64 0] 27 (0, 0)) (by (with_reducible repeat (first | refine blk_drewN ?_ _ | refine blk_drew ?_ | refine blk_alloc ?_ _)); exact BK198.out)) : gb210 ≠ gb198)); have n9_ := Aside0.mk ((by rw [hg]; exact Nat.ne_of_lt (IsS184.lt (show IsS184 w _ g201 t199 t209 from by repeat (first | (with_reducible first | exact HI201.out | apply IsS184.alloc | apply IsS184.drewN | apply IsS184.drew | apply IsS184.set_1 | refine IsS184.far ?_ NB201_198.out _) | exact HI201.out))) : g201 ≠ gb210)); have n10_ := Aside0.mk ((by rw [hg]; exact Nat.ne_of_gt (IsS184.lt (show IsS184 w _ g201 t199 t209 from by repeat (first | (with_reducible first | exact HI201.out | apply IsS184.alloc | apply IsS184.drewN | apply IsS184.drew | apply IsS184.set_1 | refine IsS184.far ?_ NB201_198.out _) | exact HI201.out))) : gb210 ≠ g201)); clear HO205; clear BK198; clear HI201; clear HB; have HO205 := n0_; have BK198 := n1_; have HI201 := n2_; have HB := n3_; have BK210 := n4_; have GW210 := n5_; have GE210 := n6_; have NB198_210 := n7_; have NB210_198 := n8_; have NB201_210 := n9_; have NB210_201 := n10_; clear n0_ n1_ n2_ n3_ n4_ n5_ n6_ n7_ n8_ n9_ n10_; clear hb hbox hg; have hnb10 := NB210_198.out; have hnc10 := NB198_210.out; have hnb11 := NB210_201.out; have hnc11 := NB201_210.out; have hcz12_0 : w9.cell? ⟨gb210, 0, none⟩ = some (.int .i64 0) := (blk_cell BK210.out 0).trans rfl; have hcz12_1 : w9.cell? ⟨gb210, 1, none⟩ = some (.slice none 0 0) := (blk_cell BK210.out 1).trans rfl; have hcz12_2 : w9.cell? ⟨gb210, 2, none⟩ = some (.int .i64 0) := (blk_cell BK210.out 2).trans rfl; have hcz12_3 : w9.cell? ⟨gb210, 3, none⟩ = some (.int .i64 0) := (blk_cell BK210.out 3).trans rfl; have hcz12_4 : w9.cell? ⟨gb210, 4, none⟩ = some (.int .i64 0) := (blk_cell BK210.out 4).trans rfl; have hfz12_0 := blk_frozen BK210.out 0; have hfz12_1 := blk_frozen BK210.out 1; have hfz12_2 := blk_frozen BK210.out 2; have hfz12_3 := blk_frozen BK210.out 3; have hfz12_4 := blk_frozen BK210.out 4; obtain ⟨Ao13, co13, eo13⟩ := Kd.R_slice HO205.out; subst eo13) | ((with_reducible refine gate_callee (f := 85) rfl ?_); refine goesL_ (some 12) rfl rfl Try.func85 (by kernel_rfl) rfl #[.pointer (some ⟨g201, 0, none⟩), .int .i64 8] rfl (by (try simp only [List.map_toArray, List.map_cons, List.map_nil]); first | done | rfl | (simp only [List.length_drop, List.length_take]; rfl)) ?_; (with_reducible refine (spec_l1Chance.calls g201 t199 t209 8 t211 t212 w _ ?side1 ?side2 A4.out).mono ?_); (case side1 => repeat (first | (with_reducible first | exact HI201.out | apply IsS184.alloc | apply IsS184.drewN | apply IsS184.drew | apply IsS184.set_1 | refine IsS184.far ?_ NB201_198.out _ | refine IsS184.far ?_ NB201_210.out _) | exact HI201.out)); (case side2 => repeat (first | (with_reducible first | exact HB.out | apply below_alloc | apply pw_below_drewN | apply below_drew1 | refine below_set ?_ (IsS184.ge HI201.out) | refine below_set ?_ GE198.out | refine below_set ?_ GE210.out) | exact HB.out)); rintro e w14 ⟨rfl, hi, hb, hk⟩; refine ⟨_, rfl, ?_⟩; have n0_ := Aside0.mk (KeepBut.blk hk (g' := gb198) (o := .cells #[.int .i64 0, .slice none 0 0, .int .i64 0, .int .i64 0, .int .i64 0] 27 (0, 0)) (by (with_reducible repeat (first | refine blk_drewN ?_ _ | refine blk_drew ?_ | refine blk_alloc ?_ _)); refine blk_far ?_ NB198_210.out _; (with_reducible repeat (first | refine blk_drewN ?_ _ | refine blk_drew ?_ | refine blk_alloc ?_ _)); refine blk_far ?_ NB198_210.out _; (with_reducible repeat (first | refine blk_drewN ?_ _ | refine blk_drew ?_ | refine blk_alloc ?_ _)); refine blk_far ?_ NB198_210.out _; (with_reducible repeat (first | refine blk_drewN ?_ _ | refine blk_drew ?_ | refine blk_alloc ?_ _)); refine blk_far ?_ NB198_210.out _; (with_reducible repeat (first | refine blk_drewN ?_ _ | refine blk_drew ?_ | refine blk_alloc ?_ _)); refine blk_far ?_ NB198_210.out _; (with_reducible repeat (first | refine blk_drewN ?_ _ | refine blk_drew ?_ | refine blk_alloc ?_ _)); exact BK198.out) NB198_201.out (by simp)); have n1_ := Aside0.mk (Kd.R_mono (Kd.R_keep (IsS184.apart (show IsS184 w _ g201 t199 t209 from by repeat (first | (with_reducible first | exact HI201.out | apply IsS184.alloc | apply IsS184.drewN | apply IsS184.drew | apply IsS184.set_1 | refine IsS184.far ?_ NB201_198.out _ | refine IsS184.far ?_ NB201_210.out _) | exact HI201.out)) (by (with_reducible repeat (first | apply Kd.R_alloc | apply Kd.R_drewN | apply Kd.R_drew)); exact (Kd.R_mono (Kd.R_far (p := ⟨gb210, 4, none⟩) (Kd.R_far (p := ⟨gb210, 3, none⟩) (Kd.R_far (p := ⟨gb210, 2, none⟩) (Kd.R_far (p := ⟨gb210, 1, none⟩) (Kd.R_far (p := ⟨gb210, 0, none⟩) (Kd.R_types HO205.out BK210.out (by decide)) (fun _ hk => hk.2) (.int .i64 t202)) (fun _ hk => hk.2) (.slice Ao13 t203.length co13)) (fun _ hk => hk.2) (.int .i64 t206)) (fun _ hk => hk.2) (.int .i64 t207)) (fun _ hk => hk.2) (.int .i64 t208)) (fun _ h_ => h_.1))) (by decide)) hk (fun _ h => h.2)) (fun _ h => h.1)); have n2_ := Aside0.mk (KeepBut.blk hk (g' := gb210) (o := .cells #[.int .i64 t202, .slice Ao13 t203.length co13, .int .i64 t206, .int .i64 t207, .int .i64 t208] 27 (0, 0)) (by (with_reducible repeat (first | refine blk_drewN ?_ _ | refine blk_drew ?_ | refine blk_alloc ?_ _)); refine blk_put (cs := #[.int .i64 t202, .slice Ao13 t203.length co13, .int .i64 t206, .int .i64 t207, .int .i64 0]) ?_ 4 _ rfl; (with_reducible repeat (first | refine blk_drewN ?_ _ | refine blk_drew ?_ | refine blk_alloc ?_ _)); refine blk_put (cs := #[.int .i64 t202, .slice Ao13 t203.length co13, .int .i64 t206, .int .i64 0, .int .i64 0]) ?_ 3 _ rfl; (with_reducible repeat (first | refine blk_drewN ?_ _ | refine blk_drew ?_ | refine blk_alloc ?_ _)); refine blk_put (cs := #[.int .i64 t202, .slice Ao13 t203.length co13, .int .i64 0, .int .i64 0, .int .i64 0]) ?_ 2 _ rfl; (with_reducible repeat (first | refine blk_drewN ?_ _ | refine blk_drew ?_ | refine blk_alloc ?_ _)); refine blk_put (cs := #[.int .i64 t202, .slice none 0 0, .int .i64 0, .int .i64 0, .int .i64 0]) ?_ 1 _ rfl; (with_reducible repeat (first | refine blk_drewN ?_ _ | refine blk_drew ?_ | refine blk_alloc ?_ _)); refine blk_put (cs := #[.int .i64 0, .slice none 0 0, .int .i64 0, .int .i64 0, .int .i64 0]) ?_ 0 _ rfl; (with_reducible repeat (first | refine blk_drewN ?_ _ | refine blk_drew ?_ | refine blk_alloc ?_ _)); exact BK210.out) NB210_201.out (by simp)); have n3_ := Aside0.mk (hb); have n4_ := Aside0.mk (hi); clear BK198; clear HO205; clear BK210; clear HB; clear HI201; have BK198 := n0_; have HO205 := n1_; have BK210 := n2_; have HB := n3_; have HI201 := n4_; clear n0_ n1_ n2_ n3_ n4_; (try clear hb); (try clear hb2); (try clear hk); (try clear hi)))
  (try simp only [Act.put, List.setIfInBounds_toArray, List.set_cons_zero, List.set_cons_succ])
  go_cut [] (fun wc => ∃ (kq : Nat) (x211001_4 : List Int) (u211001 : Value), Aside0 (spec_DrawExportAttrs.j0 kq t199 t212 t202 x211001_4 t206 t207 t208 = some (r1, r2, r3, r4, r5, r6, r7)) ∧ Aside0 (kq ≤ k) ∧ Aside0 (Kd.R (Kd.int .i64) 2 wc w.heap.size (fun _ => True) u211001 x211001_4) ∧ Aside0 (wc.heap[gb198]? = some (.cells #[.int .i64 0, (.slice none 0 0), .int .i64 0, .int .i64 0, .int .i64 0] 27 (0, 0))) ∧ Aside0 (wc.heap[gb210]? = some (.cells #[.int .i64 t202, u211001, .int .i64 t206, .int .i64 t207, .int .i64 t208] 27 (0, 0))) ∧ Aside0 (IsS184 w wc g201 t199 t212) ∧ Aside0 (Below w.heap.size w wc))
  case first =>
    have H := HC5.out
    clear HC5
    by_cases c15 : t211 = true
    · subst c15
      have H1 : (spec_DrawExportAttrs.j0 k t199 t212 t202 (([1, 2, 3, 4, 5, 6] : List Int)) t206 t207 t208) = some (r1, r2, r3, r4, r5, r6, r7) := by rw [if_pos rfl] at H; exact H
      clear H
      have H := H1
      clear H1
      obtain ⟨y213, hy213⟩ : ∃ y_ : List Int, y_ = (([1, 2, 3, 4, 5, 6] : List Int)) := ⟨_, rfl⟩
      replace H : (spec_DrawExportAttrs.j0 k t199 t212 t202 y213 t206 t207 t208) = some (r1, r2, r3, r4, r5, r6, r7) := by first | (rw [hy213]; with_reducible exact H) | (have H2_ := (Option.bind_some _ _).symm.trans H; rw [hy213]; with_reducible exact H2_) | (have H2_ := (Option.bind_some _ _).symm.trans H; with_reducible exact H2_) | with_reducible exact H | (rw [hy213]; exact H) | exact H
      have Ny213 := Aside0.mk hy213
      clear hy213
      have H' := Aside0.mk H
      clear H
      go_wp2_with (first | ((with_reducible refine gate_dst (N := 13) rfl ?_); refine Kd.R_lit (Kd.int .i64) _ 2 ?hg (N := 13) ?hd (xs := ([1, 2, 3, 4, 5, 6] : List Int)) (inner := [.int .i64 1, .int .i64 2, .int .i64 3, .int .i64 4, .int .i64 5, .int .i64 6]) (ok := fun _ => True) (okp := fun _ => True) ?hr ?hp (fun _ hk => hk) trivial (Below.refl _ _) (Nat.le_refl _) (by simp) ?_; (case hd => rfl); (case hg => rfl); (case hr => first | (go_simp; done) | (go_simp; rfl)); (case hp => exact (Reps.one (show Kd.M (Kd.int .i64) _ _ _ 1 [.int .i64 1] from rfl) (Reps.one (show Kd.M (Kd.int .i64) _ _ _ 2 [.int .i64 2] from rfl) (Reps.one (show Kd.M (Kd.int .i64) _ _ _ 3 [.int .i64 3] from rfl) (Reps.one (show Kd.M (Kd.int .i64) _ _ _ 4 [.int .i64 4] from rfl) (Reps.one (show Kd.M (Kd.int .i64) _ _ _ 5 [.int .i64 5] from rfl) (Reps.one (show Kd.M (Kd.int .i64) _ _ _ 6 [.int .i64 6] from rfl) (Reps.none _ _)))))))); intro v214 w16 ho17 hb hg_ hnew_; clear hg_ hnew_; (first | rw [← Ny213.out] at ho17 | (simp only [Int.reduceToNat] at ho17; rw [← Ny213.out] at ho17)); have n0_ := Aside0.mk (Kd.R_elder' (by (with_reducible repeat (first | apply Kd.R_alloc | apply Kd.R_drewN | apply Kd.R_drew)); exact HO205.out) (Kd.R_base ho17) hb); have n1_ := Aside0.mk (Kd.R_lower (Kd.R_new' ho17 (Kd.R_lt (by (with_reducible repeat (first | apply Kd.R_alloc | apply Kd.R_drewN | apply Kd.R_drew)); exact HO205.out))) (below_size (by repeat (first | (with_reducible first | exact HB.out | apply below_alloc | apply pw_below_drewN | apply below_drew1 | refine below_set ?_ (IsS184.ge HI201.out) | refine below_set ?_ GE198.out | refine below_set ?_ GE210.out) | exact HB.out)))); have n2_ := Aside0.mk (blk_below (g := gb198) (o := .cells #[.int .i64 0, .slice none 0 0, .int .i64 0, .int .i64 0, .int .i64 0] 27 (0, 0)) (by (with_reducible repeat (first | refine blk_drewN ?_ _ | refine blk_drew ?_ | refine blk_alloc ?_ _)); exact BK198.out) hb); have n3_ := Aside0.mk (IsS184.below (by repeat (first | (with_reducible first | exact HI201.out | apply IsS184.alloc | apply IsS184.drewN | apply IsS184.drew | apply IsS184.set_1 | refine IsS184.far ?_ NB201_198.out _ | refine IsS184.far ?_ NB201_210.out _) | exact HI201.out)) hb); have n4_ := Aside0.mk (blk_below (g := gb210) (o := .cells #[.int .i64 t202, .slice Ao13 t203.length co13, .int .i64 t206, .int .i64 t207, .int .i64 t208] 27 (0, 0)) (by (with_reducible repeat (first | refine blk_drewN ?_ _ | refine blk_drew ?_ | refine blk_alloc ?_ _)); exact BK210.out) hb); have n5_ := Aside0.mk (below_step (by repeat (first | (with_reducible first | exact HB.out | apply below_alloc | apply pw_below_drewN | apply below_drew1 | refine below_set ?_ (IsS184.ge HI201.out) | refine below_set ?_ GE198.out | refine below_set ?_ GE210.out) | exact HB.out)) hb); clear HO205; clear BK198; clear HI201; clear BK210; clear HB; have HO205 := n0_; have HO215 := n1_; have BK198 := n2_; have HI201 := n3_; have BK210 := n4_; have HB := n5_; clear n0_ n1_ n2_ n3_ n4_ n5_; clear hb ho17; obtain ⟨Ao18, co18, eo18⟩ := Kd.R_slice HO215.out; subst eo18; have hnb19 := NB210_198.out; have hnc19 := NB198_210.out; have hnb20 := NB210_201.out; have hnc20 := NB201_210.out; have hcz21_0 : w16.cell? ⟨gb210, 0, none⟩ = some (.int .i64 t202) := (blk_cell BK210.out 0).trans rfl; have hcz21_1 : w16.cell? ⟨gb210, 1, none⟩ = some (.slice Ao13 t203.length co13) := (blk_cell BK210.out 1).trans rfl; have hcz21_2 : w16.cell? ⟨gb210, 2, none⟩ = some (.int .i64 t206) := (blk_cell BK210.out 2).trans rfl; have hcz21_3 : w16.cell? ⟨gb210, 3, none⟩ = some (.int .i64 t207) := (blk_cell BK210.out 3).trans rfl; have hcz21_4 : w16.cell? ⟨gb210, 4, none⟩ = some (.int .i64 t208) := (blk_cell BK210.out 4).trans rfl; have hfz21_0 := blk_frozen BK210.out 0; have hfz21_1 := blk_frozen BK210.out 1; have hfz21_2 := blk_frozen BK210.out 2; have hfz21_3 := blk_frozen BK210.out 3; have hfz21_4 := blk_frozen BK210.out 4))
      go_meet
      case rel => exact ⟨_, (y213), (.slice Ao18 y213.length co18), H', ⟨by first | omega | exact Nat.le_refl _⟩, ⟨by (with_reducible repeat (first | apply Kd.R_alloc | apply Kd.R_drewN | apply Kd.R_drew)); exact Kd.R_mono (Kd.R_far (p := ⟨gb210, 1, none⟩) (Kd.R_types HO215.out BK210.out (by decide)) (fun _ hk => hk.2) (.slice Ao18 y213.length co18)) (fun _ hk => trivial)⟩, ⟨by (with_reducible repeat (first | refine blk_drewN ?_ _ | refine blk_drew ?_ | refine blk_alloc ?_ _)); refine blk_far ?_ NB198_210.out _; (with_reducible repeat (first | refine blk_drewN ?_ _ | refine blk_drew ?_ | refine blk_alloc ?_ _)); exact BK198.out⟩, ⟨by (with_reducible repeat (first | refine blk_drewN ?_ _ | refine blk_drew ?_ | refine blk_alloc ?_ _)); refine blk_put (cs := #[.int .i64 t202, .slice Ao13 t203.length co13, .int .i64 t206, .int .i64 t207, .int .i64 t208]) ?_ 1 _ rfl; (with_reducible repeat (first | refine blk_drewN ?_ _ | refine blk_drew ?_ | refine blk_alloc ?_ _)); exact BK210.out⟩, ⟨by repeat (first | (with_reducible first | exact HI201.out | apply IsS184.alloc | apply IsS184.drewN | apply IsS184.drew | apply IsS184.set_1 | refine IsS184.far ?_ NB201_198.out _ | refine IsS184.far ?_ NB201_210.out _) | exact HI201.out)⟩, ⟨by repeat (first | (with_reducible first | exact HB.out | apply below_alloc | apply pw_below_drewN | apply below_drew1 | refine below_set ?_ (IsS184.ge HI201.out) | refine below_set ?_ GE198.out | refine below_set ?_ GE210.out) | exact HB.out)⟩⟩
    · replace c15 := Bool.eq_false_iff.mpr c15
      subst c15
      have H1 : (spec_DrawExportAttrs.j0 k t199 t212 t202 t203 t206 t207 t208) = some (r1, r2, r3, r4, r5, r6, r7) := by rw [if_neg (show ¬ (false = true) by decide)] at H; exact H
      clear H
      have H := H1
      clear H1
      have H' := Aside0.mk H
      clear H
      go_wp2
      go_meet
      case rel => exact ⟨_, (t203), (.slice Ao13 t203.length co13), H', ⟨by first | omega | exact Nat.le_refl _⟩, ⟨by (with_reducible repeat (first | apply Kd.R_alloc | apply Kd.R_drewN | apply Kd.R_drew)); exact HO205.out⟩, ⟨by (with_reducible repeat (first | refine blk_drewN ?_ _ | refine blk_drew ?_ | refine blk_alloc ?_ _)); exact BK198.out⟩, ⟨by (with_reducible repeat (first | refine blk_drewN ?_ _ | refine blk_drew ?_ | refine blk_alloc ?_ _)); exact BK210.out⟩, ⟨by repeat (first | (with_reducible first | exact HI201.out | apply IsS184.alloc | apply IsS184.drewN | apply IsS184.drew | apply IsS184.set_1 | refine IsS184.far ?_ NB201_198.out _ | refine IsS184.far ?_ NB201_210.out _) | exact HI201.out)⟩, ⟨by repeat (first | (with_reducible first | exact HB.out | apply below_alloc | apply pw_below_drewN | apply below_drew1 | refine below_set ?_ (IsS184.ge HI201.out) | refine below_set ?_ GE198.out | refine below_set ?_ GE210.out) | exact HB.out)⟩⟩
  case rest =>
    clear HC5
    try clear c1
    try clear c2
    try clear p2
    try clear c6
    try clear c8
    try clear c10
    try clear c11
    try clear c12
    try clear c15
    try clear c19
    try clear c20
    try clear hcz12_0
    try clear hcz12_1
    try clear hcz12_2
    try clear hcz12_3
    try clear hcz12_4
    try clear hcz21_0
    try clear hcz21_1
    try clear hcz21_2
    try clear hcz21_3
    try clear hcz21_4
    try clear hfz12_0
    try clear hfz12_1
    try clear hfz12_2
    try clear hfz12_3
    try clear hfz12_4
    try clear hfz21_0
    try clear hfz21_1
    try clear hfz21_2
    try clear hfz21_3
    try clear hfz21_4
    obtain ⟨kq, x211001_4, u211001, HA, HJ4, HO_211001, BK198, BK210, HI201, HB⟩ := hcut
    cases kq with
    | zero => exact absurd HA.out (by simp [spec_DrawExportAttrs.j0])
    | succ kj4 =>
      have H := HA.out
      clear HA
      simp only [spec_DrawExportAttrs.j0] at H
      replace H := Option.bind_eq_some_iff.mp H
      obtain ⟨⟨t216, t217⟩, A220, H⟩ := H
      replace H : ((spec_l1Next.f t199 t217 5).bind fun bt218 => ((spec_l1Pick.f t199 bt218.2 (([wrap64 (1 + t216), wrap64 (1 + bt218.1), 0, 65536] : List Int))).bind fun bt223 => ((spec_l1Next.f t199 bt223.2 9).bind fun bt225 => ((spec_l1Next.f t199 bt225.2 9).bind fun bt227 => ((spec_l1Pick.f t199 bt227.2 (([bt225.1, bt227.1, (-1)] : List Int))).bind fun bt232 => (some (t202, x211001_4, t206, t207, t208, bt223.1, bt232.1))))))) = some (r1, r2, r3, r4, r5, r6, r7) := H
      have A22 := Aside0.mk A220
      clear A220
      replace H := Option.bind_eq_some_iff.mp H
      obtain ⟨⟨t218, t219⟩, A230, H⟩ := H
      replace H : ((spec_l1Pick.f t199 t219 (([wrap64 (1 + t216), wrap64 (1 + t218), 0, 65536] : List Int))).bind fun bt223 => ((spec_l1Next.f t199 bt223.2 9).bind fun bt225 => ((spec_l1Next.f t199 bt225.2 9).bind fun bt227 => ((spec_l1Pick.f t199 bt227.2 (([bt225.1, bt227.1, (-1)] : List Int))).bind fun bt232 => (some (t202, x211001_4, t206, t207, t208, bt223.1, bt232.1)))))) = some (r1, r2, r3, r4, r5, r6, r7) := H
      have A23 := Aside0.mk A230
      clear A230
      obtain ⟨y220, hy220⟩ : ∃ y_ : List Int, y_ = (([wrap64 (1 + t216), wrap64 (1 + t218), 0, 65536] : List Int)) := ⟨_, rfl⟩
      replace H : ((spec_l1Pick.f t199 t219 y220).bind fun bt223 => ((spec_l1Next.f t199 bt223.2 9).bind fun bt225 => ((spec_l1Next.f t199 bt225.2 9).bind fun bt227 => ((spec_l1Pick.f t199 bt227.2 (([bt225.1, bt227.1, (-1)] : List Int))).bind fun bt232 => (some (t202, x211001_4, t206, t207, t208, bt223.1, bt232.1)))))) = some (r1, r2, r3, r4, r5, r6, r7) := by first | (rw [hy220]; with_reducible exact H) | (have H2_ := (Option.bind_some _ _).symm.trans H; rw [hy220]; with_reducible exact H2_) | (have H2_ := (Option.bind_some _ _).symm.trans H; with_reducible exact H2_) | with_reducible exact H | (rw [hy220]; exact H) | exact H
      have Ny220 := Aside0.mk hy220
      clear hy220
      replace H := Option.bind_eq_some_iff.mp H
      obtain ⟨⟨t223, t224⟩, A240, H⟩ := H
      replace H : ((spec_l1Next.f t199 t224 9).bind fun bt225 => ((spec_l1Next.f t199 bt225.2 9).bind fun bt227 => ((spec_l1Pick.f t199 bt227.2 (([bt225.1, bt227.1, (-1)] : List Int))).bind fun bt232 => (some (t202, x211001_4, t206, t207, t208, t223, bt232.1))))) = some (r1, r2, r3, r4, r5, r6, r7) := H
      have A24 := Aside0.mk A240
      clear A240
      replace H := Option.bind_eq_some_iff.mp H
      obtain ⟨⟨t225, t226⟩, A250, H⟩ := H
      replace H : ((spec_l1Next.f t199 t226 9).bind fun bt227 => ((spec_l1Pick.f t199 bt227.2 (([t225, bt227.1, (-1)] : List Int))).bind fun bt232 => (some (t202, x211001_4, t206, t207, t208, t223, bt232.1)))) = some (r1, r2, r3, r4, r5, r6, r7) := H
      have A25 := Aside0.mk A250
      clear A250
      replace H := Option.bind_eq_some_iff.mp H
      obtain ⟨⟨t227, t228⟩, A260, H⟩ := H
      replace H : ((spec_l1Pick.f t199 t228 (([t225, t227, (-1)] : List Int))).bind fun bt232 => (some (t202, x211001_4, t206, t207, t208, t223, bt232.1))) = some (r1, r2, r3, r4, r5, r6, r7) := H
      have A26 := Aside0.mk A260
      clear A260
      obtain ⟨y229, hy229⟩ : ∃ y_ : List Int, y_ = (([t225, t227, (-1)] : List Int)) := ⟨_, rfl⟩
      replace H : ((spec_l1Pick.f t199 t228 y229).bind fun bt232 => (some (t202, x211001_4, t206, t207, t208, t223, bt232.1))) = some (r1, r2, r3, r4, r5, r6, r7) := by first | (rw [hy229]; with_reducible exact H) | (have H2_ := (Option.bind_some _ _).symm.trans H; rw [hy229]; with_reducible exact H2_) | (have H2_ := (Option.bind_some _ _).symm.trans H; with_reducible exact H2_) | with_reducible exact H | (rw [hy229]; exact H) | exact H
      have Ny229 := Aside0.mk hy229
      clear hy229
      replace H := Option.bind_eq_some_iff.mp H
      obtain ⟨⟨t232, t233⟩, A270, H⟩ := H
      replace H : (some (t202, x211001_4, t206, t207, t208, t223, t232)) = some (r1, r2, r3, r4, r5, r6, r7) := H
      have A27 := Aside0.mk A270
      clear A270
      simp only [Option.some.injEq, Prod.mk.injEq] at H
      obtain ⟨rfl, rfl, rfl, rfl, rfl, rfl, rfl⟩ := H
      try go_wp2
      have n0_ := Aside0.mk (Kd.R_drew HO_211001.out)
      have n1_ := Aside0.mk (blk_drew BK198.out)
      have n2_ := Aside0.mk (blk_drew BK210.out)
      have n3_ := Aside0.mk (IsS184.drew HI201.out)
      have n4_ := Aside0.mk (below_drew1 HB.out)
      clear HO_211001
      clear BK198
      clear BK210
      clear HI201
      clear HB
      have HO_211001 := n0_
      have BK198 := n1_
      have BK210 := n2_
      have HI201 := n3_
      have HB := n4_
      clear n0_ n1_ n2_ n3_ n4_
      refine start_ (n := 20) (S := fun w' => w'.cell? ⟨gb210, 0, none⟩ = some (.int .i64 t202) ∧ w'.cell? ⟨gb210, 1, none⟩ = some (u211001) ∧ w'.cell? ⟨gb210, 2, none⟩ = some (.int .i64 t206) ∧ w'.cell? ⟨gb210, 3, none⟩ = some (.int .i64 t207) ∧ w'.cell? ⟨gb210, 4, none⟩ = some (.int .i64 t208)) (ds := []) #[false, false, false, false, false, false, false, false, false, false, false, false, false, false, false, false, false, false, false, false] (by kernel_rfl) rfl rfl ⟨(blk_cell BK210.out 0).trans rfl, (blk_cell BK210.out 1).trans rfl, (blk_cell BK210.out 2).trans rfl, (blk_cell BK210.out 3).trans rfl, (blk_cell BK210.out 4).trans rfl⟩ (fun hHeld => ?_); refine with_tabW spec_DrawExportAttrs.tab5 spec_DrawExportAttrs.bits5 (fun HT_ HW_ => ?_)
      generalize wc.drew = w28 at HO_211001 BK198 BK210 HI201 HB hHeld ⊢
      refine pure_ (i := 1) (N := some 16) (v := ?_) (a' := ?_) #[false, true, false, false, false, false, false, false, false, false, false, false, false, false, false, false, false, false, false, false] rfl rfl (any_of HT_.out (by kernel_rfl)) (fun _ _ _ h => h) (Or.inl ⟨by rfl, ?_⟩) ?_ ?_
      rotate_left
      · intro w'
        go_simp
        (first | with_reducible rfl | (unfold Instr.field; go_simp; simp only [asAgg]; go_simp; with_reducible rfl))
      rotate_left
      · simp only [Act.put, List.setIfInBounds_toArray, List.set_cons_zero, List.set_cons_succ, i64_w, i32_w]
        rfl
      refine pure_ (i := 2) (N := some 17) (v := ?_) (a' := ?_) #[false, true, true, false, false, false, false, false, false, false, false, false, false, false, false, false, false, false, false, false] rfl rfl (any_of HT_.out (by kernel_rfl)) (fun _ _ _ h => h) (Or.inl ⟨by rfl, ?_⟩) ?_ ?_
      rotate_left
      · intro w'
        go_simp
        (first | with_reducible rfl | (unfold Instr.field; go_simp; simp only [asAgg]; go_simp; with_reducible rfl))
      rotate_left
      · simp only [Act.put, List.setIfInBounds_toArray, List.set_cons_zero, List.set_cons_succ, i64_w, i32_w]
        rfl
      refine pure_ (i := 5) (N := some 20) (v := ?_) (a' := ?_) #[false, true, true, false, false, true, false, false, false, false, false, false, false, false, false, false, false, false, false, false] rfl rfl (any_of HT_.out (by kernel_rfl)) (fun _ _ _ h => h) (Or.inl ⟨by rfl, ?_⟩) ?_ ?_
      rotate_left
      · intro w'
        go_simp
        (first | with_reducible rfl | (unfold Instr.field; go_simp; simp only [asAgg]; go_simp; with_reducible rfl))
      rotate_left
      · simp only [Act.put, List.setIfInBounds_toArray, List.set_cons_zero, List.set_cons_succ, i64_w, i32_w]
        rfl
      refine pure_ (i := 10) (N := some 25) (v := ?_) (a' := ?_) #[false, true, true, false, false, true, false, false, false, false, true, false, false, false, false, false, false, false, false, false] rfl rfl (any_of HT_.out (by kernel_rfl)) (fun _ _ _ h => h) (Or.inl ⟨by rfl, ?_⟩) ?_ ?_
      rotate_left
      · intro w'
        go_simp
        (first | with_reducible rfl | (unfold Instr.field; go_simp; simp only [asAgg]; go_simp; with_reducible rfl))
      rotate_left
      · simp only [Act.put, List.setIfInBounds_toArray, List.set_cons_zero, List.set_cons_succ, i64_w, i32_w]
        rfl
      refine pure_ (i := 11) (N := some 26) (v := ?_) (a' := ?_) #[false, true, true, false, false, true, false, false, false, false, true, true, false, false, false, false, false, false, false, false] rfl rfl (any_of HT_.out (by kernel_rfl)) (fun _ _ _ h => h) (Or.inl ⟨by rfl, ?_⟩) ?_ ?_
      rotate_left
      · intro w'
        go_simp
        (first | with_reducible rfl | (unfold Instr.field; go_simp; simp only [asAgg]; go_simp; with_reducible rfl))
      rotate_left
      · simp only [Act.put, List.setIfInBounds_toArray, List.set_cons_zero, List.set_cons_succ, i64_w, i32_w]
        rfl
      refine pure_ (i := 13) (N := some 28) (v := ?_) (a' := ?_) #[false, true, true, false, false, true, false, false, false, false, true, true, false, true, false, false, false, false, false, false] rfl rfl (any_of HT_.out (by kernel_rfl)) (fun _ _ _ h => h) (Or.inl ⟨by rfl, ?_⟩) ?_ ?_
      rotate_left
      · intro w'
        go_simp
        (first | with_reducible rfl | (unfold Instr.field; go_simp; simp only [asAgg]; go_simp; with_reducible rfl))
      rotate_left
      · simp only [Act.put, List.setIfInBounds_toArray, List.set_cons_zero, List.set_cons_succ, i64_w, i32_w]
        rfl
      refine take_ (i := 0) (N := some 15) (v := ?_) (a' := ?_) #[true, true, true, false, false, true, false, false, false, false, true, true, false, true, false, false, false, false, false, false] rfl rfl (take_ofW HT_.out HW_.out (by kernel_rfl)) (fun _ _ _ h => h) (Or.inl ⟨by rfl, ?_⟩) hHeld ?_ ?_
      rotate_left
      · rintro w' ⟨s0, s1, s2, s3, s4⟩
        go_simp
        with_reducible rfl
      rotate_left
      · simp only [Act.put, List.setIfInBounds_toArray, List.set_cons_zero, List.set_cons_succ, i64_w, i32_w]
        rfl
      refine one_ (i := 3) (N := some 18) #[true, true, true, true, false, true, false, false, false, false, true, true, false, true, false, false, false, false, false, false] rfl rfl (one_of HT_.out (by kernel_rfl)) (by decide) (fun K hK => ?_)
      refine goes_ Try.func87 (by kernel_rfl) rfl #[.pointer (some ⟨g201, 0, none⟩), .int .i64 5] (by rfl) rfl rfl (by (try simp only [List.map_toArray, List.map_cons, List.map_nil]); first | done | rfl | (simp only [List.length_drop, List.length_take]; rfl)) ?_
      with_reducible refine (spec_l1Next.calls g201 t199 t212 5 t216 t217 w _ ?side1 ?side2 A22.out).mono ?_
      (case side1 => repeat (first | (with_reducible first | exact HI201.out | apply IsS184.alloc | apply IsS184.drewN | apply IsS184.drew | apply IsS184.set_1 | refine IsS184.far ?_ NB201_198.out _ | refine IsS184.far ?_ NB201_210.out _) | exact HI201.out))
      (case side2 => repeat (first | (with_reducible first | exact HB.out | apply below_alloc | apply pw_below_drewN | apply below_drew1 | refine below_set ?_ (IsS184.ge HI201.out) | refine below_set ?_ GE198.out | refine below_set ?_ GE210.out) | exact HB.out))
      rintro e w29 ⟨rfl, hi, hb, hk⟩
      refine ⟨_, rfl, ?_⟩
      have n0_ := Aside0.mk (Kd.R_mono (Kd.R_keep (IsS184.apart (show IsS184 w _ g201 t199 t212 from by repeat (first | (with_reducible first | exact HI201.out | apply IsS184.alloc | apply IsS184.drewN | apply IsS184.drew | apply IsS184.set_1 | refine IsS184.far ?_ NB201_198.out _ | refine IsS184.far ?_ NB201_210.out _) | exact HI201.out)) (by (with_reducible repeat (first | apply Kd.R_alloc | apply Kd.R_drewN | apply Kd.R_drew)); exact HO_211001.out) (by decide)) hk (fun _ h => h.2)) (fun _ h => h.1))
      have n1_ := Aside0.mk (KeepBut.blk hk (g' := gb198) (o := .cells #[.int .i64 0, .slice none 0 0, .int .i64 0, .int .i64 0, .int .i64 0] 27 (0, 0)) (by (with_reducible repeat (first | refine blk_drewN ?_ _ | refine blk_drew ?_ | refine blk_alloc ?_ _)); exact BK198.out) NB198_201.out (by simp))
      have n2_ := Aside0.mk (KeepBut.blk hk (g' := gb210) (o := .cells #[.int .i64 t202, u211001, .int .i64 t206, .int .i64 t207, .int .i64 t208] 27 (0, 0)) (by (with_reducible repeat (first | refine blk_drewN ?_ _ | refine blk_drew ?_ | refine blk_alloc ?_ _)); exact BK210.out) NB210_201.out (by simp))
      have n3_ := Aside0.mk (hb)
      have n4_ := Aside0.mk (hi)
      clear HO_211001
      clear BK198
      clear BK210
      clear HB
      clear HI201
      have HO_211001 := n0_
      have BK198 := n1_
      have BK210 := n2_
      have HB := n3_
      have HI201 := n4_
      clear n0_ n1_ n2_ n3_ n4_
      (try clear hb)
      (try clear hb2)
      (try clear hk)
      (try clear hi)
      refine hK.out _ _ ⟨(blk_cell BK210.out 0).trans rfl, (blk_cell BK210.out 1).trans rfl, (blk_cell BK210.out 2).trans rfl, (blk_cell BK210.out 3).trans rfl, (blk_cell BK210.out 4).trans rfl⟩ (fun hHeld => ?_)
      clear hK K
      refine norm_ (a' := ?_) ?_ ?_
      rotate_left
      · show Act.put _ (some 18) _ = _
        simp only [Act.put, List.setIfInBounds_toArray, List.set_cons_zero, List.set_cons_succ, i64_w, i32_w]
        rfl
      refine pure_ (i := 4) (N := some 19) (v := ?_) (a' := ?_) #[true, true, true, true, true, true, false, false, false, false, true, true, false, true, false, false, false, false, false, false] rfl rfl (any_of HT_.out (by kernel_rfl)) (fun _ _ _ h => h) (Or.inl ⟨by rfl, ?_⟩) ?_ ?_
      rotate_left
      · intro w'
        go_simp
        (first | with_reducible rfl | (unfold Instr.field; go_simp; simp only [asAgg]; go_simp; with_reducible rfl))
      rotate_left
      · simp only [Act.put, List.setIfInBounds_toArray, List.set_cons_zero, List.set_cons_succ, i64_w, i32_w]
        rfl
      refine one_ (i := 6) (N := some 21) #[true, true, true, true, true, true, true, false, false, false, true, true, false, true, false, false, false, false, false, false] rfl rfl (one_of HT_.out (by kernel_rfl)) (by decide) (fun K hK => ?_)
      refine goes_ Try.func87 (by kernel_rfl) rfl #[.pointer (some ⟨g201, 0, none⟩), .int .i64 5] (by rfl) rfl rfl (by (try simp only [List.map_toArray, List.map_cons, List.map_nil]); first | done | rfl | (simp only [List.length_drop, List.length_take]; rfl)) ?_
      with_reducible refine (spec_l1Next.calls g201 t199 t217 5 t218 t219 w _ ?side1 ?side2 A23.out).mono ?_
      (case side1 => repeat (first | (with_reducible first | exact HI201.out | apply IsS184.alloc | apply IsS184.drewN | apply IsS184.drew | apply IsS184.set_1 | refine IsS184.far ?_ NB201_198.out _ | refine IsS184.far ?_ NB201_210.out _) | exact HI201.out))
      (case side2 => repeat (first | (with_reducible first | exact HB.out | apply below_alloc | apply pw_below_drewN | apply below_drew1 | refine below_set ?_ (IsS184.ge HI201.out) | refine below_set ?_ GE198.out | refine below_set ?_ GE210.out) | exact HB.out))
      rintro e w30 ⟨rfl, hi, hb, hk⟩
      refine ⟨_, rfl, ?_⟩
      have n0_ := Aside0.mk (Kd.R_mono (Kd.R_keep (IsS184.apart (show IsS184 w _ g201 t199 t217 from by repeat (first | (with_reducible first | exact HI201.out | apply IsS184.alloc | apply IsS184.drewN | apply IsS184.drew | apply IsS184.set_1 | refine IsS184.far ?_ NB201_198.out _ | refine IsS184.far ?_ NB201_210.out _) | exact HI201.out)) (by (with_reducible repeat (first | apply Kd.R_alloc | apply Kd.R_drewN | apply Kd.R_drew)); exact HO_211001.out) (by decide)) hk (fun _ h => h.2)) (fun _ h => h.1))
      have n1_ := Aside0.mk (KeepBut.blk hk (g' := gb198) (o := .cells #[.int .i64 0, .slice none 0 0, .int .i64 0, .int .i64 0, .int .i64 0] 27 (0, 0)) (by (with_reducible repeat (first | refine blk_drewN ?_ _ | refine blk_drew ?_ | refine blk_alloc ?_ _)); exact BK198.out) NB198_201.out (by simp))
      have n2_ := Aside0.mk (KeepBut.blk hk (g' := gb210) (o := .cells #[.int .i64 t202, u211001, .int .i64 t206, .int .i64 t207, .int .i64 t208] 27 (0, 0)) (by (with_reducible repeat (first | refine blk_drewN ?_ _ | refine blk_drew ?_ | refine blk_alloc ?_ _)); exact BK210.out) NB210_201.out (by simp))
      have n3_ := Aside0.mk (hb)
      have n4_ := Aside0.mk (hi)
      clear HO_211001
      clear BK198
      clear BK210
      clear HB
      clear HI201
      have HO_211001 := n0_
      have BK198 := n1_
      have BK210 := n2_
      have HB := n3_
      have HI201 := n4_
      clear n0_ n1_ n2_ n3_ n4_
      (try clear hb)
      (try clear hb2)
      (try clear hk)
      (try clear hi)
      refine hK.out _ _ ⟨(blk_cell BK210.out 0).trans rfl, (blk_cell BK210.out 1).trans rfl, (blk_cell BK210.out 2).trans rfl, (blk_cell BK210.out 3).trans rfl, (blk_cell BK210.out 4).trans rfl⟩ (fun hHeld => ?_)
      clear hK K
      refine norm_ (a' := ?_) ?_ ?_
      rotate_left
      · show Act.put _ (some 21) _ = _
        simp only [Act.put, List.setIfInBounds_toArray, List.set_cons_zero, List.set_cons_succ, i64_w, i32_w]
        rfl
      refine pure_ (i := 7) (N := some 22) (v := ?_) (a' := ?_) #[true, true, true, true, true, true, true, true, false, false, true, true, false, true, false, false, false, false, false, false] rfl rfl (any_of HT_.out (by kernel_rfl)) (fun _ _ _ h => h) (Or.inl ⟨by rfl, ?_⟩) ?_ ?_
      rotate_left
      · intro w'
        go_simp
        (first | with_reducible rfl | (unfold Instr.field; go_simp; simp only [asAgg]; go_simp; with_reducible rfl))
      rotate_left
      · simp only [Act.put, List.setIfInBounds_toArray, List.set_cons_zero, List.set_cons_succ, i64_w, i32_w]
        rfl
      refine one_ (i := 8) (N := some 23) #[true, true, true, true, true, true, true, true, true, false, true, true, false, true, false, false, false, false, false, false] rfl rfl (one_of HT_.out (by kernel_rfl)) (by decide) (fun K hK => ?_)
      refine Kd.R_lit_step (Kd.int .i64) _ 2 ?hg (N := 23) ?hd (xs := ([wrap64 (1 + t216), wrap64 (1 + t218), 0, 65536] : List Int)) (inner := [.int .i64 (wrap64 (1 + t216)), .int .i64 (wrap64 (1 + t218)), .int .i64 0, .int .i64 65536]) (ok := fun _ => True) (okp := fun _ => True) ?hr ?hp (fun _ hk => hk) trivial (Below.refl _ _) (Nat.le_refl _) (by simp) ?_; (case hd => rfl); (case hg => rfl); (case hr => first | (go_simp; done) | (go_simp; rfl)); (case hp => exact (Reps.one (show Kd.M (Kd.int .i64) _ _ _ (wrap64 (1 + t216)) [.int .i64 (wrap64 (1 + t216))] from rfl) (Reps.one (show Kd.M (Kd.int .i64) _ _ _ (wrap64 (1 + t218)) [.int .i64 (wrap64 (1 + t218))] from rfl) (Reps.one (show Kd.M (Kd.int .i64) _ _ _ 0 [.int .i64 0] from rfl) (Reps.one (show Kd.M (Kd.int .i64) _ _ _ 65536 [.int .i64 65536] from rfl) (Reps.none _ _))))))
      intro v221 w31 ho32 hb hg_ hnew_
      clear hg_ hnew_
      (first | rw [← Ny220.out] at ho32 | (simp only [Int.reduceToNat] at ho32; rw [← Ny220.out] at ho32))
      have n0_ := Aside0.mk (Kd.R_elder' (by (with_reducible repeat (first | apply Kd.R_alloc | apply Kd.R_drewN | apply Kd.R_drew)); exact HO_211001.out) (Kd.R_base ho32) hb)
      have n1_ := Aside0.mk (Kd.R_lower (Kd.R_new' ho32 (Kd.R_lt (by (with_reducible repeat (first | apply Kd.R_alloc | apply Kd.R_drewN | apply Kd.R_drew)); exact HO_211001.out))) (below_size (by repeat (first | (with_reducible first | exact HB.out | apply below_alloc | apply pw_below_drewN | apply below_drew1 | refine below_set ?_ (IsS184.ge HI201.out) | refine below_set ?_ GE198.out | refine below_set ?_ GE210.out) | exact HB.out))))
      have n2_ := Aside0.mk (blk_below (g := gb198) (o := .cells #[.int .i64 0, .slice none 0 0, .int .i64 0, .int .i64 0, .int .i64 0] 27 (0, 0)) (by (with_reducible repeat (first | refine blk_drewN ?_ _ | refine blk_drew ?_ | refine blk_alloc ?_ _)); exact BK198.out) hb)
      have n3_ := Aside0.mk (blk_below (g := gb210) (o := .cells #[.int .i64 t202, u211001, .int .i64 t206, .int .i64 t207, .int .i64 t208] 27 (0, 0)) (by (with_reducible repeat (first | refine blk_drewN ?_ _ | refine blk_drew ?_ | refine blk_alloc ?_ _)); exact BK210.out) hb)
      have n4_ := Aside0.mk (IsS184.below (by repeat (first | (with_reducible first | exact HI201.out | apply IsS184.alloc | apply IsS184.drewN | apply IsS184.drew | apply IsS184.set_1 | refine IsS184.far ?_ NB201_198.out _ | refine IsS184.far ?_ NB201_210.out _) | exact HI201.out)) hb)
      have n5_ := Aside0.mk (below_step (by repeat (first | (with_reducible first | exact HB.out | apply below_alloc | apply pw_below_drewN | apply below_drew1 | refine below_set ?_ (IsS184.ge HI201.out) | refine below_set ?_ GE198.out | refine below_set ?_ GE210.out) | exact HB.out)) hb)
      clear HO_211001
      clear BK198
      clear BK210
      clear HI201
      clear HB
      have HO_211001 := n0_
      have HO222 := n1_
      have BK198 := n2_
      have BK210 := n3_
      have HI201 := n4_
      have HB := n5_
      clear n0_ n1_ n2_ n3_ n4_ n5_
      clear hb ho32
      obtain ⟨Ao33, co33, eo33⟩ := Kd.R_slice HO222.out
      (first | subst eo33 | (injection eo33 with f1_ f2_ f3_; have f4_ := f1_.symm; have f5_ := f3_.symm; clear f1_ f2_ f3_; subst f4_; subst f5_))
      refine hK.out _ _ ⟨(blk_cell BK210.out 0).trans rfl, (blk_cell BK210.out 1).trans rfl, (blk_cell BK210.out 2).trans rfl, (blk_cell BK210.out 3).trans rfl, (blk_cell BK210.out 4).trans rfl⟩ (fun hHeld => ?_)
      clear hK K
      refine norm_ (a' := ?_) ?_ ?_
      rotate_left
      · show Act.put _ (some 23) _ = _
        simp only [Act.put, List.setIfInBounds_toArray, List.set_cons_zero, List.set_cons_succ, i64_w, i32_w]
        rfl
      refine one_ (i := 9) (N := some 24) #[true, true, true, true, true, true, true, true, true, true, true, true, false, true, false, false, false, false, false, false] rfl rfl (one_of HT_.out (by kernel_rfl)) (by decide) (fun K hK => ?_)
      refine goes_ Try.func127 (by kernel_rfl) rfl #[.pointer (some ⟨g201, 0, none⟩), .slice Ao33 y220.length co33] (by rfl) rfl rfl (by (try simp only [List.map_toArray, List.map_cons, List.map_nil]); first | done | rfl | (simp only [List.length_drop, List.length_take]; rfl)) ?_
      with_reducible refine (spec_l1Pick.calls g201 t199 t219 _ _ y220 t223 t224 w _ ?side1 ?side2 ?side3 ?side4 ?side5 A24.out).mono ?_
      (case side1 => repeat (first | (with_reducible first | exact HI201.out | apply IsS184.alloc | apply IsS184.drewN | apply IsS184.drew | apply IsS184.set_1 | refine IsS184.far ?_ NB201_198.out _ | refine IsS184.far ?_ NB201_210.out _) | exact HI201.out))
      (case side2 => repeat (first | (with_reducible first | exact HB.out | apply below_alloc | apply pw_below_drewN | apply below_drew1 | refine below_set ?_ (IsS184.ge HI201.out) | refine below_set ?_ GE198.out | refine below_set ?_ GE210.out) | exact HB.out))
      (case side3 => repeat (first | exact (Kd.R_reads' HO222.out).2.2 | (with_reducible refine Kd.C_alloc ?_ _) | (with_reducible refine Kd.C_drewN ?_ _) | (with_reducible refine Kd.C_drew ?_)))
      (case side4 => exact (Kd.R_reads' HO222.out).2.1)
      (case side5 => exact far_slice (IsS184.own_ne HI201.out HO222.out (by decide)))
      rintro e w34 ⟨rfl, hi, hb, hk⟩
      refine ⟨_, rfl, ?_⟩
      have n0_ := Aside0.mk (Kd.R_mono (Kd.R_keep (IsS184.apart (show IsS184 w _ g201 t199 t219 from by repeat (first | (with_reducible first | exact HI201.out | apply IsS184.alloc | apply IsS184.drewN | apply IsS184.drew | apply IsS184.set_1 | refine IsS184.far ?_ NB201_198.out _ | refine IsS184.far ?_ NB201_210.out _) | exact HI201.out)) (by (with_reducible repeat (first | apply Kd.R_alloc | apply Kd.R_drewN | apply Kd.R_drew)); exact HO_211001.out) (by decide)) hk (fun _ h => h.2)) (fun _ h => h.1))
      have n1_ := Aside0.mk (KeepBut.blk hk (g' := gb198) (o := .cells #[.int .i64 0, .slice none 0 0, .int .i64 0, .int .i64 0, .int .i64 0] 27 (0, 0)) (by (with_reducible repeat (first | refine blk_drewN ?_ _ | refine blk_drew ?_ | refine blk_alloc ?_ _)); exact BK198.out) NB198_201.out (by simp))
      have n2_ := Aside0.mk (KeepBut.blk hk (g' := gb210) (o := .cells #[.int .i64 t202, u211001, .int .i64 t206, .int .i64 t207, .int .i64 t208] 27 (0, 0)) (by (with_reducible repeat (first | refine blk_drewN ?_ _ | refine blk_drew ?_ | refine blk_alloc ?_ _)); exact BK210.out) NB210_201.out (by simp))
      have n3_ := Aside0.mk (Kd.R_mono (Kd.R_keep (IsS184.apart (show IsS184 w _ g201 t199 t219 from by repeat (first | (with_reducible first | exact HI201.out | apply IsS184.alloc | apply IsS184.drewN | apply IsS184.drew | apply IsS184.set_1 | refine IsS184.far ?_ NB201_198.out _ | refine IsS184.far ?_ NB201_210.out _) | exact HI201.out)) (by (with_reducible repeat (first | apply Kd.R_alloc | apply Kd.R_drewN | apply Kd.R_drew)); exact HO222.out) (by decide)) hk (fun _ h => h.2)) (fun _ h => h.1))
      have n4_ := Aside0.mk (hb)
      have n5_ := Aside0.mk (hi)
      clear HO_211001
      clear BK198
      clear BK210
      clear HO222
      clear HB
      clear HI201
      have HO_211001 := n0_
      have BK198 := n1_
      have BK210 := n2_
      have HO222 := n3_
      have HB := n4_
      have HI201 := n5_
      clear n0_ n1_ n2_ n3_ n4_ n5_
      (try clear hb)
      (try clear hb2)
      (try clear hk)
      (try clear hi)
      refine hK.out _ _ ⟨(blk_cell BK210.out 0).trans rfl, (blk_cell BK210.out 1).trans rfl, (blk_cell BK210.out 2).trans rfl, (blk_cell BK210.out 3).trans rfl, (blk_cell BK210.out 4).trans rfl⟩ (fun hHeld => ?_)
      clear hK K
      refine norm_ (a' := ?_) ?_ ?_
      rotate_left
      · show Act.put _ (some 24) _ = _
        simp only [Act.put, List.setIfInBounds_toArray, List.set_cons_zero, List.set_cons_succ, i64_w, i32_w]
        rfl
      refine one_ (i := 12) (N := some 27) #[true, true, true, true, true, true, true, true, true, true, true, true, true, true, false, false, false, false, false, false] rfl rfl (one_of HT_.out (by kernel_rfl)) (by decide) (fun K hK => ?_)
      refine goes_ Try.func87 (by kernel_rfl) rfl #[.pointer (some ⟨g201, 0, none⟩), .int .i64 9] (by rfl) rfl rfl (by (try simp only [List.map_toArray, List.map_cons, List.map_nil]); first | done | rfl | (simp only [List.length_drop, List.length_take]; rfl)) ?_
      with_reducible refine (spec_l1Next.calls g201 t199 t224 9 t225 t226 w _ ?side1 ?side2 A25.out).mono ?_
      (case side1 => repeat (first | (with_reducible first | exact HI201.out | apply IsS184.alloc | apply IsS184.drewN | apply IsS184.drew | apply IsS184.set_1 | refine IsS184.far ?_ NB201_198.out _ | refine IsS184.far ?_ NB201_210.out _) | exact HI201.out))
      (case side2 => repeat (first | (with_reducible first | exact HB.out | apply below_alloc | apply pw_below_drewN | apply below_drew1 | refine below_set ?_ (IsS184.ge HI201.out) | refine below_set ?_ GE198.out | refine below_set ?_ GE210.out) | exact HB.out))
      rintro e w35 ⟨rfl, hi, hb, hk⟩
      refine ⟨_, rfl, ?_⟩
      have n0_ := Aside0.mk (Kd.R_mono (Kd.R_keep (IsS184.apart (show IsS184 w _ g201 t199 t224 from by repeat (first | (with_reducible first | exact HI201.out | apply IsS184.alloc | apply IsS184.drewN | apply IsS184.drew | apply IsS184.set_1 | refine IsS184.far ?_ NB201_198.out _ | refine IsS184.far ?_ NB201_210.out _) | exact HI201.out)) (by (with_reducible repeat (first | apply Kd.R_alloc | apply Kd.R_drewN | apply Kd.R_drew)); exact HO_211001.out) (by decide)) hk (fun _ h => h.2)) (fun _ h => h.1))
      have n1_ := Aside0.mk (KeepBut.blk hk (g' := gb198) (o := .cells #[.int .i64 0, .slice none 0 0, .int .i64 0, .int .i64 0, .int .i64 0] 27 (0, 0)) (by (with_reducible repeat (first | refine blk_drewN ?_ _ | refine blk_drew ?_ | refine blk_alloc ?_ _)); exact BK198.out) NB198_201.out (by simp))
      have n2_ := Aside0.mk (KeepBut.blk hk (g' := gb210) (o := .cells #[.int .i64 t202, u211001, .int .i64 t206, .int .i64 t207, .int .i64 t208] 27 (0, 0)) (by (with_reducible repeat (first | refine blk_drewN ?_ _ | refine blk_drew ?_ | refine blk_alloc ?_ _)); exact BK210.out) NB210_201.out (by simp))
      have n3_ := Aside0.mk (Kd.R_mono (Kd.R_keep (IsS184.apart (show IsS184 w _ g201 t199 t224 from by repeat (first | (with_reducible first | exact HI201.out | apply IsS184.alloc | apply IsS184.drewN | apply IsS184.drew | apply IsS184.set_1 | refine IsS184.far ?_ NB201_198.out _ | refine IsS184.far ?_ NB201_210.out _) | exact HI201.out)) (by (with_reducible repeat (first | apply Kd.R_alloc | apply Kd.R_drewN | apply Kd.R_drew)); exact HO222.out) (by decide)) hk (fun _ h => h.2)) (fun _ h => h.1))
      have n4_ := Aside0.mk (hb)
      have n5_ := Aside0.mk (hi)
      clear HO_211001
      clear BK198
      clear BK210
      clear HO222
      clear HB
      clear HI201
      have HO_211001 := n0_
      have BK198 := n1_
      have BK210 := n2_
      have HO222 := n3_
      have HB := n4_
      have HI201 := n5_
      clear n0_ n1_ n2_ n3_ n4_ n5_
      (try clear hb)
      (try clear hb2)
      (try clear hk)
      (try clear hi)
      refine hK.out _ _ ⟨(blk_cell BK210.out 0).trans rfl, (blk_cell BK210.out 1).trans rfl, (blk_cell BK210.out 2).trans rfl, (blk_cell BK210.out 3).trans rfl, (blk_cell BK210.out 4).trans rfl⟩ (fun hHeld => ?_)
      clear hK K
      refine norm_ (a' := ?_) ?_ ?_
      rotate_left
      · show Act.put _ (some 27) _ = _
        simp only [Act.put, List.setIfInBounds_toArray, List.set_cons_zero, List.set_cons_succ, i64_w, i32_w]
        rfl
      refine one_ (i := 14) (N := some 29) #[true, true, true, true, true, true, true, true, true, true, true, true, true, true, true, false, false, false, false, false] rfl rfl (one_of HT_.out (by kernel_rfl)) (by decide) (fun K hK => ?_)
      refine goes_ Try.func87 (by kernel_rfl) rfl #[.pointer (some ⟨g201, 0, none⟩), .int .i64 9] (by rfl) rfl rfl (by (try simp only [List.map_toArray, List.map_cons, List.map_nil]); first | done | rfl | (simp only [List.length_drop, List.length_take]; rfl)) ?_
      with_reducible refine (spec_l1Next.calls g201 t199 t226 9 t227 t228 w _ ?side1 ?side2 A26.out).mono ?_
      (case side1 => repeat (first | (with_reducible first | exact HI201.out | apply IsS184.alloc | apply IsS184.drewN | apply IsS184.drew | apply IsS184.set_1 | refine IsS184.far ?_ NB201_198.out _ | refine IsS184.far ?_ NB201_210.out _) | exact HI201.out))
      (case side2 => repeat (first | (with_reducible first | exact HB.out | apply below_alloc | apply pw_below_drewN | apply below_drew1 | refine below_set ?_ (IsS184.ge HI201.out) | refine below_set ?_ GE198.out | refine below_set ?_ GE210.out) | exact HB.out))
      rintro e w36 ⟨rfl, hi, hb, hk⟩
      refine ⟨_, rfl, ?_⟩
      have n0_ := Aside0.mk (Kd.R_mono (Kd.R_keep (IsS184.apart (show IsS184 w _ g201 t199 t226 from by repeat (first | (with_reducible first | exact HI201.out | apply IsS184.alloc | apply IsS184.drewN | apply IsS184.drew | apply IsS184.set_1 | refine IsS184.far ?_ NB201_198.out _ | refine IsS184.far ?_ NB201_210.out _) | exact HI201.out)) (by (with_reducible repeat (first | apply Kd.R_alloc | apply Kd.R_drewN | apply Kd.R_drew)); exact HO_211001.out) (by decide)) hk (fun _ h => h.2)) (fun _ h => h.1))
      have n1_ := Aside0.mk (KeepBut.blk hk (g' := gb198) (o := .cells #[.int .i64 0, .slice none 0 0, .int .i64 0, .int .i64 0, .int .i64 0] 27 (0, 0)) (by (with_reducible repeat (first | refine blk_drewN ?_ _ | refine blk_drew ?_ | refine blk_alloc ?_ _)); exact BK198.out) NB198_201.out (by simp))
      have n2_ := Aside0.mk (KeepBut.blk hk (g' := gb210) (o := .cells #[.int .i64 t202, u211001, .int .i64 t206, .int .i64 t207, .int .i64 t208] 27 (0, 0)) (by (with_reducible repeat (first | refine blk_drewN ?_ _ | refine blk_drew ?_ | refine blk_alloc ?_ _)); exact BK210.out) NB210_201.out (by simp))
      have n3_ := Aside0.mk (Kd.R_mono (Kd.R_keep (IsS184.apart (show IsS184 w _ g201 t199 t226 from by repeat (first | (with_reducible first | exact HI201.out | apply IsS184.alloc | apply IsS184.drewN | apply IsS184.drew | apply IsS184.set_1 | refine IsS184.far ?_ NB201_198.out _ | refine IsS184.far ?_ NB201_210.out _) | exact HI201.out)) (by (with_reducible repeat (first | apply Kd.R_alloc | apply Kd.R_drewN | apply Kd.R_drew)); exact HO222.out) (by decide)) hk (fun _ h => h.2)) (fun _ h => h.1))
      have n4_ := Aside0.mk (hb)
      have n5_ := Aside0.mk (hi)
      clear HO_211001
      clear BK198
      clear BK210
      clear HO222
      clear HB
      clear HI201
      have HO_211001 := n0_
      have BK198 := n1_
      have BK210 := n2_
      have HO222 := n3_
      have HB := n4_
      have HI201 := n5_
      clear n0_ n1_ n2_ n3_ n4_ n5_
      (try clear hb)
      (try clear hb2)
      (try clear hk)
      (try clear hi)
      refine hK.out _ _ ⟨(blk_cell BK210.out 0).trans rfl, (blk_cell BK210.out 1).trans rfl, (blk_cell BK210.out 2).trans rfl, (blk_cell BK210.out 3).trans rfl, (blk_cell BK210.out 4).trans rfl⟩ (fun hHeld => ?_)
      clear hK K
      refine norm_ (a' := ?_) ?_ ?_
      rotate_left
      · show Act.put _ (some 29) _ = _
        simp only [Act.put, List.setIfInBounds_toArray, List.set_cons_zero, List.set_cons_succ, i64_w, i32_w]
        rfl
      refine one_ (i := 15) (N := some 30) #[true, true, true, true, true, true, true, true, true, true, true, true, true, true, true, true, false, false, false, false] rfl rfl (one_of HT_.out (by kernel_rfl)) (by decide) (fun K hK => ?_)
      refine Kd.R_lit_step (Kd.int .i64) _ 2 ?hg (N := 30) ?hd (xs := ([t225, t227, (-1)] : List Int)) (inner := [.int .i64 t225, .int .i64 t227, .int .i64 (-1)]) (ok := fun _ => True) (okp := fun _ => True) ?hr ?hp (fun _ hk => hk) trivial (Below.refl _ _) (Nat.le_refl _) (by simp) ?_; (case hd => rfl); (case hg => rfl); (case hr => first | (go_simp; done) | (go_simp; rfl)); (case hp => exact (Reps.one (show Kd.M (Kd.int .i64) _ _ _ t225 [.int .i64 t225] from rfl) (Reps.one (show Kd.M (Kd.int .i64) _ _ _ t227 [.int .i64 t227] from rfl) (Reps.one (show Kd.M (Kd.int .i64) _ _ _ (-1) [.int .i64 (-1)] from rfl) (Reps.none _ _)))))
      intro v230 w37 ho38 hb hg_ hnew_
      clear hg_ hnew_
      (first | rw [← Ny229.out] at ho38 | (simp only [Int.reduceToNat] at ho38; rw [← Ny229.out] at ho38))
      have n0_ := Aside0.mk (Kd.R_elder' (by (with_reducible repeat (first | apply Kd.R_alloc | apply Kd.R_drewN | apply Kd.R_drew)); exact HO_211001.out) (Kd.R_base ho38) hb)
      have n1_ := Aside0.mk (Kd.R_elder' (by (with_reducible repeat (first | apply Kd.R_alloc | apply Kd.R_drewN | apply Kd.R_drew)); exact HO222.out) (Kd.R_base ho38) hb)
      have n2_ := Aside0.mk (Kd.R_lower (Kd.R_new' (Kd.R_new' ho38 (Kd.R_lt (by (with_reducible repeat (first | apply Kd.R_alloc | apply Kd.R_drewN | apply Kd.R_drew)); exact HO_211001.out))) (Kd.R_lt (by (with_reducible repeat (first | apply Kd.R_alloc | apply Kd.R_drewN | apply Kd.R_drew)); exact HO222.out))) (below_size (by repeat (first | (with_reducible first | exact HB.out | apply below_alloc | apply pw_below_drewN | apply below_drew1 | refine below_set ?_ (IsS184.ge HI201.out) | refine below_set ?_ GE198.out | refine below_set ?_ GE210.out) | exact HB.out))))
      have n3_ := Aside0.mk (blk_below (g := gb198) (o := .cells #[.int .i64 0, .slice none 0 0, .int .i64 0, .int .i64 0, .int .i64 0] 27 (0, 0)) (by (with_reducible repeat (first | refine blk_drewN ?_ _ | refine blk_drew ?_ | refine blk_alloc ?_ _)); exact BK198.out) hb)
      have n4_ := Aside0.mk (blk_below (g := gb210) (o := .cells #[.int .i64 t202, u211001, .int .i64 t206, .int .i64 t207, .int .i64 t208] 27 (0, 0)) (by (with_reducible repeat (first | refine blk_drewN ?_ _ | refine blk_drew ?_ | refine blk_alloc ?_ _)); exact BK210.out) hb)
      have n5_ := Aside0.mk (IsS184.below (by repeat (first | (with_reducible first | exact HI201.out | apply IsS184.alloc | apply IsS184.drewN | apply IsS184.drew | apply IsS184.set_1 | refine IsS184.far ?_ NB201_198.out _ | refine IsS184.far ?_ NB201_210.out _) | exact HI201.out)) hb)
      have n6_ := Aside0.mk (below_step (by repeat (first | (with_reducible first | exact HB.out | apply below_alloc | apply pw_below_drewN | apply below_drew1 | refine below_set ?_ (IsS184.ge HI201.out) | refine below_set ?_ GE198.out | refine below_set ?_ GE210.out) | exact HB.out)) hb)
      clear HO_211001
      clear HO222
      clear BK198
      clear BK210
      clear HI201
      clear HB
      have HO_211001 := n0_
      have HO222 := n1_
      have HO231 := n2_
      have BK198 := n3_
      have BK210 := n4_
      have HI201 := n5_
      have HB := n6_
      clear n0_ n1_ n2_ n3_ n4_ n5_ n6_
      clear hb ho38
      obtain ⟨Ao39, co39, eo39⟩ := Kd.R_slice HO231.out
      (first | subst eo39 | (injection eo39 with f1_ f2_ f3_; have f4_ := f1_.symm; have f5_ := f3_.symm; clear f1_ f2_ f3_; subst f4_; subst f5_))
      refine hK.out _ _ ⟨(blk_cell BK210.out 0).trans rfl, (blk_cell BK210.out 1).trans rfl, (blk_cell BK210.out 2).trans rfl, (blk_cell BK210.out 3).trans rfl, (blk_cell BK210.out 4).trans rfl⟩ (fun hHeld => ?_)
      clear hK K
      refine norm_ (a' := ?_) ?_ ?_
      rotate_left
      · show Act.put _ (some 30) _ = _
        simp only [Act.put, List.setIfInBounds_toArray, List.set_cons_zero, List.set_cons_succ, i64_w, i32_w]
        rfl
      refine one_ (i := 16) (N := some 31) #[true, true, true, true, true, true, true, true, true, true, true, true, true, true, true, true, true, false, false, false] rfl rfl (one_of HT_.out (by kernel_rfl)) (by decide) (fun K hK => ?_)
      refine goes_ Try.func127 (by kernel_rfl) rfl #[.pointer (some ⟨g201, 0, none⟩), .slice Ao39 y229.length co39] (by rfl) rfl rfl (by (try simp only [List.map_toArray, List.map_cons, List.map_nil]); first | done | rfl | (simp only [List.length_drop, List.length_take]; rfl)) ?_
      with_reducible refine (spec_l1Pick.calls g201 t199 t228 _ _ y229 t232 t233 w _ ?side1 ?side2 ?side3 ?side4 ?side5 A27.out).mono ?_
      (case side1 => repeat (first | (with_reducible first | exact HI201.out | apply IsS184.alloc | apply IsS184.drewN | apply IsS184.drew | apply IsS184.set_1 | refine IsS184.far ?_ NB201_198.out _ | refine IsS184.far ?_ NB201_210.out _) | exact HI201.out))
      (case side2 => repeat (first | (with_reducible first | exact HB.out | apply below_alloc | apply pw_below_drewN | apply below_drew1 | refine below_set ?_ (IsS184.ge HI201.out) | refine below_set ?_ GE198.out | refine below_set ?_ GE210.out) | exact HB.out))
      (case side3 => repeat (first | exact (Kd.R_reads' HO231.out).2.2 | (with_reducible refine Kd.C_alloc ?_ _) | (with_reducible refine Kd.C_drewN ?_ _) | (with_reducible refine Kd.C_drew ?_)))
      (case side4 => exact (Kd.R_reads' HO231.out).2.1)
      (case side5 => exact far_slice (IsS184.own_ne HI201.out HO231.out (by decide)))
      rintro e w40 ⟨rfl, hi, hb, hk⟩
      refine ⟨_, rfl, ?_⟩
      have n0_ := Aside0.mk (Kd.R_mono (Kd.R_keep (IsS184.apart (show IsS184 w _ g201 t199 t228 from by repeat (first | (with_reducible first | exact HI201.out | apply IsS184.alloc | apply IsS184.drewN | apply IsS184.drew | apply IsS184.set_1 | refine IsS184.far ?_ NB201_198.out _ | refine IsS184.far ?_ NB201_210.out _) | exact HI201.out)) (by (with_reducible repeat (first | apply Kd.R_alloc | apply Kd.R_drewN | apply Kd.R_drew)); exact HO_211001.out) (by decide)) hk (fun _ h => h.2)) (fun _ h => h.1))
      have n1_ := Aside0.mk (KeepBut.blk hk (g' := gb198) (o := .cells #[.int .i64 0, .slice none 0 0, .int .i64 0, .int .i64 0, .int .i64 0] 27 (0, 0)) (by (with_reducible repeat (first | refine blk_drewN ?_ _ | refine blk_drew ?_ | refine blk_alloc ?_ _)); exact BK198.out) NB198_201.out (by simp))
      have n2_ := Aside0.mk (KeepBut.blk hk (g' := gb210) (o := .cells #[.int .i64 t202, u211001, .int .i64 t206, .int .i64 t207, .int .i64 t208] 27 (0, 0)) (by (with_reducible repeat (first | refine blk_drewN ?_ _ | refine blk_drew ?_ | refine blk_alloc ?_ _)); exact BK210.out) NB210_201.out (by simp))
      have n3_ := Aside0.mk (Kd.R_mono (Kd.R_keep (IsS184.apart (show IsS184 w _ g201 t199 t228 from by repeat (first | (with_reducible first | exact HI201.out | apply IsS184.alloc | apply IsS184.drewN | apply IsS184.drew | apply IsS184.set_1 | refine IsS184.far ?_ NB201_198.out _ | refine IsS184.far ?_ NB201_210.out _) | exact HI201.out)) (by (with_reducible repeat (first | apply Kd.R_alloc | apply Kd.R_drewN | apply Kd.R_drew)); exact HO222.out) (by decide)) hk (fun _ h => h.2)) (fun _ h => h.1))
      have n4_ := Aside0.mk (Kd.R_mono (Kd.R_keep (IsS184.apart (show IsS184 w _ g201 t199 t228 from by repeat (first | (with_reducible first | exact HI201.out | apply IsS184.alloc | apply IsS184.drewN | apply IsS184.drew | apply IsS184.set_1 | refine IsS184.far ?_ NB201_198.out _ | refine IsS184.far ?_ NB201_210.out _) | exact HI201.out)) (by (with_reducible repeat (first | apply Kd.R_alloc | apply Kd.R_drewN | apply Kd.R_drew)); exact HO231.out) (by decide)) hk (fun _ h => h.2)) (fun _ h => h.1))
      have n5_ := Aside0.mk (hb)
      have n6_ := Aside0.mk (hi)
      clear HO_211001
      clear BK198
      clear BK210
      clear HO222
      clear HO231
      clear HB
      clear HI201
      have HO_211001 := n0_
      have BK198 := n1_
      have BK210 := n2_
      have HO222 := n3_
      have HO231 := n4_
      have HB := n5_
      have HI201 := n6_
      clear n0_ n1_ n2_ n3_ n4_ n5_ n6_
      (try clear hb)
      (try clear hb2)
      (try clear hk)
      (try clear hi)
      obtain ⟨Ao42, co42, eo42⟩ := Kd.R_slice HO_211001.out
      (first | subst eo42 | (injection eo42 with f1_ f2_ f3_; have f4_ := f1_.symm; have f5_ := f3_.symm; clear f1_ f2_ f3_; subst f4_; subst f5_))
      refine hK.out _ _ ⟨(blk_cell BK210.out 0).trans rfl, (blk_cell BK210.out 1).trans rfl, (blk_cell BK210.out 2).trans rfl, (blk_cell BK210.out 3).trans rfl, (blk_cell BK210.out 4).trans rfl⟩ (fun hHeld => ?_)
      clear hK K
      refine norm_ (a' := ?_) ?_ ?_
      rotate_left
      · show Act.put _ (some 31) _ = _
        simp only [Act.put, List.setIfInBounds_toArray, List.set_cons_zero, List.set_cons_succ, i64_w, i32_w]
        rfl
      refine one_ (i := 17) (N := none) #[true, true, true, true, true, true, true, true, true, true, true, true, true, true, true, true, true, true, false, false] rfl rfl (one_of HT_.out (by kernel_rfl)) (by decide) (fun K hK => ?_)
      have hs41 : w40.cell? ⟨gb198, 0, none⟩ = some (.int .i64 0) := (blk_cell BK198.out 0).trans rfl
      have hfs41 := blk_frozen BK198.out 0
      have hns41_1 := NB210_198.out
      have hms41_1 := NB198_210.out
      have hs43 : w40.cell? ⟨gb198, 1, none⟩ = some (.slice none 0 0) := (blk_cell BK198.out 1).trans rfl
      have hfs43 := blk_frozen BK198.out 1
      have hns43_1 := NB210_198.out
      have hms43_1 := NB198_210.out
      have hs44 : w40.cell? ⟨gb198, 2, none⟩ = some (.int .i64 0) := (blk_cell BK198.out 2).trans rfl
      have hfs44 := blk_frozen BK198.out 2
      have hns44_1 := NB210_198.out
      have hms44_1 := NB198_210.out
      have hs45 : w40.cell? ⟨gb198, 3, none⟩ = some (.int .i64 0) := (blk_cell BK198.out 3).trans rfl
      have hfs45 := blk_frozen BK198.out 3
      have hns45_1 := NB210_198.out
      have hms45_1 := NB198_210.out
      have hs46 : w40.cell? ⟨gb198, 4, none⟩ = some (.int .i64 0) := (blk_cell BK198.out 4).trans rfl
      have hfs46 := blk_frozen BK198.out 4
      have hns46_1 := NB210_198.out
      have hms46_1 := NB198_210.out
      refine skip_ (w1 := ?_) (by rfl) rfl ?_ ?_
      rotate_left
      · go_simp
        rfl
      refine hK.out _ _ ⟨((cell_far (p := ⟨gb198, _, none⟩) NB210_198.out _).trans (((cell_far (p := ⟨gb198, _, none⟩) NB210_198.out _).trans (((cell_far (p := ⟨gb198, _, none⟩) NB210_198.out _).trans (((cell_far (p := ⟨gb198, _, none⟩) NB210_198.out _).trans (((cell_far (p := ⟨gb198, _, none⟩) NB210_198.out _).trans (hHeld.1)))))))))), ((cell_far (p := ⟨gb198, _, none⟩) NB210_198.out _).trans (((cell_far (p := ⟨gb198, _, none⟩) NB210_198.out _).trans (((cell_far (p := ⟨gb198, _, none⟩) NB210_198.out _).trans (((cell_far (p := ⟨gb198, _, none⟩) NB210_198.out _).trans (((cell_far (p := ⟨gb198, _, none⟩) NB210_198.out _).trans (hHeld.2.1)))))))))), ((cell_far (p := ⟨gb198, _, none⟩) NB210_198.out _).trans (((cell_far (p := ⟨gb198, _, none⟩) NB210_198.out _).trans (((cell_far (p := ⟨gb198, _, none⟩) NB210_198.out _).trans (((cell_far (p := ⟨gb198, _, none⟩) NB210_198.out _).trans (((cell_far (p := ⟨gb198, _, none⟩) NB210_198.out _).trans (hHeld.2.2.1)))))))))), ((cell_far (p := ⟨gb198, _, none⟩) NB210_198.out _).trans (((cell_far (p := ⟨gb198, _, none⟩) NB210_198.out _).trans (((cell_far (p := ⟨gb198, _, none⟩) NB210_198.out _).trans (((cell_far (p := ⟨gb198, _, none⟩) NB210_198.out _).trans (((cell_far (p := ⟨gb198, _, none⟩) NB210_198.out _).trans (hHeld.2.2.2.1)))))))))), ((cell_far (p := ⟨gb198, _, none⟩) NB210_198.out _).trans (((cell_far (p := ⟨gb198, _, none⟩) NB210_198.out _).trans (((cell_far (p := ⟨gb198, _, none⟩) NB210_198.out _).trans (((cell_far (p := ⟨gb198, _, none⟩) NB210_198.out _).trans (((cell_far (p := ⟨gb198, _, none⟩) NB210_198.out _).trans (hHeld.2.2.2.2))))))))))⟩ (fun hHeld => ?_)
      clear hK K
      refine pure_ (i := 18) (N := some 3) (v := ?_) (a' := ?_) #[true, true, true, true, true, true, true, true, true, true, true, true, true, true, true, true, true, true, true, false] rfl rfl (any_of HT_.out (by kernel_rfl)) (fun _ _ _ h => h) (Or.inl ⟨by rfl, ?_⟩) ?_ ?_
      rotate_left
      · intro w'
        go_simp
        (first | with_reducible rfl | (unfold Instr.field; go_simp; simp only [asAgg]; go_simp; with_reducible rfl))
      rotate_left
      · simp only [Act.put, List.setIfInBounds_toArray, List.set_cons_zero, List.set_cons_succ, i64_w, i32_w]
        rfl
      refine pure_ (i := 19) (N := some 4) (v := ?_) (a' := ?_) #[true, true, true, true, true, true, true, true, true, true, true, true, true, true, true, true, true, true, true, true] rfl rfl (any_of HT_.out (by kernel_rfl)) (fun _ _ _ h => h) (Or.inl ⟨by rfl, ?_⟩) ?_ ?_
      rotate_left
      · intro w'
        go_simp
        (first | with_reducible rfl | (unfold Instr.field; go_simp; simp only [asAgg]; go_simp; with_reducible rfl))
      rotate_left
      · simp only [Act.put, List.setIfInBounds_toArray, List.set_cons_zero, List.set_cons_succ, i64_w, i32_w]
        rfl
      refine done_ (done_of HT_.out (by kernel_rfl)) ?_
      try go_wp2
      refine bodyPost_ret (results_ctt rfl _ _ gb198 27 #[.int .i64 t202, .slice Ao42 x211001_4.length co42, .int .i64 t206, .int .i64 t207, .int .i64 t208] (0, 0) _ rfl (by (with_reducible repeat (first | refine blk_drewN ?_ _ | refine blk_drew ?_ | refine blk_alloc ?_ _)); refine blk_put (cs := #[.int .i64 t202, .slice Ao42 x211001_4.length co42, .int .i64 t206, .int .i64 t207, .int .i64 0]) ?_ 4 _ rfl; (with_reducible repeat (first | refine blk_drewN ?_ _ | refine blk_drew ?_ | refine blk_alloc ?_ _)); refine blk_put (cs := #[.int .i64 t202, .slice Ao42 x211001_4.length co42, .int .i64 t206, .int .i64 0, .int .i64 0]) ?_ 3 _ rfl; (with_reducible repeat (first | refine blk_drewN ?_ _ | refine blk_drew ?_ | refine blk_alloc ?_ _)); refine blk_put (cs := #[.int .i64 t202, .slice Ao42 x211001_4.length co42, .int .i64 0, .int .i64 0, .int .i64 0]) ?_ 2 _ rfl; (with_reducible repeat (first | refine blk_drewN ?_ _ | refine blk_drew ?_ | refine blk_alloc ?_ _)); refine blk_put (cs := #[.int .i64 t202, .slice none 0 0, .int .i64 0, .int .i64 0, .int .i64 0]) ?_ 1 _ rfl; (with_reducible repeat (first | refine blk_drewN ?_ _ | refine blk_drew ?_ | refine blk_alloc ?_ _)); refine blk_put (cs := #[.int .i64 0, .slice none 0 0, .int .i64 0, .int .i64 0, .int .i64 0]) ?_ 0 _ rfl; (with_reducible repeat (first | refine blk_drewN ?_ _ | refine blk_drew ?_ | refine blk_alloc ?_ _)); exact BK198.out) Try.underlying27 rfl (by kernel_rfl)) rfl ?_
      exact ⟨_, by first | rfl | (simp [errW_none, errW_some] <;> rfl) | (simp [*, errW_none, errW_some] <;> rfl), by (with_reducible repeat (first | apply Kd.R_alloc | apply Kd.R_drewN | apply Kd.R_drew)); exact Kd.R_mono (Kd.R_far (p := ⟨gb198, 4, none⟩) (Kd.R_far (p := ⟨gb198, 3, none⟩) (Kd.R_far (p := ⟨gb198, 2, none⟩) (Kd.R_far (p := ⟨gb198, 1, none⟩) (Kd.R_far (p := ⟨gb198, 0, none⟩) (Kd.R_types HO_211001.out BK198.out (by decide)) (fun _ hk => hk.2) (.int .i64 t202)) (fun _ hk => hk.2) (.slice Ao42 x211001_4.length co42)) (fun _ hk => hk.2) (.int .i64 t206)) (fun _ hk => hk.2) (.int .i64 t207)) (fun _ hk => hk.2) (.int .i64 t208)) (fun _ hk => trivial), by repeat (first | (with_reducible first | exact HB.out | apply below_alloc | apply pw_below_drewN | apply below_drew1 | refine below_set ?_ (IsS184.ge HI201.out) | refine below_set ?_ GE198.out | refine below_set ?_ GE210.out) | exact HB.out)⟩

end Go.Proofs.Ytmeaabgkndcikaa.PFnExports
