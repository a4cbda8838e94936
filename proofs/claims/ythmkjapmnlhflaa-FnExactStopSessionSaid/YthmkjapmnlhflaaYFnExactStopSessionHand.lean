/- The contracts of what marks nested rows, and the walk of the law FnExactStopSession. -/
import Derived.Test.YthmkjapmnlhflaaSFnExactStopSessionza
import Derived.Test.YthmkjapmnlhflaaYFnExactStopSessionFun
namespace Go.Proofs.Ythmkjapmnlhflaa.PFnExactStopSession
open Go.RowKit Go.Proofs.YthmkjapmnlhflaaW.PrintWords Go.Proofs.YthmkjapmnlhflaaW.PrintLast Go.Proofs.YthmkjapmnlhflaaW.PrintMore Go.Proofs.Ythmkjapmnlhflaa.B Go.Proofs.Ythmkjapmnlhflaa.Pure
attribute [local go_sem] max2_int min2_int max_two min_two max_three min_three max_four min_four
set_option linter.unusedVariables false
set_option linter.unusedSimpArgs false
def Said (g : Nat) (c s0 s1 s2 s3 s4 : Int) (u d up : Bool) (l : List S136) (w w' : World) : Prop := ∃ v, w'.heap[g]? = some (.cells #[.int .i64 c, .int .i64 s0, .int .i64 s1, .int .i64 s2, .int .i64 s3, .int .i64 s4, v, .bool u, .bool d, .bool up] 45 (0, 0)) ∧ Kd.S k136 136 w' w.heap.size (fun _ => True) v l
def spokeOf (s0 s4 : Int) : Int := if s0 = 0 then s4 else 0
def msgOf (m0 m1 m2 m3 m4 m5 : Int) : S136 := ⟨m0, m1, m2, m3, m4, m5, z134⟩
set_option maxHeartbeats 16000000 in
set_option maxRecDepth 100000 in
theorem say_calls (g : Nat) (c s0 s1 s2 s3 s4 : Int) (u d up : Bool) (m0 m1 m2 m3 m4 m5 : Int) (w0 w : World) (hB : Below w0.heap.size w0 w) (hge : w0.heap.size ≤ g) (hb : w.heap[g]? = some (.cells #[.int .i64 c, .int .i64 s0, .int .i64 s1, .int .i64 s2, .int .i64 s3, .int .i64 s4, .slice none 0 0, .bool u, .bool d, .bool up] 45 (0, 0))) :
    Calls Try.prog 89 #[.pointer (some ⟨g, 0, none⟩), .agg #[.int .i64 m0, .int .i64 m1, .int .i64 m2, .int .i64 m3, .int .i64 m4, .int .i64 m5, .slice none 0 0, .bool false, .int .i64 0, .slice none 0 0, .int .i64 0, .int .i64 0, .int .i64 0, .slice none 0 0]] w fun e w' => e = .returned (.tuple #[]) ∧ Said g c s0 s1 s2 s3 (spokeOf s0 s4) u d up [msgOf m0 m1 m2 m3 m4 m5] w w' ∧ Below w0.heap.size w0 w' ∧ Kept w w' (fun k_ => k_ = g) := by
  have HB := Aside0.mk hB
  have HB0 := HB
  have HE := Aside0.mk hge
  have HW := Aside0.mk (Below.refl w.heap.size w)
  have HK := Aside0.mk (Kept.refl w (fun k_ => k_ = g))
  have BG := Aside0.mk hb
  clear hB hge hb
  go_enter Try.func89, Try.ntmps89
  go_wp2_with (first | ((with_reducible refine gate_dst (N := 3) rfl ?_); refine box_e_ 3 #[.int .i64 m0, .int .i64 m1, .int .i64 m2, .int .i64 m3, .int .i64 m4, .int .i64 m5, .slice none 0 0, .bool false, .int .i64 0, .slice none 0 0, .int .i64 0, .int .i64 0, .int .i64 0, .slice none 0 0] 136 ?_; intro gm hg wm hbox hbb; have NE := (nl_ hg BG : Aside0 (g ≠ gm)); have BM := Aside0.mk hbox; replace BG := blk_kb BG hbb; replace HB := Aside0.mk (HB.out.trans (hbb.mono HB.out.size)); replace HW := below_kb HW hbb; replace HK := Aside0.mk (Kept.below HK.out hbb); clear hg hbox hbb))
  refine start_ (n := 11) (S := fun w' => w'.cell? ⟨g, 6, none⟩ = some (.slice none 0 0) ∧ w'.cell? ⟨gm, 0, none⟩ = some (.int .i64 m0) ∧ w'.cell? ⟨gm, 1, none⟩ = some (.int .i64 m1) ∧ w'.cell? ⟨gm, 2, none⟩ = some (.int .i64 m2) ∧ w'.cell? ⟨gm, 3, none⟩ = some (.int .i64 m3) ∧ w'.cell? ⟨gm, 4, none⟩ = some (.int .i64 m4) ∧ w'.cell? ⟨gm, 5, none⟩ = some (.int .i64 m5) ∧ w'.cell? ⟨gm, 6, none⟩ = some (.slice none 0 0) ∧ w'.cell? ⟨gm, 7, none⟩ = some (.bool false) ∧ w'.cell? ⟨gm, 8, none⟩ = some (.int .i64 0) ∧ w'.cell? ⟨gm, 9, none⟩ = some (.slice none 0 0) ∧ w'.cell? ⟨gm, 10, none⟩ = some (.int .i64 0) ∧ w'.cell? ⟨gm, 11, none⟩ = some (.int .i64 0) ∧ w'.cell? ⟨gm, 12, none⟩ = some (.int .i64 0) ∧ w'.cell? ⟨gm, 13, none⟩ = some (.slice none 0 0)) (ds := [10]) #[false, false, false, false, false, false, false, false, false, false, false] (by kernel_rfl) rfl rfl ⟨(blk_cell (blk_drew BG.out) 6).trans rfl, (blk_cell (blk_drew BM.out) 0).trans rfl, (blk_cell (blk_drew BM.out) 1).trans rfl, (blk_cell (blk_drew BM.out) 2).trans rfl, (blk_cell (blk_drew BM.out) 3).trans rfl, (blk_cell (blk_drew BM.out) 4).trans rfl, (blk_cell (blk_drew BM.out) 5).trans rfl, (blk_cell (blk_drew BM.out) 6).trans rfl, (blk_cell (blk_drew BM.out) 7).trans rfl, (blk_cell (blk_drew BM.out) 8).trans rfl, (blk_cell (blk_drew BM.out) 9).trans rfl, (blk_cell (blk_drew BM.out) 10).trans rfl, (blk_cell (blk_drew BM.out) 11).trans rfl, (blk_cell (blk_drew BM.out) 12).trans rfl, (blk_cell (blk_drew BM.out) 13).trans rfl⟩ (fun hHeld => ?_)
  replace BG := Aside0.mk (blk_drew BG.out)
  replace BM := Aside0.mk (blk_drew BM.out)
  replace HB := Aside0.mk (below_drew1 HB.out)
  replace HW := Aside0.mk (below_drew1 HW.out)
  replace HK := Aside0.mk (Kept.drew HK.out)
  generalize wm.drew = wr at BG BM HB HW HK hHeld ⊢
  refine pure_ (i := 0) (N := some 4) (v := ?_) (a' := ?_) #[true, false, false, false, false, false, false, false, false, false, false] rfl rfl (by kernel_rfl) (fun _ _ _ h => h) (Or.inl ⟨by rfl, ?_⟩) ?_ ?_
  rotate_left
  · intro w'
    go_simp
    with_reducible rfl
  rotate_left
  · simp only [Act.put, List.setIfInBounds_toArray, List.set_cons_zero, List.set_cons_succ, i64_w, i32_w]
    rfl
  refine pure_ (i := 1) (N := some 5) (v := ?_) (a' := ?_) #[true, true, false, false, false, false, false, false, false, false, false] rfl rfl (by kernel_rfl) (fun _ _ _ h => h) (Or.inl ⟨by rfl, ?_⟩) ?_ ?_
  rotate_left
  · intro w'
    go_simp
    with_reducible rfl
  rotate_left
  · simp only [Act.put, List.setIfInBounds_toArray, List.set_cons_zero, List.set_cons_succ, i64_w, i32_w]
    rfl
  refine pure_ (i := 2) (N := some 6) (v := ?_) (a' := ?_) #[true, true, true, false, false, false, false, false, false, false, false] rfl rfl (by kernel_rfl) (fun _ _ _ h => h) (Or.inl ⟨by rfl, ?_⟩) ?_ ?_
  rotate_left
  · intro w'
    go_simp
    with_reducible rfl
  rotate_left
  · simp only [Act.put, List.setIfInBounds_toArray, List.set_cons_zero, List.set_cons_succ, i64_w, i32_w]
    rfl
  refine pure_ (i := 3) (N := some 7) (v := ?_) (a' := ?_) #[true, true, true, true, false, false, false, false, false, false, false] rfl rfl (by kernel_rfl) (fun _ _ _ h => h) (Or.inl ⟨by rfl, ?_⟩) ?_ ?_
  rotate_left
  · intro w'
    go_simp
    with_reducible rfl
  rotate_left
  · simp only [Act.put, List.setIfInBounds_toArray, List.set_cons_zero, List.set_cons_succ, i64_w, i32_w]
    rfl
  refine take_ (i := 4) (N := some 8) (v := ?_) (a' := ?_) #[true, true, true, true, true, false, false, false, false, false, false] rfl rfl (by kernel_rfl) (fun _ _ _ h => h) (Or.inl ⟨by rfl, ?_⟩) hHeld ?_ ?_
  rotate_left
  · rintro w' ⟨t0, t1, t2, t3, t4, t5, t6, t7, t8, t9, t10, t11, t12, t13, t14⟩
    go_simp
    with_reducible rfl
  rotate_left
  · simp only [Act.put, List.setIfInBounds_toArray, List.set_cons_zero, List.set_cons_succ, i64_w, i32_w]
    rfl
  refine take_ (i := 5) (N := some 9) (v := ?_) (a' := ?_) #[true, true, true, true, true, true, false, false, false, false, false] rfl rfl (by kernel_rfl) (fun _ _ _ h => h) (Or.inl ⟨by rfl, ?_⟩) hHeld ?_ ?_
  rotate_left
  · rintro w' ⟨t0, t1, t2, t3, t4, t5, t6, t7, t8, t9, t10, t11, t12, t13, t14⟩
    go_simp
    with_reducible rfl
  rotate_left
  · simp only [Act.put, List.setIfInBounds_toArray, List.set_cons_zero, List.set_cons_succ, i64_w, i32_w]
    rfl
  refine one_ (i := 6) (N := some 10) #[true, true, true, true, true, true, true, false, false, false, false] rfl rfl (by kernel_rfl) (by decide) (fun K hK => ?_)
  refine value_ (w1 := ?_) (v := ?_) (by rfl) rfl ?_ ?_
  rotate_left 2
  · go_simp
    constructor
    · rfl
    · rfl
  refine hK.out _ _ ⟨(blk_cell (blk_alloc BG.out _) 6).trans rfl, (blk_cell (blk_alloc BM.out _) 0).trans rfl, (blk_cell (blk_alloc BM.out _) 1).trans rfl, (blk_cell (blk_alloc BM.out _) 2).trans rfl, (blk_cell (blk_alloc BM.out _) 3).trans rfl, (blk_cell (blk_alloc BM.out _) 4).trans rfl, (blk_cell (blk_alloc BM.out _) 5).trans rfl, (blk_cell (blk_alloc BM.out _) 6).trans rfl, (blk_cell (blk_alloc BM.out _) 7).trans rfl, (blk_cell (blk_alloc BM.out _) 8).trans rfl, (blk_cell (blk_alloc BM.out _) 9).trans rfl, (blk_cell (blk_alloc BM.out _) 10).trans rfl, (blk_cell (blk_alloc BM.out _) 11).trans rfl, (blk_cell (blk_alloc BM.out _) 12).trans rfl, (blk_cell (blk_alloc BM.out _) 13).trans rfl⟩ (fun hHeld => ?_)
  clear hK K
  refine norm_ (a' := ?_) ?_ ?_
  rotate_left
  · show Act.put _ (some 10) _ = _
    simp only [Act.put, List.setIfInBounds_toArray, List.set_cons_zero, List.set_cons_succ, i64_w, i32_w]
    rfl
  refine one_ (i := 7) (N := some 11) #[true, true, true, true, true, true, true, true, false, false, false] rfl rfl (by kernel_rfl) (by decide) (fun K hK => ?_)
  refine Kd.S_append_step k136 (w0 := w) w.heap.size (by rfl) (.tmp 8) (.tmp 10) 43 136 (.agg #[.int .i64 0, .int .i64 0, .int .i64 0, .int .i64 0, .int .i64 0, .int .i64 0, .slice none 0 0, .bool false, .int .i64 0, .slice none 0 0, .int .i64 0, .int .i64 0, .int .i64 0, .slice none 0 0]) 160 rfl Try.underlying43 info136 rfl (by decide) (by omega) (.slice none 0 0) [] (⟨m0, m1, m2, m3, m4, m5, z134⟩ : S136) [.int .i64 m0, .int .i64 m1, .int .i64 m2, .int .i64 m3, .int .i64 m4, .int .i64 m5, .slice none 0 0, .bool false, .int .i64 0, .slice none 0 0, .int .i64 0, .int .i64 0, .int .i64 0, .slice none 0 0] (fun _ => True) (fun _ => False) rfl rfl ?aP (fun k_ hk_ => by simp [Value.ownBlock] at hk_) ?aF ?aO ?aB ?aS ?aL ?_
  (case aP => exact k136_mkM _ _ _ (⟨m0, m1, m2, m3, m4, m5, z134⟩ : S136) (Kd.R_nil _ _ _ _ _) (Kd.R_nil _ _ _ _ _) (Kd.R_nil _ _ _ _ _))
  (case aF => exact fun _ _ => trivial)
  (case aO => exact Kd.S_nil _ _ _ _ _)
  (case aB => exact HW.out)
  (case aS => exact below_size HW.out)
  (case aL => decide)
  intro v1 wa ho hb hg hat
  have HO := Aside0.mk ho
  replace HB : Aside0 (Below w0.heap.size w0 wa) := ⟨HB0.out.trans (hb.mono HB0.out.size)⟩
  replace HK : Aside0 (Kept w wa (fun k_ => k_ = g)) := ⟨Kept.of_below hb _⟩
  replace BG := Aside0.mk (blk_grown BG.out hg (by simp [Value.ownBlock]))
  replace BM := Aside0.mk (blk_grown BM.out hg (by simp [Value.ownBlock]))
  clear ho hb hg hat HW
  obtain ⟨A1, c1, e1⟩ := Kd.S_slice HO.out
  subst e1
  refine hK.out _ _ ⟨(blk_cell BG.out 6).trans rfl, (blk_cell BM.out 0).trans rfl, (blk_cell BM.out 1).trans rfl, (blk_cell BM.out 2).trans rfl, (blk_cell BM.out 3).trans rfl, (blk_cell BM.out 4).trans rfl, (blk_cell BM.out 5).trans rfl, (blk_cell BM.out 6).trans rfl, (blk_cell BM.out 7).trans rfl, (blk_cell BM.out 8).trans rfl, (blk_cell BM.out 9).trans rfl, (blk_cell BM.out 10).trans rfl, (blk_cell BM.out 11).trans rfl, (blk_cell BM.out 12).trans rfl, (blk_cell BM.out 13).trans rfl⟩ (fun hHeld => ?_)
  clear hK K
  refine norm_ (a' := ?_) ?_ ?_
  rotate_left
  · show Act.put _ (some 11) _ = _
    simp only [Act.put, List.setIfInBounds_toArray, List.set_cons_zero, List.set_cons_succ, i64_w, i32_w]
    rfl
  refine pure_ (i := 8) (N := some 12) (v := ?_) (a' := ?_) #[true, true, true, true, true, true, true, true, true, false, false] rfl rfl (by kernel_rfl) (fun _ _ _ h => h) (Or.inl ⟨by rfl, ?_⟩) ?_ ?_
  rotate_left
  · intro w'
    go_simp
    with_reducible rfl
  rotate_left
  · simp only [Act.put, List.setIfInBounds_toArray, List.set_cons_zero, List.set_cons_succ, i64_w, i32_w]
    rfl
  refine pure_ (i := 9) (N := some 13) (v := ?_) (a' := ?_) #[true, true, true, true, true, true, true, true, true, true, false] rfl rfl (by kernel_rfl) (fun _ _ _ h => h) (Or.inl ⟨by rfl, ?_⟩) ?_ ?_
  rotate_left
  · intro w'
    go_simp
    with_reducible rfl
  rotate_left
  · simp only [Act.put, List.setIfInBounds_toArray, List.set_cons_zero, List.set_cons_succ, i64_w, i32_w]
    rfl
  refine last_ (i := 10) (N := none) #[true, true, true, true, true, true, true, true, true, true, true] rfl rfl (by kernel_rfl) (by decide) (fun K hK => ?_)
  have hs : wa.cell? ⟨g, 6, none⟩ = some (.slice none 0 0) := (blk_cell BG.out 6).trans rfl
  have hfs := blk_frozen BG.out 6
  refine skip_ (w1 := ?_) ?_ ?_ ?_ ?_
  rotate_left
  · first | kernel_rfl | rfl
  · rfl
  · go_simp
    rfl
  refine hK.out _ _ ?_
  clear hK K
  refine done_ (by kernel_rfl) ?_
  clear hs hfs
  obtain ⟨hcz_0, hcz_1, hcz_2, hcz_3, hcz_4, hcz_5, hcz_6, hcz_7, hcz_8, hcz_9, hfz_0, hfz_1, hfz_2, hfz_3, hfz_4, hfz_5, hfz_6, hfz_7, hfz_8, hfz_9⟩ := cf10_ BG
  by_cases hs0 : s0 = 0
  · have t1 : (s0 != 0) = false := by simp [hs0]
    have t2 : (s0 == 0) = true := by simp [hs0]
    have HS0 := Aside0.mk hs0
    clear hs0
    go_wp2
    first | go_end0 | ((try simp only [Exit.inBlock, Exit.then]); refine bodyPost_ret (results_none rfl _ _ _) rfl ?_)
    refine ⟨rfl, ?_, below_set HB.out HE.out, Kept.setCell HK.out (.inl rfl) _⟩
    unfold Said spokeOf
    first | rw [if_pos HS0.out] | skip
    exact ⟨_, blk_put BG.out 6 _ rfl, Kd.S_set HO.out BG.out (by decide) 6 _⟩
  · have t1 : (s0 != 0) = true := by simp [hs0]
    have t2 : (s0 == 0) = false := by simp [hs0]
    have HS0 := Aside0.mk hs0
    clear hs0
    go_wp2
    first | go_end0 | ((try simp only [Exit.inBlock, Exit.then]); refine bodyPost_ret (results_none rfl _ _ _) rfl ?_)
    refine ⟨rfl, ?_, below_set (below_set HB.out HE.out) HE.out, Kept.setCell (Kept.setCell HK.out (.inl rfl) _) (.inl rfl) _⟩
    unfold Said spokeOf
    first | rw [if_neg HS0.out] | skip
    exact ⟨_, blk_put (blk_put BG.out 6 _ rfl) 5 _ rfl, Kd.S_set (Kd.S_set HO.out BG.out (by decide) 6 _) (blk_put BG.out 6 _ rfl) (by decide) 5 _⟩
theorem laws_markPrefixS_nil (A : Option Addr) (c : Nat) (k : Int) (w : World) : Calls Try.prog 65 #[.slice A 0 c, .int .i64 k] w fun e w' => e = .returned (.int .i64 k) ∧ w = w' := by
  go_enter Try.func65, Try.ntmps65
  go_wp2
  go_loop [1, 5] (fun j i => j = .int .i64 k ∧ i = .int .i64 0) (fun _ _ => 0)
  case atStart => exact ⟨rfl, rfl⟩
  case round =>
    obtain ⟨rfl, rfl⟩ := hrel
    go_wp2
    go_ret
    exact ⟨rfl, rfl⟩
theorem laws_markInt64S_nil (A : Option Addr) (c : Nat) (k : Int) (w : World) : Calls Try.prog 144 #[.slice A 0 c, .int .i64 k] w fun e w' => e = .returned (.int .i64 k) ∧ w = w' := by
  go_enter Try.func144, Try.ntmps144
  go_wp2
  go_loop [1, 5] (fun j i => j = .int .i64 k ∧ i = .int .i64 0) (fun _ _ => 0)
  case atStart => exact ⟨rfl, rfl⟩
  case round =>
    obtain ⟨rfl, rfl⟩ := hrel
    go_wp2
    go_ret
    exact ⟨rfl, rfl⟩
def markMsg (m : Int) : S136 := ⟨m, (wrap64 (m + 1)), (wrap64 ((wrap64 (m + 1)) + 1)), (wrap64 ((wrap64 ((wrap64 (m + 1)) + 1)) + 1)), (wrap64 ((wrap64 ((wrap64 ((wrap64 (m + 1)) + 1)) + 1)) + 1)), (wrap64 ((wrap64 ((wrap64 ((wrap64 ((wrap64 (m + 1)) + 1)) + 1)) + 1)) + 1)), ⟨[], (Int.tmod (wrap64 ((wrap64 ((wrap64 ((wrap64 ((wrap64 ((wrap64 (m + 1)) + 1)) + 1)) + 1)) + 1)) + 1)) 3) == 0, ⟨(wrap64 ((wrap64 ((wrap64 ((wrap64 ((wrap64 ((wrap64 ((wrap64 (m + 1)) + 1)) + 1)) + 1)) + 1)) + 1)) + 1)), [], (wrap64 ((wrap64 ((wrap64 ((wrap64 ((wrap64 ((wrap64 ((wrap64 ((wrap64 (m + 1)) + 1)) + 1)) + 1)) + 1)) + 1)) + 1)) + 1)), (wrap64 ((wrap64 ((wrap64 ((wrap64 ((wrap64 ((wrap64 ((wrap64 ((wrap64 ((wrap64 (m + 1)) + 1)) + 1)) + 1)) + 1)) + 1)) + 1)) + 1)) + 1)), (wrap64 ((wrap64 ((wrap64 ((wrap64 ((wrap64 ((wrap64 ((wrap64 ((wrap64 ((wrap64 ((wrap64 (m + 1)) + 1)) + 1)) + 1)) + 1)) + 1)) + 1)) + 1)) + 1)) + 1))⟩, []⟩⟩
def bareMsg (x : S136) : Prop := x.f6.f0 = [] ∧ x.f6.f2.f1 = [] ∧ x.f6.f3 = []
def laws_markMessageS.l0 : Nat → List S136 → Int → Int → Option (Int × List S136)
  | 0, _, _, _ => none
  | k + 1, x0, x1, x5 => if x5 < (x0.length : Int) then (if 0 ≤ x5 then (laws_markMessageS.l0 k (x0.set x5.toNat (markMsg x1)) (wrap64 ((wrap64 ((wrap64 ((wrap64 ((wrap64 ((wrap64 ((wrap64 ((wrap64 ((wrap64 ((wrap64 ((wrap64 (x1 + 1)) + 1)) + 1)) + 1)) + 1)) + 1)) + 1)) + 1)) + 1)) + 1)) + 1)) (wrap64 (x5 + 1))) else none) else some (x1, x0)
def laws_markMessageS.f (k : Nat) (l0 : List S136) (a1 : Int) : Option (Int × List S136) := laws_markMessageS.l0 k l0 a1 0
set_option maxHeartbeats 16000000 in
set_option maxRecDepth 100000 in
theorem laws_markMessageS.calls (k : Nat) (P0_ : Nat → Prop) (Au : Option Addr) (cu n : Nat) (l0 : List S136) (a1 r1 : Int) (r2 : List S136) (w0 w : World) (hB : Below w0.heap.size w0 w) (hn : l0.length = n ∧ ∀ x ∈ l0, bareMsg x) (ho0 : Kd.S k136 136 w w0.heap.size P0_ (.slice Au n cu) l0) (h : laws_markMessageS.f k l0 a1 = some (r1, r2)) :
    Calls Try.prog 92 #[.slice Au n cu, .int .i64 a1] w fun e w' => e = .returned (.int .i64 r1) ∧ (r2.length = n ∧ Kd.S k136 136 w' w0.heap.size P0_ (.slice Au n cu) r2) ∧ Below w0.heap.size w0 w' ∧ Kept w w' P0_ := by
  have HO := Aside0.mk ho0
  have HN := Aside0.mk hn
  have HK := Aside0.mk (Kept.refl w P0_)
  have HB := Aside0.mk hB
  clear hB ho0 hn
  have H' : Aside0 (laws_markMessageS.l0 k l0 a1 0 = some (r1, r2)) := ⟨h⟩
  clear h
  go_enter Try.func92, Try.ntmps92
  go_wp2
  go_loopg [1, 5] k (fun kq v1 v5 w' => ∃ (x0_1 : List S136) (x1_1 x5_1 : Int), v1 = .int .i64 x1_1 ∧ v5 = .int .i64 x5_1 ∧ Aside0 (laws_markMessageS.l0 kq x0_1 x1_1 x5_1 = some (r1, r2)) ∧ Aside0 (kq ≤ k) ∧ Aside0 (x0_1.length = n ∧ ∀ x ∈ x0_1, bareMsg x) ∧ Aside0 (Kd.S k136 136 w' w0.heap.size P0_ (.slice Au n cu) x0_1) ∧ Aside0 (Kept w w' P0_) ∧ Aside0 (Below w0.heap.size w0 w'))
  case atStart => exact ⟨l0, a1, 0, sd_, sd_, H', ⟨Nat.le_refl _⟩, HN, HO, HK, HB⟩
  case round =>
    clear H' HO HN HK HB
    obtain ⟨x0_1, x1_1, x5_1, rfl, rfl, HA, HK1, HN, HO, HK, HB⟩ := hrel
    cases gk with
    | zero => exact absurd HA.out (by simp [laws_markMessageS.l0])
    | succ k1 =>
      have H := HA.out
      clear HA
      simp only [laws_markMessageS.l0] at H
      rw [HN.out.1] at H
      by_cases c3 : x5_1 < (n : Int)
      · rw [if_pos c3] at H
        have c3b0 : decide (x5_1 < (n : Int)) = true := decide_eq_true c3
        by_cases c4 : 0 ≤ x5_1
        · rw [if_pos c4] at H
          have c4b0 : decide (0 ≤ x5_1) = true := decide_eq_true c4
          have H' := Aside0.mk H
          clear H
          have hln : x5_1.toNat < x0_1.length := by have := HN.out.1; omega
          obtain ⟨g, cap, eo, hgb, _, _⟩ := Kd.S_form HO.out (by omega)
          have GB := Aside0.mk hgb
          clear hgb
          injection eo with ea en ec
          subst ea
          subst ec
          clear en
          obtain ⟨oki, c, hcl, hM, hcc, hfr, hoki, hH⟩ := Kd.S_elem HO.out z136 x5_1 c4 c3
          have hbare : bareMsg (x0_1.getD x5_1.toNat z136) := by
            rw [List.getD_eq_getElem?_getD, List.getElem?_eq_getElem hln]
            exact HN.out.2 _ (List.getElem_mem hln)
          obtain ⟨v6, v9, v13, rfl, hR6, hR9, hR13⟩ := k136_openM hM
          rw [hbare.1] at hR6
          rw [hbare.2.1] at hR9
          rw [hbare.2.2] at hR13
          obtain ⟨A6, c6, e6⟩ := Kd.R_slice hR6
          obtain ⟨A9, c9, e9⟩ := Kd.R_slice hR9
          obtain ⟨A13, c13, e13⟩ := Kd.R_slice hR13
          replace e6 : v6 = .slice A6 0 c6 := e6
          replace e9 : v9 = .slice A9 0 c9 := e9
          replace e13 : v13 = .slice A13 0 c13 := e13
          subst e6
          subst e9
          subst e13
          clear hbare
          have HR6 : Aside0 (Kd.R k167 167 wr w0.heap.size oki (.slice A6 0 c6) []) := ⟨hR6⟩
          have HR9 : Aside0 (Kd.R (Kd.int .i64) 2 wr w0.heap.size oki (.slice A9 0 c9) []) := ⟨hR9⟩
          have HR13 : Aside0 (Kd.R k167 167 wr w0.heap.size oki (.slice A13 0 c13) []) := ⟨hR13⟩
          have HH : Aside0 (Kd.H k136 136 wr w0.heap.size P0_ (.slice (some ⟨g, 0, none⟩) n cu) x0_1 x5_1 oki [.int .i64 (rd_T136 x0_1 x5_1).f0, .int .i64 (rd_T136 x0_1 x5_1).f1, .int .i64 (rd_T136 x0_1 x5_1).f2, .int .i64 (rd_T136 x0_1 x5_1).f3, .int .i64 (rd_T136 x0_1 x5_1).f4, .int .i64 (rd_T136 x0_1 x5_1).f5, .slice A6 0 c6, .bool (rd_T136 x0_1 x5_1).f6.f1, .int .i64 (rd_T136 x0_1 x5_1).f6.f2.f0, .slice A9 0 c9, .int .i64 (rd_T136 x0_1 x5_1).f6.f2.f2, .int .i64 (rd_T136 x0_1 x5_1).f6.f2.f3, .int .i64 (rd_T136 x0_1 x5_1).f6.f2.f4, .slice A13 0 c13]) := ⟨hH⟩
          have HOK := Aside0.mk hoki
          have HOG := Aside0.mk (Kd.S_R HO.out).1
          have HP4 := Aside0.mk c4
          have HP3 := Aside0.mk c3
          have p5 := eq_true c4
          have q5 := eq_true c3
          clear hH hM hcl hcc hfr hoki hR6 hR9 hR13 c3 c4 hln
          have hq_ := H_cells HH.out HP4.out HP3.out; have hx_0 : wr.cell? ⟨g, x5_1.toNat * 14, none⟩ = some (.int .i64 (rd_T136 x0_1 x5_1).f0) := hq_.1 0 _ rfl; have hx_1 : wr.cell? ⟨g, x5_1.toNat * 14 + 1, none⟩ = some (.int .i64 (rd_T136 x0_1 x5_1).f1) := hq_.1 1 _ rfl; have hx_2 : wr.cell? ⟨g, x5_1.toNat * 14 + 2, none⟩ = some (.int .i64 (rd_T136 x0_1 x5_1).f2) := hq_.1 2 _ rfl; have hx_3 : wr.cell? ⟨g, x5_1.toNat * 14 + 3, none⟩ = some (.int .i64 (rd_T136 x0_1 x5_1).f3) := hq_.1 3 _ rfl; have hx_4 : wr.cell? ⟨g, x5_1.toNat * 14 + 4, none⟩ = some (.int .i64 (rd_T136 x0_1 x5_1).f4) := hq_.1 4 _ rfl; have hx_5 : wr.cell? ⟨g, x5_1.toNat * 14 + 5, none⟩ = some (.int .i64 (rd_T136 x0_1 x5_1).f5) := hq_.1 5 _ rfl; have hx_6 : wr.cell? ⟨g, x5_1.toNat * 14 + 6, none⟩ = some (.slice A6 0 c6) := hq_.1 6 _ rfl; have hx_7 : wr.cell? ⟨g, x5_1.toNat * 14 + 7, none⟩ = some (.bool (rd_T136 x0_1 x5_1).f6.f1) := hq_.1 7 _ rfl; have hx_8 : wr.cell? ⟨g, x5_1.toNat * 14 + 8, none⟩ = some (.int .i64 (rd_T136 x0_1 x5_1).f6.f2.f0) := hq_.1 8 _ rfl; have hx_9 : wr.cell? ⟨g, x5_1.toNat * 14 + 9, none⟩ = some (.slice A9 0 c9) := hq_.1 9 _ rfl; have hx_10 : wr.cell? ⟨g, x5_1.toNat * 14 + 10, none⟩ = some (.int .i64 (rd_T136 x0_1 x5_1).f6.f2.f2) := hq_.1 10 _ rfl; have hx_11 : wr.cell? ⟨g, x5_1.toNat * 14 + 11, none⟩ = some (.int .i64 (rd_T136 x0_1 x5_1).f6.f2.f3) := hq_.1 11 _ rfl; have hx_12 : wr.cell? ⟨g, x5_1.toNat * 14 + 12, none⟩ = some (.int .i64 (rd_T136 x0_1 x5_1).f6.f2.f4) := hq_.1 12 _ rfl; have hx_13 : wr.cell? ⟨g, x5_1.toNat * 14 + 13, none⟩ = some (.slice A13 0 c13) := hq_.1 13 _ rfl; have hf_0 : wr.frozen? ⟨g, x5_1.toNat * 14, none⟩ = false := hq_.2 0; have hf_1 : wr.frozen? ⟨g, x5_1.toNat * 14 + 1, none⟩ = false := hq_.2 1; have hf_2 : wr.frozen? ⟨g, x5_1.toNat * 14 + 2, none⟩ = false := hq_.2 2; have hf_3 : wr.frozen? ⟨g, x5_1.toNat * 14 + 3, none⟩ = false := hq_.2 3; have hf_4 : wr.frozen? ⟨g, x5_1.toNat * 14 + 4, none⟩ = false := hq_.2 4; have hf_5 : wr.frozen? ⟨g, x5_1.toNat * 14 + 5, none⟩ = false := hq_.2 5; have hf_7 : wr.frozen? ⟨g, x5_1.toNat * 14 + 7, none⟩ = false := hq_.2 7; have hf_8 : wr.frozen? ⟨g, x5_1.toNat * 14 + 8, none⟩ = false := hq_.2 8; have hf_10 : wr.frozen? ⟨g, x5_1.toNat * 14 + 10, none⟩ = false := hq_.2 10; have hf_11 : wr.frozen? ⟨g, x5_1.toNat * 14 + 11, none⟩ = false := hq_.2 11; have hf_12 : wr.frozen? ⟨g, x5_1.toNat * 14 + 12, none⟩ = false := hq_.2 12; clear hq_
          go_wp2_with (first
            | ((with_reducible refine gate_store (t := 2) (p := 16) rfl ?_); refine store_event (t := 2) (p := 16) (v := ?vo1) (w1 := (wr.setCell ⟨g, x5_1.toNat * 14, none⟩ (.int .i64 x1_1))) ?hg ?ho ?hn ?hr ?_; (case ho => rfl); (case hg => rfl); (case hn => rfl); (case hr => first | (go_simp; done) | (go_simp; rfl)); intro ws1 hw; obtain ⟨hH_, hgr_⟩ := Kd.H_seg HH.out HP4.out HP3.out (seg := [.int .i64 x1_1]) (j := 0) (by show (1 : Nat) ≤ 14; decide) (by simp [Value.oneCell']); have HG8 : Aside0 (wr.grownBy ws1 (some g)) := ⟨by rw [hw]; exact hgr_⟩; replace HH : Aside0 (Kd.H k136 136 ws1 w0.heap.size P0_ (.slice (some ⟨g, 0, none⟩) n cu) x0_1 x5_1 oki [.int .i64 x1_1, .int .i64 (rd_T136 x0_1 x5_1).f1, .int .i64 (rd_T136 x0_1 x5_1).f2, .int .i64 (rd_T136 x0_1 x5_1).f3, .int .i64 (rd_T136 x0_1 x5_1).f4, .int .i64 (rd_T136 x0_1 x5_1).f5, .slice A6 0 c6, .bool (rd_T136 x0_1 x5_1).f6.f1, .int .i64 (rd_T136 x0_1 x5_1).f6.f2.f0, .slice A9 0 c9, .int .i64 (rd_T136 x0_1 x5_1).f6.f2.f2, .int .i64 (rd_T136 x0_1 x5_1).f6.f2.f3, .int .i64 (rd_T136 x0_1 x5_1).f6.f2.f4, .slice A13 0 c13]) := ⟨by rw [hw]; exact hH_⟩; replace HR6 : Aside0 (Kd.R k167 167 ws1 w0.heap.size oki (.slice A6 0 c6) []) := ⟨Kd.R_grown HR6.out HG8.out (fun k_ hk_ e_ => (HOK.out k_ hk_).2 (by injection e_))⟩; replace HR9 : Aside0 (Kd.R (Kd.int .i64) 2 ws1 w0.heap.size oki (.slice A9 0 c9) []) := ⟨Kd.R_grown HR9.out HG8.out (fun k_ hk_ e_ => (HOK.out k_ hk_).2 (by injection e_))⟩; replace HR13 : Aside0 (Kd.R k167 167 ws1 w0.heap.size oki (.slice A13 0 c13) []) := ⟨Kd.R_grown HR13.out HG8.out (fun k_ hk_ e_ => (HOK.out k_ hk_).2 (by injection e_))⟩; replace HB := Aside0.mk ((by rw [hw]; exact below_set (HB.out) GB.out : Below w0.heap.size w0 ws1)); replace HK := Aside0.mk (Kept.of_grown (S := P0_) HG8.out HK.out (fun k_ e_ => .inl (HOG.out k_ e_))); clear hw hH_ hgr_ HG8 hx_0 hx_1 hx_2 hx_3 hx_4 hx_5 hx_6 hx_7 hx_8 hx_9 hx_10 hx_11 hx_12 hx_13 hf_0 hf_1 hf_2 hf_3 hf_4 hf_5 hf_7 hf_8 hf_10 hf_11 hf_12; have hq_ := H_cells HH.out HP4.out HP3.out; have hx_0 : ws1.cell? ⟨g, x5_1.toNat * 14, none⟩ = some (.int .i64 x1_1) := hq_.1 0 _ rfl; have hx_1 : ws1.cell? ⟨g, x5_1.toNat * 14 + 1, none⟩ = some (.int .i64 (rd_T136 x0_1 x5_1).f1) := hq_.1 1 _ rfl; have hx_2 : ws1.cell? ⟨g, x5_1.toNat * 14 + 2, none⟩ = some (.int .i64 (rd_T136 x0_1 x5_1).f2) := hq_.1 2 _ rfl; have hx_3 : ws1.cell? ⟨g, x5_1.toNat * 14 + 3, none⟩ = some (.int .i64 (rd_T136 x0_1 x5_1).f3) := hq_.1 3 _ rfl; have hx_4 : ws1.cell? ⟨g, x5_1.toNat * 14 + 4, none⟩ = some (.int .i64 (rd_T136 x0_1 x5_1).f4) := hq_.1 4 _ rfl; have hx_5 : ws1.cell? ⟨g, x5_1.toNat * 14 + 5, none⟩ = some (.int .i64 (rd_T136 x0_1 x5_1).f5) := hq_.1 5 _ rfl; have hx_6 : ws1.cell? ⟨g, x5_1.toNat * 14 + 6, none⟩ = some (.slice A6 0 c6) := hq_.1 6 _ rfl; have hx_7 : ws1.cell? ⟨g, x5_1.toNat * 14 + 7, none⟩ = some (.bool (rd_T136 x0_1 x5_1).f6.f1) := hq_.1 7 _ rfl; have hx_8 : ws1.cell? ⟨g, x5_1.toNat * 14 + 8, none⟩ = some (.int .i64 (rd_T136 x0_1 x5_1).f6.f2.f0) := hq_.1 8 _ rfl; have hx_9 : ws1.cell? ⟨g, x5_1.toNat * 14 + 9, none⟩ = some (.slice A9 0 c9) := hq_.1 9 _ rfl; have hx_10 : ws1.cell? ⟨g, x5_1.toNat * 14 + 10, none⟩ = some (.int .i64 (rd_T136 x0_1 x5_1).f6.f2.f2) := hq_.1 10 _ rfl; have hx_11 : ws1.cell? ⟨g, x5_1.toNat * 14 + 11, none⟩ = some (.int .i64 (rd_T136 x0_1 x5_1).f6.f2.f3) := hq_.1 11 _ rfl; have hx_12 : ws1.cell? ⟨g, x5_1.toNat * 14 + 12, none⟩ = some (.int .i64 (rd_T136 x0_1 x5_1).f6.f2.f4) := hq_.1 12 _ rfl; have hx_13 : ws1.cell? ⟨g, x5_1.toNat * 14 + 13, none⟩ = some (.slice A13 0 c13) := hq_.1 13 _ rfl; have hf_0 : ws1.frozen? ⟨g, x5_1.toNat * 14, none⟩ = false := hq_.2 0; have hf_1 : ws1.frozen? ⟨g, x5_1.toNat * 14 + 1, none⟩ = false := hq_.2 1; have hf_2 : ws1.frozen? ⟨g, x5_1.toNat * 14 + 2, none⟩ = false := hq_.2 2; have hf_3 : ws1.frozen? ⟨g, x5_1.toNat * 14 + 3, none⟩ = false := hq_.2 3; have hf_4 : ws1.frozen? ⟨g, x5_1.toNat * 14 + 4, none⟩ = false := hq_.2 4; have hf_5 : ws1.frozen? ⟨g, x5_1.toNat * 14 + 5, none⟩ = false := hq_.2 5; have hf_7 : ws1.frozen? ⟨g, x5_1.toNat * 14 + 7, none⟩ = false := hq_.2 7; have hf_8 : ws1.frozen? ⟨g, x5_1.toNat * 14 + 8, none⟩ = false := hq_.2 8; have hf_10 : ws1.frozen? ⟨g, x5_1.toNat * 14 + 10, none⟩ = false := hq_.2 10; have hf_11 : ws1.frozen? ⟨g, x5_1.toNat * 14 + 11, none⟩ = false := hq_.2 11; have hf_12 : ws1.frozen? ⟨g, x5_1.toNat * 14 + 12, none⟩ = false := hq_.2 12; clear hq_)
            | ((with_reducible refine gate_store (t := 2) (p := 23) rfl ?_); refine store_event (t := 2) (p := 23) (v := ?vo2) (w1 := (ws1.setCell ⟨g, x5_1.toNat * 14 + 1, none⟩ (.int .i64 (wrap64 (x1_1 + 1))))) ?hg ?ho ?hn ?hr ?_; (case ho => rfl); (case hg => rfl); (case hn => rfl); (case hr => first | (go_simp; done) | (go_simp; rfl)); intro ws2 hw; obtain ⟨hH_, hgr_⟩ := Kd.H_seg HH.out HP4.out HP3.out (seg := [.int .i64 (wrap64 (x1_1 + 1))]) (j := 1) (by show (2 : Nat) ≤ 14; decide) (by simp [Value.oneCell']); have HG8 : Aside0 (ws1.grownBy ws2 (some g)) := ⟨by rw [hw]; exact hgr_⟩; replace HH : Aside0 (Kd.H k136 136 ws2 w0.heap.size P0_ (.slice (some ⟨g, 0, none⟩) n cu) x0_1 x5_1 oki [.int .i64 x1_1, .int .i64 (wrap64 (x1_1 + 1)), .int .i64 (rd_T136 x0_1 x5_1).f2, .int .i64 (rd_T136 x0_1 x5_1).f3, .int .i64 (rd_T136 x0_1 x5_1).f4, .int .i64 (rd_T136 x0_1 x5_1).f5, .slice A6 0 c6, .bool (rd_T136 x0_1 x5_1).f6.f1, .int .i64 (rd_T136 x0_1 x5_1).f6.f2.f0, .slice A9 0 c9, .int .i64 (rd_T136 x0_1 x5_1).f6.f2.f2, .int .i64 (rd_T136 x0_1 x5_1).f6.f2.f3, .int .i64 (rd_T136 x0_1 x5_1).f6.f2.f4, .slice A13 0 c13]) := ⟨by rw [hw]; exact hH_⟩; replace HR6 : Aside0 (Kd.R k167 167 ws2 w0.heap.size oki (.slice A6 0 c6) []) := ⟨Kd.R_grown HR6.out HG8.out (fun k_ hk_ e_ => (HOK.out k_ hk_).2 (by injection e_))⟩; replace HR9 : Aside0 (Kd.R (Kd.int .i64) 2 ws2 w0.heap.size oki (.slice A9 0 c9) []) := ⟨Kd.R_grown HR9.out HG8.out (fun k_ hk_ e_ => (HOK.out k_ hk_).2 (by injection e_))⟩; replace HR13 : Aside0 (Kd.R k167 167 ws2 w0.heap.size oki (.slice A13 0 c13) []) := ⟨Kd.R_grown HR13.out HG8.out (fun k_ hk_ e_ => (HOK.out k_ hk_).2 (by injection e_))⟩; replace HB := Aside0.mk ((by rw [hw]; exact below_set (HB.out) GB.out : Below w0.heap.size w0 ws2)); replace HK := Aside0.mk (Kept.of_grown (S := P0_) HG8.out HK.out (fun k_ e_ => .inl (HOG.out k_ e_))); clear hw hH_ hgr_ HG8 hx_0 hx_1 hx_2 hx_3 hx_4 hx_5 hx_6 hx_7 hx_8 hx_9 hx_10 hx_11 hx_12 hx_13 hf_0 hf_1 hf_2 hf_3 hf_4 hf_5 hf_7 hf_8 hf_10 hf_11 hf_12; have hq_ := H_cells HH.out HP4.out HP3.out; have hx_0 : ws2.cell? ⟨g, x5_1.toNat * 14, none⟩ = some (.int .i64 x1_1) := hq_.1 0 _ rfl; have hx_1 : ws2.cell? ⟨g, x5_1.toNat * 14 + 1, none⟩ = some (.int .i64 (wrap64 (x1_1 + 1))) := hq_.1 1 _ rfl; have hx_2 : ws2.cell? ⟨g, x5_1.toNat * 14 + 2, none⟩ = some (.int .i64 (rd_T136 x0_1 x5_1).f2) := hq_.1 2 _ rfl; have hx_3 : ws2.cell? ⟨g, x5_1.toNat * 14 + 3, none⟩ = some (.int .i64 (rd_T136 x0_1 x5_1).f3) := hq_.1 3 _ rfl; have hx_4 : ws2.cell? ⟨g, x5_1.toNat * 14 + 4, none⟩ = some (.int .i64 (rd_T136 x0_1 x5_1).f4) := hq_.1 4 _ rfl; have hx_5 : ws2.cell? ⟨g, x5_1.toNat * 14 + 5, none⟩ = some (.int .i64 (rd_T136 x0_1 x5_1).f5) := hq_.1 5 _ rfl; have hx_6 : ws2.cell? ⟨g, x5_1.toNat * 14 + 6, none⟩ = some (.slice A6 0 c6) := hq_.1 6 _ rfl; have hx_7 : ws2.cell? ⟨g, x5_1.toNat * 14 + 7, none⟩ = some (.bool (rd_T136 x0_1 x5_1).f6.f1) := hq_.1 7 _ rfl; have hx_8 : ws2.cell? ⟨g, x5_1.toNat * 14 + 8, none⟩ = some (.int .i64 (rd_T136 x0_1 x5_1).f6.f2.f0) := hq_.1 8 _ rfl; have hx_9 : ws2.cell? ⟨g, x5_1.toNat * 14 + 9, none⟩ = some (.slice A9 0 c9) := hq_.1 9 _ rfl; have hx_10 : ws2.cell? ⟨g, x5_1.toNat * 14 + 10, none⟩ = some (.int .i64 (rd_T136 x0_1 x5_1).f6.f2.f2) := hq_.1 10 _ rfl; have hx_11 : ws2.cell? ⟨g, x5_1.toNat * 14 + 11, none⟩ = some (.int .i64 (rd_T136 x0_1 x5_1).f6.f2.f3) := hq_.1 11 _ rfl; have hx_12 : ws2.cell? ⟨g, x5_1.toNat * 14 + 12, none⟩ = some (.int .i64 (rd_T136 x0_1 x5_1).f6.f2.f4) := hq_.1 12 _ rfl; have hx_13 : ws2.cell? ⟨g, x5_1.toNat * 14 + 13, none⟩ = some (.slice A13 0 c13) := hq_.1 13 _ rfl; have hf_0 : ws2.frozen? ⟨g, x5_1.toNat * 14, none⟩ = false := hq_.2 0; have hf_1 : ws2.frozen? ⟨g, x5_1.toNat * 14 + 1, none⟩ = false := hq_.2 1; have hf_2 : ws2.frozen? ⟨g, x5_1.toNat * 14 + 2, none⟩ = false := hq_.2 2; have hf_3 : ws2.frozen? ⟨g, x5_1.toNat * 14 + 3, none⟩ = false := hq_.2 3; have hf_4 : ws2.frozen? ⟨g, x5_1.toNat * 14 + 4, none⟩ = false := hq_.2 4; have hf_5 : ws2.frozen? ⟨g, x5_1.toNat * 14 + 5, none⟩ = false := hq_.2 5; have hf_7 : ws2.frozen? ⟨g, x5_1.toNat * 14 + 7, none⟩ = false := hq_.2 7; have hf_8 : ws2.frozen? ⟨g, x5_1.toNat * 14 + 8, none⟩ = false := hq_.2 8; have hf_10 : ws2.frozen? ⟨g, x5_1.toNat * 14 + 10, none⟩ = false := hq_.2 10; have hf_11 : ws2.frozen? ⟨g, x5_1.toNat * 14 + 11, none⟩ = false := hq_.2 11; have hf_12 : ws2.frozen? ⟨g, x5_1.toNat * 14 + 12, none⟩ = false := hq_.2 12; clear hq_)
            | ((with_reducible refine gate_store (t := 2) (p := 30) rfl ?_); refine store_event (t := 2) (p := 30) (v := ?vo3) (w1 := (ws2.setCell ⟨g, x5_1.toNat * 14 + 2, none⟩ (.int .i64 (wrap64 ((wrap64 (x1_1 + 1)) + 1))))) ?hg ?ho ?hn ?hr ?_; (case ho => rfl); (case hg => rfl); (case hn => rfl); (case hr => first | (go_simp; done) | (go_simp; rfl)); intro ws3 hw; obtain ⟨hH_, hgr_⟩ := Kd.H_seg HH.out HP4.out HP3.out (seg := [.int .i64 (wrap64 ((wrap64 (x1_1 + 1)) + 1))]) (j := 2) (by show (3 : Nat) ≤ 14; decide) (by simp [Value.oneCell']); have HG8 : Aside0 (ws2.grownBy ws3 (some g)) := ⟨by rw [hw]; exact hgr_⟩; replace HH : Aside0 (Kd.H k136 136 ws3 w0.heap.size P0_ (.slice (some ⟨g, 0, none⟩) n cu) x0_1 x5_1 oki [.int .i64 x1_1, .int .i64 (wrap64 (x1_1 + 1)), .int .i64 (wrap64 ((wrap64 (x1_1 + 1)) + 1)), .int .i64 (rd_T136 x0_1 x5_1).f3, .int .i64 (rd_T136 x0_1 x5_1).f4, .int .i64 (rd_T136 x0_1 x5_1).f5, .slice A6 0 c6, .bool (rd_T136 x0_1 x5_1).f6.f1, .int .i64 (rd_T136 x0_1 x5_1).f6.f2.f0, .slice A9 0 c9, .int .i64 (rd_T136 x0_1 x5_1).f6.f2.f2, .int .i64 (rd_T136 x0_1 x5_1).f6.f2.f3, .int .i64 (rd_T136 x0_1 x5_1).f6.f2.f4, .slice A13 0 c13]) := ⟨by rw [hw]; exact hH_⟩; replace HR6 : Aside0 (Kd.R k167 167 ws3 w0.heap.size oki (.slice A6 0 c6) []) := ⟨Kd.R_grown HR6.out HG8.out (fun k_ hk_ e_ => (HOK.out k_ hk_).2 (by injection e_))⟩; replace HR9 : Aside0 (Kd.R (Kd.int .i64) 2 ws3 w0.heap.size oki (.slice A9 0 c9) []) := ⟨Kd.R_grown HR9.out HG8.out (fun k_ hk_ e_ => (HOK.out k_ hk_).2 (by injection e_))⟩; replace HR13 : Aside0 (Kd.R k167 167 ws3 w0.heap.size oki (.slice A13 0 c13) []) := ⟨Kd.R_grown HR13.out HG8.out (fun k_ hk_ e_ => (HOK.out k_ hk_).2 (by injection e_))⟩; replace HB := Aside0.mk ((by rw [hw]; exact below_set (HB.out) GB.out : Below w0.heap.size w0 ws3)); replace HK := Aside0.mk (Kept.of_grown (S := P0_) HG8.out HK.out (fun k_ e_ => .inl (HOG.out k_ e_))); clear hw hH_ hgr_ HG8 hx_0 hx_1 hx_2 hx_3 hx_4 hx_5 hx_6 hx_7 hx_8 hx_9 hx_10 hx_11 hx_12 hx_13 hf_0 hf_1 hf_2 hf_3 hf_4 hf_5 hf_7 hf_8 hf_10 hf_11 hf_12; have hq_ := H_cells HH.out HP4.out HP3.out; have hx_0 : ws3.cell? ⟨g, x5_1.toNat * 14, none⟩ = some (.int .i64 x1_1) := hq_.1 0 _ rfl; have hx_1 : ws3.cell? ⟨g, x5_1.toNat * 14 + 1, none⟩ = some (.int .i64 (wrap64 (x1_1 + 1))) := hq_.1 1 _ rfl; have hx_2 : ws3.cell? ⟨g, x5_1.toNat * 14 + 2, none⟩ = some (.int .i64 (wrap64 ((wrap64 (x1_1 + 1)) + 1))) := hq_.1 2 _ rfl; have hx_3 : ws3.cell? ⟨g, x5_1.toNat * 14 + 3, none⟩ = some (.int .i64 (rd_T136 x0_1 x5_1).f3) := hq_.1 3 _ rfl; have hx_4 : ws3.cell? ⟨g, x5_1.toNat * 14 + 4, none⟩ = some (.int .i64 (rd_T136 x0_1 x5_1).f4) := hq_.1 4 _ rfl; have hx_5 : ws3.cell? ⟨g, x5_1.toNat * 14 + 5, none⟩ = some (.int .i64 (rd_T136 x0_1 x5_1).f5) := hq_.1 5 _ rfl; have hx_6 : ws3.cell? ⟨g, x5_1.toNat * 14 + 6, none⟩ = some (.slice A6 0 c6) := hq_.1 6 _ rfl; have hx_7 : ws3.cell? ⟨g, x5_1.toNat * 14 + 7, none⟩ = some (.bool (rd_T136 x0_1 x5_1).f6.f1) := hq_.1 7 _ rfl; have hx_8 : ws3.cell? ⟨g, x5_1.toNat * 14 + 8, none⟩ = some (.int .i64 (rd_T136 x0_1 x5_1).f6.f2.f0) := hq_.1 8 _ rfl; have hx_9 : ws3.cell? ⟨g, x5_1.toNat * 14 + 9, none⟩ = some (.slice A9 0 c9) := hq_.1 9 _ rfl; have hx_10 : ws3.cell? ⟨g, x5_1.toNat * 14 + 10, none⟩ = some (.int .i64 (rd_T136 x0_1 x5_1).f6.f2.f2) := hq_.1 10 _ rfl; have hx_11 : ws3.cell? ⟨g, x5_1.toNat * 14 + 11, none⟩ = some (.int .i64 (rd_T136 x0_1 x5_1).f6.f2.f3) := hq_.1 11 _ rfl; have hx_12 : ws3.cell? ⟨g, x5_1.toNat * 14 + 12, none⟩ = some (.int .i64 (rd_T136 x0_1 x5_1).f6.f2.f4) := hq_.1 12 _ rfl; have hx_13 : ws3.cell? ⟨g, x5_1.toNat * 14 + 13, none⟩ = some (.slice A13 0 c13) := hq_.1 13 _ rfl; have hf_0 : ws3.frozen? ⟨g, x5_1.toNat * 14, none⟩ = false := hq_.2 0; have hf_1 : ws3.frozen? ⟨g, x5_1.toNat * 14 + 1, none⟩ = false := hq_.2 1; have hf_2 : ws3.frozen? ⟨g, x5_1.toNat * 14 + 2, none⟩ = false := hq_.2 2; have hf_3 : ws3.frozen? ⟨g, x5_1.toNat * 14 + 3, none⟩ = false := hq_.2 3; have hf_4 : ws3.frozen? ⟨g, x5_1.toNat * 14 + 4, none⟩ = false := hq_.2 4; have hf_5 : ws3.frozen? ⟨g, x5_1.toNat * 14 + 5, none⟩ = false := hq_.2 5; have hf_7 : ws3.frozen? ⟨g, x5_1.toNat * 14 + 7, none⟩ = false := hq_.2 7; have hf_8 : ws3.frozen? ⟨g, x5_1.toNat * 14 + 8, none⟩ = false := hq_.2 8; have hf_10 : ws3.frozen? ⟨g, x5_1.toNat * 14 + 10, none⟩ = false := hq_.2 10; have hf_11 : ws3.frozen? ⟨g, x5_1.toNat * 14 + 11, none⟩ = false := hq_.2 11; have hf_12 : ws3.frozen? ⟨g, x5_1.toNat * 14 + 12, none⟩ = false := hq_.2 12; clear hq_)
            | ((with_reducible refine gate_store (t := 2) (p := 37) rfl ?_); refine store_event (t := 2) (p := 37) (v := ?vo4) (w1 := (ws3.setCell ⟨g, x5_1.toNat * 14 + 3, none⟩ (.int .i64 (wrap64 ((wrap64 ((wrap64 (x1_1 + 1)) + 1)) + 1))))) ?hg ?ho ?hn ?hr ?_; (case ho => rfl); (case hg => rfl); (case hn => rfl); (case hr => first | (go_simp; done) | (go_simp; rfl)); intro ws4 hw; obtain ⟨hH_, hgr_⟩ := Kd.H_seg HH.out HP4.out HP3.out (seg := [.int .i64 (wrap64 ((wrap64 ((wrap64 (x1_1 + 1)) + 1)) + 1))]) (j := 3) (by show (4 : Nat) ≤ 14; decide) (by simp [Value.oneCell']); have HG8 : Aside0 (ws3.grownBy ws4 (some g)) := ⟨by rw [hw]; exact hgr_⟩; replace HH : Aside0 (Kd.H k136 136 ws4 w0.heap.size P0_ (.slice (some ⟨g, 0, none⟩) n cu) x0_1 x5_1 oki [.int .i64 x1_1, .int .i64 (wrap64 (x1_1 + 1)), .int .i64 (wrap64 ((wrap64 (x1_1 + 1)) + 1)), .int .i64 (wrap64 ((wrap64 ((wrap64 (x1_1 + 1)) + 1)) + 1)), .int .i64 (rd_T136 x0_1 x5_1).f4, .int .i64 (rd_T136 x0_1 x5_1).f5, .slice A6 0 c6, .bool (rd_T136 x0_1 x5_1).f6.f1, .int .i64 (rd_T136 x0_1 x5_1).f6.f2.f0, .slice A9 0 c9, .int .i64 (rd_T136 x0_1 x5_1).f6.f2.f2, .int .i64 (rd_T136 x0_1 x5_1).f6.f2.f3, .int .i64 (rd_T136 x0_1 x5_1).f6.f2.f4, .slice A13 0 c13]) := ⟨by rw [hw]; exact hH_⟩; replace HR6 : Aside0 (Kd.R k167 167 ws4 w0.heap.size oki (.slice A6 0 c6) []) := ⟨Kd.R_grown HR6.out HG8.out (fun k_ hk_ e_ => (HOK.out k_ hk_).2 (by injection e_))⟩; replace HR9 : Aside0 (Kd.R (Kd.int .i64) 2 ws4 w0.heap.size oki (.slice A9 0 c9) []) := ⟨Kd.R_grown HR9.out HG8.out (fun k_ hk_ e_ => (HOK.out k_ hk_).2 (by injection e_))⟩; replace HR13 : Aside0 (Kd.R k167 167 ws4 w0.heap.size oki (.slice A13 0 c13) []) := ⟨Kd.R_grown HR13.out HG8.out (fun k_ hk_ e_ => (HOK.out k_ hk_).2 (by injection e_))⟩; replace HB := Aside0.mk ((by rw [hw]; exact below_set (HB.out) GB.out : Below w0.heap.size w0 ws4)); replace HK := Aside0.mk (Kept.of_grown (S := P0_) HG8.out HK.out (fun k_ e_ => .inl (HOG.out k_ e_))); clear hw hH_ hgr_ HG8 hx_0 hx_1 hx_2 hx_3 hx_4 hx_5 hx_6 hx_7 hx_8 hx_9 hx_10 hx_11 hx_12 hx_13 hf_0 hf_1 hf_2 hf_3 hf_4 hf_5 hf_7 hf_8 hf_10 hf_11 hf_12; have hq_ := H_cells HH.out HP4.out HP3.out; have hx_0 : ws4.cell? ⟨g, x5_1.toNat * 14, none⟩ = some (.int .i64 x1_1) := hq_.1 0 _ rfl; have hx_1 : ws4.cell? ⟨g, x5_1.toNat * 14 + 1, none⟩ = some (.int .i64 (wrap64 (x1_1 + 1))) := hq_.1 1 _ rfl; have hx_2 : ws4.cell? ⟨g, x5_1.toNat * 14 + 2, none⟩ = some (.int .i64 (wrap64 ((wrap64 (x1_1 + 1)) + 1))) := hq_.1 2 _ rfl; have hx_3 : ws4.cell? ⟨g, x5_1.toNat * 14 + 3, none⟩ = some (.int .i64 (wrap64 ((wrap64 ((wrap64 (x1_1 + 1)) + 1)) + 1))) := hq_.1 3 _ rfl; have hx_4 : ws4.cell? ⟨g, x5_1.toNat * 14 + 4, none⟩ = some (.int .i64 (rd_T136 x0_1 x5_1).f4) := hq_.1 4 _ rfl; have hx_5 : ws4.cell? ⟨g, x5_1.toNat * 14 + 5, none⟩ = some (.int .i64 (rd_T136 x0_1 x5_1).f5) := hq_.1 5 _ rfl; have hx_6 : ws4.cell? ⟨g, x5_1.toNat * 14 + 6, none⟩ = some (.slice A6 0 c6) := hq_.1 6 _ rfl; have hx_7 : ws4.cell? ⟨g, x5_1.toNat * 14 + 7, none⟩ = some (.bool (rd_T136 x0_1 x5_1).f6.f1) := hq_.1 7 _ rfl; have hx_8 : ws4.cell? ⟨g, x5_1.toNat * 14 + 8, none⟩ = some (.int .i64 (rd_T136 x0_1 x5_1).f6.f2.f0) := hq_.1 8 _ rfl; have hx_9 : ws4.cell? ⟨g, x5_1.toNat * 14 + 9, none⟩ = some (.slice A9 0 c9) := hq_.1 9 _ rfl; have hx_10 : ws4.cell? ⟨g, x5_1.toNat * 14 + 10, none⟩ = some (.int .i64 (rd_T136 x0_1 x5_1).f6.f2.f2) := hq_.1 10 _ rfl; have hx_11 : ws4.cell? ⟨g, x5_1.toNat * 14 + 11, none⟩ = some (.int .i64 (rd_T136 x0_1 x5_1).f6.f2.f3) := hq_.1 11 _ rfl; have hx_12 : ws4.cell? ⟨g, x5_1.toNat * 14 + 12, none⟩ = some (.int .i64 (rd_T136 x0_1 x5_1).f6.f2.f4) := hq_.1 12 _ rfl; have hx_13 : ws4.cell? ⟨g, x5_1.toNat * 14 + 13, none⟩ = some (.slice A13 0 c13) := hq_.1 13 _ rfl; have hf_0 : ws4.frozen? ⟨g, x5_1.toNat * 14, none⟩ = false := hq_.2 0; have hf_1 : ws4.frozen? ⟨g, x5_1.toNat * 14 + 1, none⟩ = false := hq_.2 1; have hf_2 : ws4.frozen? ⟨g, x5_1.toNat * 14 + 2, none⟩ = false := hq_.2 2; have hf_3 : ws4.frozen? ⟨g, x5_1.toNat * 14 + 3, none⟩ = false := hq_.2 3; have hf_4 : ws4.frozen? ⟨g, x5_1.toNat * 14 + 4, none⟩ = false := hq_.2 4; have hf_5 : ws4.frozen? ⟨g, x5_1.toNat * 14 + 5, none⟩ = false := hq_.2 5; have hf_7 : ws4.frozen? ⟨g, x5_1.toNat * 14 + 7, none⟩ = false := hq_.2 7; have hf_8 : ws4.frozen? ⟨g, x5_1.toNat * 14 + 8, none⟩ = false := hq_.2 8; have hf_10 : ws4.frozen? ⟨g, x5_1.toNat * 14 + 10, none⟩ = false := hq_.2 10; have hf_11 : ws4.frozen? ⟨g, x5_1.toNat * 14 + 11, none⟩ = false := hq_.2 11; have hf_12 : ws4.frozen? ⟨g, x5_1.toNat * 14 + 12, none⟩ = false := hq_.2 12; clear hq_)
            | ((with_reducible refine gate_store (t := 2) (p := 44) rfl ?_); refine store_event (t := 2) (p := 44) (v := ?vo5) (w1 := (ws4.setCell ⟨g, x5_1.toNat * 14 + 4, none⟩ (.int .i64 (wrap64 ((wrap64 ((wrap64 ((wrap64 (x1_1 + 1)) + 1)) + 1)) + 1))))) ?hg ?ho ?hn ?hr ?_; (case ho => rfl); (case hg => rfl); (case hn => rfl); (case hr => first | (go_simp; done) | (go_simp; rfl)); intro ws5 hw; obtain ⟨hH_, hgr_⟩ := Kd.H_seg HH.out HP4.out HP3.out (seg := [.int .i64 (wrap64 ((wrap64 ((wrap64 ((wrap64 (x1_1 + 1)) + 1)) + 1)) + 1))]) (j := 4) (by show (5 : Nat) ≤ 14; decide) (by simp [Value.oneCell']); have HG8 : Aside0 (ws4.grownBy ws5 (some g)) := ⟨by rw [hw]; exact hgr_⟩; replace HH : Aside0 (Kd.H k136 136 ws5 w0.heap.size P0_ (.slice (some ⟨g, 0, none⟩) n cu) x0_1 x5_1 oki [.int .i64 x1_1, .int .i64 (wrap64 (x1_1 + 1)), .int .i64 (wrap64 ((wrap64 (x1_1 + 1)) + 1)), .int .i64 (wrap64 ((wrap64 ((wrap64 (x1_1 + 1)) + 1)) + 1)), .int .i64 (wrap64 ((wrap64 ((wrap64 ((wrap64 (x1_1 + 1)) + 1)) + 1)) + 1)), .int .i64 (rd_T136 x0_1 x5_1).f5, .slice A6 0 c6, .bool (rd_T136 x0_1 x5_1).f6.f1, .int .i64 (rd_T136 x0_1 x5_1).f6.f2.f0, .slice A9 0 c9, .int .i64 (rd_T136 x0_1 x5_1).f6.f2.f2, .int .i64 (rd_T136 x0_1 x5_1).f6.f2.f3, .int .i64 (rd_T136 x0_1 x5_1).f6.f2.f4, .slice A13 0 c13]) := ⟨by rw [hw]; exact hH_⟩; replace HR6 : Aside0 (Kd.R k167 167 ws5 w0.heap.size oki (.slice A6 0 c6) []) := ⟨Kd.R_grown HR6.out HG8.out (fun k_ hk_ e_ => (HOK.out k_ hk_).2 (by injection e_))⟩; replace HR9 : Aside0 (Kd.R (Kd.int .i64) 2 ws5 w0.heap.size oki (.slice A9 0 c9) []) := ⟨Kd.R_grown HR9.out HG8.out (fun k_ hk_ e_ => (HOK.out k_ hk_).2 (by injection e_))⟩; replace HR13 : Aside0 (Kd.R k167 167 ws5 w0.heap.size oki (.slice A13 0 c13) []) := ⟨Kd.R_grown HR13.out HG8.out (fun k_ hk_ e_ => (HOK.out k_ hk_).2 (by injection e_))⟩; replace HB := Aside0.mk ((by rw [hw]; exact below_set (HB.out) GB.out : Below w0.heap.size w0 ws5)); replace HK := Aside0.mk (Kept.of_grown (S := P0_) HG8.out HK.out (fun k_ e_ => .inl (HOG.out k_ e_))); clear hw hH_ hgr_ HG8 hx_0 hx_1 hx_2 hx_3 hx_4 hx_5 hx_6 hx_7 hx_8 hx_9 hx_10 hx_11 hx_12 hx_13 hf_0 hf_1 hf_2 hf_3 hf_4 hf_5 hf_7 hf_8 hf_10 hf_11 hf_12; have hq_ := H_cells HH.out HP4.out HP3.out; have hx_0 : ws5.cell? ⟨g, x5_1.toNat * 14, none⟩ = some (.int .i64 x1_1) := hq_.1 0 _ rfl; have hx_1 : ws5.cell? ⟨g, x5_1.toNat * 14 + 1, none⟩ = some (.int .i64 (wrap64 (x1_1 + 1))) := hq_.1 1 _ rfl; have hx_2 : ws5.cell? ⟨g, x5_1.toNat * 14 + 2, none⟩ = some (.int .i64 (wrap64 ((wrap64 (x1_1 + 1)) + 1))) := hq_.1 2 _ rfl; have hx_3 : ws5.cell? ⟨g, x5_1.toNat * 14 + 3, none⟩ = some (.int .i64 (wrap64 ((wrap64 ((wrap64 (x1_1 + 1)) + 1)) + 1))) := hq_.1 3 _ rfl; have hx_4 : ws5.cell? ⟨g, x5_1.toNat * 14 + 4, none⟩ = some (.int .i64 (wrap64 ((wrap64 ((wrap64 ((wrap64 (x1_1 + 1)) + 1)) + 1)) + 1))) := hq_.1 4 _ rfl; have hx_5 : ws5.cell? ⟨g, x5_1.toNat * 14 + 5, none⟩ = some (.int .i64 (rd_T136 x0_1 x5_1).f5) := hq_.1 5 _ rfl; have hx_6 : ws5.cell? ⟨g, x5_1.toNat * 14 + 6, none⟩ = some (.slice A6 0 c6) := hq_.1 6 _ rfl; have hx_7 : ws5.cell? ⟨g, x5_1.toNat * 14 + 7, none⟩ = some (.bool (rd_T136 x0_1 x5_1).f6.f1) := hq_.1 7 _ rfl; have hx_8 : ws5.cell? ⟨g, x5_1.toNat * 14 + 8, none⟩ = some (.int .i64 (rd_T136 x0_1 x5_1).f6.f2.f0) := hq_.1 8 _ rfl; have hx_9 : ws5.cell? ⟨g, x5_1.toNat * 14 + 9, none⟩ = some (.slice A9 0 c9) := hq_.1 9 _ rfl; have hx_10 : ws5.cell? ⟨g, x5_1.toNat * 14 + 10, none⟩ = some (.int .i64 (rd_T136 x0_1 x5_1).f6.f2.f2) := hq_.1 10 _ rfl; have hx_11 : ws5.cell? ⟨g, x5_1.toNat * 14 + 11, none⟩ = some (.int .i64 (rd_T136 x0_1 x5_1).f6.f2.f3) := hq_.1 11 _ rfl; have hx_12 : ws5.cell? ⟨g, x5_1.toNat * 14 + 12, none⟩ = some (.int .i64 (rd_T136 x0_1 x5_1).f6.f2.f4) := hq_.1 12 _ rfl; have hx_13 : ws5.cell? ⟨g, x5_1.toNat * 14 + 13, none⟩ = some (.slice A13 0 c13) := hq_.1 13 _ rfl; have hf_0 : ws5.frozen? ⟨g, x5_1.toNat * 14, none⟩ = false := hq_.2 0; have hf_1 : ws5.frozen? ⟨g, x5_1.toNat * 14 + 1, none⟩ = false := hq_.2 1; have hf_2 : ws5.frozen? ⟨g, x5_1.toNat * 14 + 2, none⟩ = false := hq_.2 2; have hf_3 : ws5.frozen? ⟨g, x5_1.toNat * 14 + 3, none⟩ = false := hq_.2 3; have hf_4 : ws5.frozen? ⟨g, x5_1.toNat * 14 + 4, none⟩ = false := hq_.2 4; have hf_5 : ws5.frozen? ⟨g, x5_1.toNat * 14 + 5, none⟩ = false := hq_.2 5; have hf_7 : ws5.frozen? ⟨g, x5_1.toNat * 14 + 7, none⟩ = false := hq_.2 7; have hf_8 : ws5.frozen? ⟨g, x5_1.toNat * 14 + 8, none⟩ = false := hq_.2 8; have hf_10 : ws5.frozen? ⟨g, x5_1.toNat * 14 + 10, none⟩ = false := hq_.2 10; have hf_11 : ws5.frozen? ⟨g, x5_1.toNat * 14 + 11, none⟩ = false := hq_.2 11; have hf_12 : ws5.frozen? ⟨g, x5_1.toNat * 14 + 12, none⟩ = false := hq_.2 12; clear hq_)
            | ((with_reducible refine gate_store (t := 2) (p := 51) rfl ?_); refine store_event (t := 2) (p := 51) (v := ?vo6) (w1 := (ws5.setCell ⟨g, x5_1.toNat * 14 + 5, none⟩ (.int .i64 (wrap64 ((wrap64 ((wrap64 ((wrap64 ((wrap64 (x1_1 + 1)) + 1)) + 1)) + 1)) + 1))))) ?hg ?ho ?hn ?hr ?_; (case ho => rfl); (case hg => rfl); (case hn => rfl); (case hr => first | (go_simp; done) | (go_simp; rfl)); intro ws6 hw; obtain ⟨hH_, hgr_⟩ := Kd.H_seg HH.out HP4.out HP3.out (seg := [.int .i64 (wrap64 ((wrap64 ((wrap64 ((wrap64 ((wrap64 (x1_1 + 1)) + 1)) + 1)) + 1)) + 1))]) (j := 5) (by show (6 : Nat) ≤ 14; decide) (by simp [Value.oneCell']); have HG8 : Aside0 (ws5.grownBy ws6 (some g)) := ⟨by rw [hw]; exact hgr_⟩; replace HH : Aside0 (Kd.H k136 136 ws6 w0.heap.size P0_ (.slice (some ⟨g, 0, none⟩) n cu) x0_1 x5_1 oki [.int .i64 x1_1, .int .i64 (wrap64 (x1_1 + 1)), .int .i64 (wrap64 ((wrap64 (x1_1 + 1)) + 1)), .int .i64 (wrap64 ((wrap64 ((wrap64 (x1_1 + 1)) + 1)) + 1)), .int .i64 (wrap64 ((wrap64 ((wrap64 ((wrap64 (x1_1 + 1)) + 1)) + 1)) + 1)), .int .i64 (wrap64 ((wrap64 ((wrap64 ((wrap64 ((wrap64 (x1_1 + 1)) + 1)) + 1)) + 1)) + 1)), .slice A6 0 c6, .bool (rd_T136 x0_1 x5_1).f6.f1, .int .i64 (rd_T136 x0_1 x5_1).f6.f2.f0, .slice A9 0 c9, .int .i64 (rd_T136 x0_1 x5_1).f6.f2.f2, .int .i64 (rd_T136 x0_1 x5_1).f6.f2.f3, .int .i64 (rd_T136 x0_1 x5_1).f6.f2.f4, .slice A13 0 c13]) := ⟨by rw [hw]; exact hH_⟩; replace HR6 : Aside0 (Kd.R k167 167 ws6 w0.heap.size oki (.slice A6 0 c6) []) := ⟨Kd.R_grown HR6.out HG8.out (fun k_ hk_ e_ => (HOK.out k_ hk_).2 (by injection e_))⟩; replace HR9 : Aside0 (Kd.R (Kd.int .i64) 2 ws6 w0.heap.size oki (.slice A9 0 c9) []) := ⟨Kd.R_grown HR9.out HG8.out (fun k_ hk_ e_ => (HOK.out k_ hk_).2 (by injection e_))⟩; replace HR13 : Aside0 (Kd.R k167 167 ws6 w0.heap.size oki (.slice A13 0 c13) []) := ⟨Kd.R_grown HR13.out HG8.out (fun k_ hk_ e_ => (HOK.out k_ hk_).2 (by injection e_))⟩; replace HB := Aside0.mk ((by rw [hw]; exact below_set (HB.out) GB.out : Below w0.heap.size w0 ws6)); replace HK := Aside0.mk (Kept.of_grown (S := P0_) HG8.out HK.out (fun k_ e_ => .inl (HOG.out k_ e_))); clear hw hH_ hgr_ HG8 hx_0 hx_1 hx_2 hx_3 hx_4 hx_5 hx_6 hx_7 hx_8 hx_9 hx_10 hx_11 hx_12 hx_13 hf_0 hf_1 hf_2 hf_3 hf_4 hf_5 hf_7 hf_8 hf_10 hf_11 hf_12; have hq_ := H_cells HH.out HP4.out HP3.out; have hx_0 : ws6.cell? ⟨g, x5_1.toNat * 14, none⟩ = some (.int .i64 x1_1) := hq_.1 0 _ rfl; have hx_1 : ws6.cell? ⟨g, x5_1.toNat * 14 + 1, none⟩ = some (.int .i64 (wrap64 (x1_1 + 1))) := hq_.1 1 _ rfl; have hx_2 : ws6.cell? ⟨g, x5_1.toNat * 14 + 2, none⟩ = some (.int .i64 (wrap64 ((wrap64 (x1_1 + 1)) + 1))) := hq_.1 2 _ rfl; have hx_3 : ws6.cell? ⟨g, x5_1.toNat * 14 + 3, none⟩ = some (.int .i64 (wrap64 ((wrap64 ((wrap64 (x1_1 + 1)) + 1)) + 1))) := hq_.1 3 _ rfl; have hx_4 : ws6.cell? ⟨g, x5_1.toNat * 14 + 4, none⟩ = some (.int .i64 (wrap64 ((wrap64 ((wrap64 ((wrap64 (x1_1 + 1)) + 1)) + 1)) + 1))) := hq_.1 4 _ rfl; have hx_5 : ws6.cell? ⟨g, x5_1.toNat * 14 + 5, none⟩ = some (.int .i64 (wrap64 ((wrap64 ((wrap64 ((wrap64 ((wrap64 (x1_1 + 1)) + 1)) + 1)) + 1)) + 1))) := hq_.1 5 _ rfl; have hx_6 : ws6.cell? ⟨g, x5_1.toNat * 14 + 6, none⟩ = some (.slice A6 0 c6) := hq_.1 6 _ rfl; have hx_7 : ws6.cell? ⟨g, x5_1.toNat * 14 + 7, none⟩ = some (.bool (rd_T136 x0_1 x5_1).f6.f1) := hq_.1 7 _ rfl; have hx_8 : ws6.cell? ⟨g, x5_1.toNat * 14 + 8, none⟩ = some (.int .i64 (rd_T136 x0_1 x5_1).f6.f2.f0) := hq_.1 8 _ rfl; have hx_9 : ws6.cell? ⟨g, x5_1.toNat * 14 + 9, none⟩ = some (.slice A9 0 c9) := hq_.1 9 _ rfl; have hx_10 : ws6.cell? ⟨g, x5_1.toNat * 14 + 10, none⟩ = some (.int .i64 (rd_T136 x0_1 x5_1).f6.f2.f2) := hq_.1 10 _ rfl; have hx_11 : ws6.cell? ⟨g, x5_1.toNat * 14 + 11, none⟩ = some (.int .i64 (rd_T136 x0_1 x5_1).f6.f2.f3) := hq_.1 11 _ rfl; have hx_12 : ws6.cell? ⟨g, x5_1.toNat * 14 + 12, none⟩ = some (.int .i64 (rd_T136 x0_1 x5_1).f6.f2.f4) := hq_.1 12 _ rfl; have hx_13 : ws6.cell? ⟨g, x5_1.toNat * 14 + 13, none⟩ = some (.slice A13 0 c13) := hq_.1 13 _ rfl; have hf_0 : ws6.frozen? ⟨g, x5_1.toNat * 14, none⟩ = false := hq_.2 0; have hf_1 : ws6.frozen? ⟨g, x5_1.toNat * 14 + 1, none⟩ = false := hq_.2 1; have hf_2 : ws6.frozen? ⟨g, x5_1.toNat * 14 + 2, none⟩ = false := hq_.2 2; have hf_3 : ws6.frozen? ⟨g, x5_1.toNat * 14 + 3, none⟩ = false := hq_.2 3; have hf_4 : ws6.frozen? ⟨g, x5_1.toNat * 14 + 4, none⟩ = false := hq_.2 4; have hf_5 : ws6.frozen? ⟨g, x5_1.toNat * 14 + 5, none⟩ = false := hq_.2 5; have hf_7 : ws6.frozen? ⟨g, x5_1.toNat * 14 + 7, none⟩ = false := hq_.2 7; have hf_8 : ws6.frozen? ⟨g, x5_1.toNat * 14 + 8, none⟩ = false := hq_.2 8; have hf_10 : ws6.frozen? ⟨g, x5_1.toNat * 14 + 10, none⟩ = false := hq_.2 10; have hf_11 : ws6.frozen? ⟨g, x5_1.toNat * 14 + 11, none⟩ = false := hq_.2 11; have hf_12 : ws6.frozen? ⟨g, x5_1.toNat * 14 + 12, none⟩ = false := hq_.2 12; clear hq_)
            | ((with_reducible refine gate_dst (N := 61) rfl ?_); refine goe_ (some 61) Try.func65 #[.slice A6 0 c6, .int .i64 (wrap64 ((wrap64 ((wrap64 ((wrap64 ((wrap64 ((wrap64 (x1_1 + 1)) + 1)) + 1)) + 1)) + 1)) + 1))] ?_; (with_reducible refine (laws_markPrefixS_nil A6 c6 (wrap64 ((wrap64 ((wrap64 ((wrap64 ((wrap64 ((wrap64 (x1_1 + 1)) + 1)) + 1)) + 1)) + 1)) + 1)) _).mono ?_); rintro e w' ⟨rfl, rfl⟩; refine ⟨_, rfl, ?_⟩)
            | ((with_reducible refine gate_store (t := 4) (p := 69) rfl ?_); refine store_event (t := 4) (p := 69) (v := ?vo7) (w1 := (ws6.setCell ⟨g, x5_1.toNat * 14 + 7, none⟩ (.bool ((Int.tmod (wrap64 ((wrap64 ((wrap64 ((wrap64 ((wrap64 ((wrap64 (x1_1 + 1)) + 1)) + 1)) + 1)) + 1)) + 1)) 3) == 0)))) ?hg ?ho ?hn ?hr ?_; (case ho => rfl); (case hg => rfl); (case hn => rfl); (case hr => first | (go_simp; done) | (go_simp; rfl)); intro ws7 hw; obtain ⟨hH_, hgr_⟩ := Kd.H_seg HH.out HP4.out HP3.out (seg := [.bool ((Int.tmod (wrap64 ((wrap64 ((wrap64 ((wrap64 ((wrap64 ((wrap64 (x1_1 + 1)) + 1)) + 1)) + 1)) + 1)) + 1)) 3) == 0)]) (j := 7) (by show (8 : Nat) ≤ 14; decide) (by simp [Value.oneCell']); have HG8 : Aside0 (ws6.grownBy ws7 (some g)) := ⟨by rw [hw]; exact hgr_⟩; replace HH : Aside0 (Kd.H k136 136 ws7 w0.heap.size P0_ (.slice (some ⟨g, 0, none⟩) n cu) x0_1 x5_1 oki [.int .i64 x1_1, .int .i64 (wrap64 (x1_1 + 1)), .int .i64 (wrap64 ((wrap64 (x1_1 + 1)) + 1)), .int .i64 (wrap64 ((wrap64 ((wrap64 (x1_1 + 1)) + 1)) + 1)), .int .i64 (wrap64 ((wrap64 ((wrap64 ((wrap64 (x1_1 + 1)) + 1)) + 1)) + 1)), .int .i64 (wrap64 ((wrap64 ((wrap64 ((wrap64 ((wrap64 (x1_1 + 1)) + 1)) + 1)) + 1)) + 1)), .slice A6 0 c6, .bool ((Int.tmod (wrap64 ((wrap64 ((wrap64 ((wrap64 ((wrap64 ((wrap64 (x1_1 + 1)) + 1)) + 1)) + 1)) + 1)) + 1)) 3) == 0), .int .i64 (rd_T136 x0_1 x5_1).f6.f2.f0, .slice A9 0 c9, .int .i64 (rd_T136 x0_1 x5_1).f6.f2.f2, .int .i64 (rd_T136 x0_1 x5_1).f6.f2.f3, .int .i64 (rd_T136 x0_1 x5_1).f6.f2.f4, .slice A13 0 c13]) := ⟨by rw [hw]; exact hH_⟩; replace HR6 : Aside0 (Kd.R k167 167 ws7 w0.heap.size oki (.slice A6 0 c6) []) := ⟨Kd.R_grown HR6.out HG8.out (fun k_ hk_ e_ => (HOK.out k_ hk_).2 (by injection e_))⟩; replace HR9 : Aside0 (Kd.R (Kd.int .i64) 2 ws7 w0.heap.size oki (.slice A9 0 c9) []) := ⟨Kd.R_grown HR9.out HG8.out (fun k_ hk_ e_ => (HOK.out k_ hk_).2 (by injection e_))⟩; replace HR13 : Aside0 (Kd.R k167 167 ws7 w0.heap.size oki (.slice A13 0 c13) []) := ⟨Kd.R_grown HR13.out HG8.out (fun k_ hk_ e_ => (HOK.out k_ hk_).2 (by injection e_))⟩; replace HB := Aside0.mk ((by rw [hw]; exact below_set (HB.out) GB.out : Below w0.heap.size w0 ws7)); replace HK := Aside0.mk (Kept.of_grown (S := P0_) HG8.out HK.out (fun k_ e_ => .inl (HOG.out k_ e_))); clear hw hH_ hgr_ HG8 hx_0 hx_1 hx_2 hx_3 hx_4 hx_5 hx_6 hx_7 hx_8 hx_9 hx_10 hx_11 hx_12 hx_13 hf_0 hf_1 hf_2 hf_3 hf_4 hf_5 hf_7 hf_8 hf_10 hf_11 hf_12; have hq_ := H_cells HH.out HP4.out HP3.out; have hx_0 : ws7.cell? ⟨g, x5_1.toNat * 14, none⟩ = some (.int .i64 x1_1) := hq_.1 0 _ rfl; have hx_1 : ws7.cell? ⟨g, x5_1.toNat * 14 + 1, none⟩ = some (.int .i64 (wrap64 (x1_1 + 1))) := hq_.1 1 _ rfl; have hx_2 : ws7.cell? ⟨g, x5_1.toNat * 14 + 2, none⟩ = some (.int .i64 (wrap64 ((wrap64 (x1_1 + 1)) + 1))) := hq_.1 2 _ rfl; have hx_3 : ws7.cell? ⟨g, x5_1.toNat * 14 + 3, none⟩ = some (.int .i64 (wrap64 ((wrap64 ((wrap64 (x1_1 + 1)) + 1)) + 1))) := hq_.1 3 _ rfl; have hx_4 : ws7.cell? ⟨g, x5_1.toNat * 14 + 4, none⟩ = some (.int .i64 (wrap64 ((wrap64 ((wrap64 ((wrap64 (x1_1 + 1)) + 1)) + 1)) + 1))) := hq_.1 4 _ rfl; have hx_5 : ws7.cell? ⟨g, x5_1.toNat * 14 + 5, none⟩ = some (.int .i64 (wrap64 ((wrap64 ((wrap64 ((wrap64 ((wrap64 (x1_1 + 1)) + 1)) + 1)) + 1)) + 1))) := hq_.1 5 _ rfl; have hx_6 : ws7.cell? ⟨g, x5_1.toNat * 14 + 6, none⟩ = some (.slice A6 0 c6) := hq_.1 6 _ rfl; have hx_7 : ws7.cell? ⟨g, x5_1.toNat * 14 + 7, none⟩ = some (.bool ((Int.tmod (wrap64 ((wrap64 ((wrap64 ((wrap64 ((wrap64 ((wrap64 (x1_1 + 1)) + 1)) + 1)) + 1)) + 1)) + 1)) 3) == 0)) := hq_.1 7 _ rfl; have hx_8 : ws7.cell? ⟨g, x5_1.toNat * 14 + 8, none⟩ = some (.int .i64 (rd_T136 x0_1 x5_1).f6.f2.f0) := hq_.1 8 _ rfl; have hx_9 : ws7.cell? ⟨g, x5_1.toNat * 14 + 9, none⟩ = some (.slice A9 0 c9) := hq_.1 9 _ rfl; have hx_10 : ws7.cell? ⟨g, x5_1.toNat * 14 + 10, none⟩ = some (.int .i64 (rd_T136 x0_1 x5_1).f6.f2.f2) := hq_.1 10 _ rfl; have hx_11 : ws7.cell? ⟨g, x5_1.toNat * 14 + 11, none⟩ = some (.int .i64 (rd_T136 x0_1 x5_1).f6.f2.f3) := hq_.1 11 _ rfl; have hx_12 : ws7.cell? ⟨g, x5_1.toNat * 14 + 12, none⟩ = some (.int .i64 (rd_T136 x0_1 x5_1).f6.f2.f4) := hq_.1 12 _ rfl; have hx_13 : ws7.cell? ⟨g, x5_1.toNat * 14 + 13, none⟩ = some (.slice A13 0 c13) := hq_.1 13 _ rfl; have hf_0 : ws7.frozen? ⟨g, x5_1.toNat * 14, none⟩ = false := hq_.2 0; have hf_1 : ws7.frozen? ⟨g, x5_1.toNat * 14 + 1, none⟩ = false := hq_.2 1; have hf_2 : ws7.frozen? ⟨g, x5_1.toNat * 14 + 2, none⟩ = false := hq_.2 2; have hf_3 : ws7.frozen? ⟨g, x5_1.toNat * 14 + 3, none⟩ = false := hq_.2 3; have hf_4 : ws7.frozen? ⟨g, x5_1.toNat * 14 + 4, none⟩ = false := hq_.2 4; have hf_5 : ws7.frozen? ⟨g, x5_1.toNat * 14 + 5, none⟩ = false := hq_.2 5; have hf_7 : ws7.frozen? ⟨g, x5_1.toNat * 14 + 7, none⟩ = false := hq_.2 7; have hf_8 : ws7.frozen? ⟨g, x5_1.toNat * 14 + 8, none⟩ = false := hq_.2 8; have hf_10 : ws7.frozen? ⟨g, x5_1.toNat * 14 + 10, none⟩ = false := hq_.2 10; have hf_11 : ws7.frozen? ⟨g, x5_1.toNat * 14 + 11, none⟩ = false := hq_.2 11; have hf_12 : ws7.frozen? ⟨g, x5_1.toNat * 14 + 12, none⟩ = false := hq_.2 12; clear hq_)
            | ((with_reducible refine gate_store (t := 2) (p := 78) rfl ?_); refine store_event (t := 2) (p := 78) (v := ?vo8) (w1 := (ws7.setCell ⟨g, x5_1.toNat * 14 + 8, none⟩ (.int .i64 (wrap64 ((wrap64 ((wrap64 ((wrap64 ((wrap64 ((wrap64 ((wrap64 (x1_1 + 1)) + 1)) + 1)) + 1)) + 1)) + 1)) + 1))))) ?hg ?ho ?hn ?hr ?_; (case ho => rfl); (case hg => rfl); (case hn => rfl); (case hr => first | (go_simp; done) | (go_simp; rfl)); intro ws8 hw; obtain ⟨hH_, hgr_⟩ := Kd.H_seg HH.out HP4.out HP3.out (seg := [.int .i64 (wrap64 ((wrap64 ((wrap64 ((wrap64 ((wrap64 ((wrap64 ((wrap64 (x1_1 + 1)) + 1)) + 1)) + 1)) + 1)) + 1)) + 1))]) (j := 8) (by show (9 : Nat) ≤ 14; decide) (by simp [Value.oneCell']); have HG8 : Aside0 (ws7.grownBy ws8 (some g)) := ⟨by rw [hw]; exact hgr_⟩; replace HH : Aside0 (Kd.H k136 136 ws8 w0.heap.size P0_ (.slice (some ⟨g, 0, none⟩) n cu) x0_1 x5_1 oki [.int .i64 x1_1, .int .i64 (wrap64 (x1_1 + 1)), .int .i64 (wrap64 ((wrap64 (x1_1 + 1)) + 1)), .int .i64 (wrap64 ((wrap64 ((wrap64 (x1_1 + 1)) + 1)) + 1)), .int .i64 (wrap64 ((wrap64 ((wrap64 ((wrap64 (x1_1 + 1)) + 1)) + 1)) + 1)), .int .i64 (wrap64 ((wrap64 ((wrap64 ((wrap64 ((wrap64 (x1_1 + 1)) + 1)) + 1)) + 1)) + 1)), .slice A6 0 c6, .bool ((Int.tmod (wrap64 ((wrap64 ((wrap64 ((wrap64 ((wrap64 ((wrap64 (x1_1 + 1)) + 1)) + 1)) + 1)) + 1)) + 1)) 3) == 0), .int .i64 (wrap64 ((wrap64 ((wrap64 ((wrap64 ((wrap64 ((wrap64 ((wrap64 (x1_1 + 1)) + 1)) + 1)) + 1)) + 1)) + 1)) + 1)), .slice A9 0 c9, .int .i64 (rd_T136 x0_1 x5_1).f6.f2.f2, .int .i64 (rd_T136 x0_1 x5_1).f6.f2.f3, .int .i64 (rd_T136 x0_1 x5_1).f6.f2.f4, .slice A13 0 c13]) := ⟨by rw [hw]; exact hH_⟩; replace HR6 : Aside0 (Kd.R k167 167 ws8 w0.heap.size oki (.slice A6 0 c6) []) := ⟨Kd.R_grown HR6.out HG8.out (fun k_ hk_ e_ => (HOK.out k_ hk_).2 (by injection e_))⟩; replace HR9 : Aside0 (Kd.R (Kd.int .i64) 2 ws8 w0.heap.size oki (.slice A9 0 c9) []) := ⟨Kd.R_grown HR9.out HG8.out (fun k_ hk_ e_ => (HOK.out k_ hk_).2 (by injection e_))⟩; replace HR13 : Aside0 (Kd.R k167 167 ws8 w0.heap.size oki (.slice A13 0 c13) []) := ⟨Kd.R_grown HR13.out HG8.out (fun k_ hk_ e_ => (HOK.out k_ hk_).2 (by injection e_))⟩; replace HB := Aside0.mk ((by rw [hw]; exact below_set (HB.out) GB.out : Below w0.heap.size w0 ws8)); replace HK := Aside0.mk (Kept.of_grown (S := P0_) HG8.out HK.out (fun k_ e_ => .inl (HOG.out k_ e_))); clear hw hH_ hgr_ HG8 hx_0 hx_1 hx_2 hx_3 hx_4 hx_5 hx_6 hx_7 hx_8 hx_9 hx_10 hx_11 hx_12 hx_13 hf_0 hf_1 hf_2 hf_3 hf_4 hf_5 hf_7 hf_8 hf_10 hf_11 hf_12; have hq_ := H_cells HH.out HP4.out HP3.out; have hx_0 : ws8.cell? ⟨g, x5_1.toNat * 14, none⟩ = some (.int .i64 x1_1) := hq_.1 0 _ rfl; have hx_1 : ws8.cell? ⟨g, x5_1.toNat * 14 + 1, none⟩ = some (.int .i64 (wrap64 (x1_1 + 1))) := hq_.1 1 _ rfl; have hx_2 : ws8.cell? ⟨g, x5_1.toNat * 14 + 2, none⟩ = some (.int .i64 (wrap64 ((wrap64 (x1_1 + 1)) + 1))) := hq_.1 2 _ rfl; have hx_3 : ws8.cell? ⟨g, x5_1.toNat * 14 + 3, none⟩ = some (.int .i64 (wrap64 ((wrap64 ((wrap64 (x1_1 + 1)) + 1)) + 1))) := hq_.1 3 _ rfl; have hx_4 : ws8.cell? ⟨g, x5_1.toNat * 14 + 4, none⟩ = some (.int .i64 (wrap64 ((wrap64 ((wrap64 ((wrap64 (x1_1 + 1)) + 1)) + 1)) + 1))) := hq_.1 4 _ rfl; have hx_5 : ws8.cell? ⟨g, x5_1.toNat * 14 + 5, none⟩ = some (.int .i64 (wrap64 ((wrap64 ((wrap64 ((wrap64 ((wrap64 (x1_1 + 1)) + 1)) + 1)) + 1)) + 1))) := hq_.1 5 _ rfl; have hx_6 : ws8.cell? ⟨g, x5_1.toNat * 14 + 6, none⟩ = some (.slice A6 0 c6) := hq_.1 6 _ rfl; have hx_7 : ws8.cell? ⟨g, x5_1.toNat * 14 + 7, none⟩ = some (.bool ((Int.tmod (wrap64 ((wrap64 ((wrap64 ((wrap64 ((wrap64 ((wrap64 (x1_1 + 1)) + 1)) + 1)) + 1)) + 1)) + 1)) 3) == 0)) := hq_.1 7 _ rfl; have hx_8 : ws8.cell? ⟨g, x5_1.toNat * 14 + 8, none⟩ = some (.int .i64 (wrap64 ((wrap64 ((wrap64 ((wrap64 ((wrap64 ((wrap64 ((wrap64 (x1_1 + 1)) + 1)) + 1)) + 1)) + 1)) + 1)) + 1))) := hq_.1 8 _ rfl; have hx_9 : ws8.cell? ⟨g, x5_1.toNat * 14 + 9, none⟩ = some (.slice A9 0 c9) := hq_.1 9 _ rfl; have hx_10 : ws8.cell? ⟨g, x5_1.toNat * 14 + 10, none⟩ = some (.int .i64 (rd_T136 x0_1 x5_1).f6.f2.f2) := hq_.1 10 _ rfl; have hx_11 : ws8.cell? ⟨g, x5_1.toNat * 14 + 11, none⟩ = some (.int .i64 (rd_T136 x0_1 x5_1).f6.f2.f3) := hq_.1 11 _ rfl; have hx_12 : ws8.cell? ⟨g, x5_1.toNat * 14 + 12, none⟩ = some (.int .i64 (rd_T136 x0_1 x5_1).f6.f2.f4) := hq_.1 12 _ rfl; have hx_13 : ws8.cell? ⟨g, x5_1.toNat * 14 + 13, none⟩ = some (.slice A13 0 c13) := hq_.1 13 _ rfl; have hf_0 : ws8.frozen? ⟨g, x5_1.toNat * 14, none⟩ = false := hq_.2 0; have hf_1 : ws8.frozen? ⟨g, x5_1.toNat * 14 + 1, none⟩ = false := hq_.2 1; have hf_2 : ws8.frozen? ⟨g, x5_1.toNat * 14 + 2, none⟩ = false := hq_.2 2; have hf_3 : ws8.frozen? ⟨g, x5_1.toNat * 14 + 3, none⟩ = false := hq_.2 3; have hf_4 : ws8.frozen? ⟨g, x5_1.toNat * 14 + 4, none⟩ = false := hq_.2 4; have hf_5 : ws8.frozen? ⟨g, x5_1.toNat * 14 + 5, none⟩ = false := hq_.2 5; have hf_7 : ws8.frozen? ⟨g, x5_1.toNat * 14 + 7, none⟩ = false := hq_.2 7; have hf_8 : ws8.frozen? ⟨g, x5_1.toNat * 14 + 8, none⟩ = false := hq_.2 8; have hf_10 : ws8.frozen? ⟨g, x5_1.toNat * 14 + 10, none⟩ = false := hq_.2 10; have hf_11 : ws8.frozen? ⟨g, x5_1.toNat * 14 + 11, none⟩ = false := hq_.2 11; have hf_12 : ws8.frozen? ⟨g, x5_1.toNat * 14 + 12, none⟩ = false := hq_.2 12; clear hq_)
            | ((with_reducible refine gate_dst (N := 89) rfl ?_); refine goe_ (some 89) Try.func144 #[.slice A9 0 c9, .int .i64 (wrap64 ((wrap64 ((wrap64 ((wrap64 ((wrap64 ((wrap64 ((wrap64 ((wrap64 (x1_1 + 1)) + 1)) + 1)) + 1)) + 1)) + 1)) + 1)) + 1))] ?_; (with_reducible refine (laws_markInt64S_nil A9 c9 (wrap64 ((wrap64 ((wrap64 ((wrap64 ((wrap64 ((wrap64 ((wrap64 ((wrap64 (x1_1 + 1)) + 1)) + 1)) + 1)) + 1)) + 1)) + 1)) + 1)) _).mono ?_); rintro e w' ⟨rfl, rfl⟩; refine ⟨_, rfl, ?_⟩)
            | ((with_reducible refine gate_store (t := 2) (p := 96) rfl ?_); refine store_event (t := 2) (p := 96) (v := ?vo9) (w1 := (ws8.setCell ⟨g, x5_1.toNat * 14 + 10, none⟩ (.int .i64 (wrap64 ((wrap64 ((wrap64 ((wrap64 ((wrap64 ((wrap64 ((wrap64 ((wrap64 (x1_1 + 1)) + 1)) + 1)) + 1)) + 1)) + 1)) + 1)) + 1))))) ?hg ?ho ?hn ?hr ?_; (case ho => rfl); (case hg => rfl); (case hn => rfl); (case hr => first | (go_simp; done) | (go_simp; rfl)); intro ws9 hw; obtain ⟨hH_, hgr_⟩ := Kd.H_seg HH.out HP4.out HP3.out (seg := [.int .i64 (wrap64 ((wrap64 ((wrap64 ((wrap64 ((wrap64 ((wrap64 ((wrap64 ((wrap64 (x1_1 + 1)) + 1)) + 1)) + 1)) + 1)) + 1)) + 1)) + 1))]) (j := 10) (by show (11 : Nat) ≤ 14; decide) (by simp [Value.oneCell']); have HG8 : Aside0 (ws8.grownBy ws9 (some g)) := ⟨by rw [hw]; exact hgr_⟩; replace HH : Aside0 (Kd.H k136 136 ws9 w0.heap.size P0_ (.slice (some ⟨g, 0, none⟩) n cu) x0_1 x5_1 oki [.int .i64 x1_1, .int .i64 (wrap64 (x1_1 + 1)), .int .i64 (wrap64 ((wrap64 (x1_1 + 1)) + 1)), .int .i64 (wrap64 ((wrap64 ((wrap64 (x1_1 + 1)) + 1)) + 1)), .int .i64 (wrap64 ((wrap64 ((wrap64 ((wrap64 (x1_1 + 1)) + 1)) + 1)) + 1)), .int .i64 (wrap64 ((wrap64 ((wrap64 ((wrap64 ((wrap64 (x1_1 + 1)) + 1)) + 1)) + 1)) + 1)), .slice A6 0 c6, .bool ((Int.tmod (wrap64 ((wrap64 ((wrap64 ((wrap64 ((wrap64 ((wrap64 (x1_1 + 1)) + 1)) + 1)) + 1)) + 1)) + 1)) 3) == 0), .int .i64 (wrap64 ((wrap64 ((wrap64 ((wrap64 ((wrap64 ((wrap64 ((wrap64 (x1_1 + 1)) + 1)) + 1)) + 1)) + 1)) + 1)) + 1)), .slice A9 0 c9, .int .i64 (wrap64 ((wrap64 ((wrap64 ((wrap64 ((wrap64 ((wrap64 ((wrap64 ((wrap64 (x1_1 + 1)) + 1)) + 1)) + 1)) + 1)) + 1)) + 1)) + 1)), .int .i64 (rd_T136 x0_1 x5_1).f6.f2.f3, .int .i64 (rd_T136 x0_1 x5_1).f6.f2.f4, .slice A13 0 c13]) := ⟨by rw [hw]; exact hH_⟩; replace HR6 : Aside0 (Kd.R k167 167 ws9 w0.heap.size oki (.slice A6 0 c6) []) := ⟨Kd.R_grown HR6.out HG8.out (fun k_ hk_ e_ => (HOK.out k_ hk_).2 (by injection e_))⟩; replace HR9 : Aside0 (Kd.R (Kd.int .i64) 2 ws9 w0.heap.size oki (.slice A9 0 c9) []) := ⟨Kd.R_grown HR9.out HG8.out (fun k_ hk_ e_ => (HOK.out k_ hk_).2 (by injection e_))⟩; replace HR13 : Aside0 (Kd.R k167 167 ws9 w0.heap.size oki (.slice A13 0 c13) []) := ⟨Kd.R_grown HR13.out HG8.out (fun k_ hk_ e_ => (HOK.out k_ hk_).2 (by injection e_))⟩; replace HB := Aside0.mk ((by rw [hw]; exact below_set (HB.out) GB.out : Below w0.heap.size w0 ws9)); replace HK := Aside0.mk (Kept.of_grown (S := P0_) HG8.out HK.out (fun k_ e_ => .inl (HOG.out k_ e_))); clear hw hH_ hgr_ HG8 hx_0 hx_1 hx_2 hx_3 hx_4 hx_5 hx_6 hx_7 hx_8 hx_9 hx_10 hx_11 hx_12 hx_13 hf_0 hf_1 hf_2 hf_3 hf_4 hf_5 hf_7 hf_8 hf_10 hf_11 hf_12; have hq_ := H_cells HH.out HP4.out HP3.out; have hx_0 : ws9.cell? ⟨g, x5_1.toNat * 14, none⟩ = some (.int .i64 x1_1) := hq_.1 0 _ rfl; have hx_1 : ws9.cell? ⟨g, x5_1.toNat * 14 + 1, none⟩ = some (.int .i64 (wrap64 (x1_1 + 1))) := hq_.1 1 _ rfl; have hx_2 : ws9.cell? ⟨g, x5_1.toNat * 14 + 2, none⟩ = some (.int .i64 (wrap64 ((wrap64 (x1_1 + 1)) + 1))) := hq_.1 2 _ rfl; have hx_3 : ws9.cell? ⟨g, x5_1.toNat * 14 + 3, none⟩ = some (.int .i64 (wrap64 ((wrap64 ((wrap64 (x1_1 + 1)) + 1)) + 1))) := hq_.1 3 _ rfl; have hx_4 : ws9.cell? ⟨g, x5_1.toNat * 14 + 4, none⟩ = some (.int .i64 (wrap64 ((wrap64 ((wrap64 ((wrap64 (x1_1 + 1)) + 1)) + 1)) + 1))) := hq_.1 4 _ rfl; have hx_5 : ws9.cell? ⟨g, x5_1.toNat * 14 + 5, none⟩ = some (.int .i64 (wrap64 ((wrap64 ((wrap64 ((wrap64 ((wrap64 (x1_1 + 1)) + 1)) + 1)) + 1)) + 1))) := hq_.1 5 _ rfl; have hx_6 : ws9.cell? ⟨g, x5_1.toNat * 14 + 6, none⟩ = some (.slice A6 0 c6) := hq_.1 6 _ rfl; have hx_7 : ws9.cell? ⟨g, x5_1.toNat * 14 + 7, none⟩ = some (.bool ((Int.tmod (wrap64 ((wrap64 ((wrap64 ((wrap64 ((wrap64 ((wrap64 (x1_1 + 1)) + 1)) + 1)) + 1)) + 1)) + 1)) 3) == 0)) := hq_.1 7 _ rfl; have hx_8 : ws9.cell? ⟨g, x5_1.toNat * 14 + 8, none⟩ = some (.int .i64 (wrap64 ((wrap64 ((wrap64 ((wrap64 ((wrap64 ((wrap64 ((wrap64 (x1_1 + 1)) + 1)) + 1)) + 1)) + 1)) + 1)) + 1))) := hq_.1 8 _ rfl; have hx_9 : ws9.cell? ⟨g, x5_1.toNat * 14 + 9, none⟩ = some (.slice A9 0 c9) := hq_.1 9 _ rfl; have hx_10 : ws9.cell? ⟨g, x5_1.toNat * 14 + 10, none⟩ = some (.int .i64 (wrap64 ((wrap64 ((wrap64 ((wrap64 ((wrap64 ((wrap64 ((wrap64 ((wrap64 (x1_1 + 1)) + 1)) + 1)) + 1)) + 1)) + 1)) + 1)) + 1))) := hq_.1 10 _ rfl; have hx_11 : ws9.cell? ⟨g, x5_1.toNat * 14 + 11, none⟩ = some (.int .i64 (rd_T136 x0_1 x5_1).f6.f2.f3) := hq_.1 11 _ rfl; have hx_12 : ws9.cell? ⟨g, x5_1.toNat * 14 + 12, none⟩ = some (.int .i64 (rd_T136 x0_1 x5_1).f6.f2.f4) := hq_.1 12 _ rfl; have hx_13 : ws9.cell? ⟨g, x5_1.toNat * 14 + 13, none⟩ = some (.slice A13 0 c13) := hq_.1 13 _ rfl; have hf_0 : ws9.frozen? ⟨g, x5_1.toNat * 14, none⟩ = false := hq_.2 0; have hf_1 : ws9.frozen? ⟨g, x5_1.toNat * 14 + 1, none⟩ = false := hq_.2 1; have hf_2 : ws9.frozen? ⟨g, x5_1.toNat * 14 + 2, none⟩ = false := hq_.2 2; have hf_3 : ws9.frozen? ⟨g, x5_1.toNat * 14 + 3, none⟩ = false := hq_.2 3; have hf_4 : ws9.frozen? ⟨g, x5_1.toNat * 14 + 4, none⟩ = false := hq_.2 4; have hf_5 : ws9.frozen? ⟨g, x5_1.toNat * 14 + 5, none⟩ = false := hq_.2 5; have hf_7 : ws9.frozen? ⟨g, x5_1.toNat * 14 + 7, none⟩ = false := hq_.2 7; have hf_8 : ws9.frozen? ⟨g, x5_1.toNat * 14 + 8, none⟩ = false := hq_.2 8; have hf_10 : ws9.frozen? ⟨g, x5_1.toNat * 14 + 10, none⟩ = false := hq_.2 10; have hf_11 : ws9.frozen? ⟨g, x5_1.toNat * 14 + 11, none⟩ = false := hq_.2 11; have hf_12 : ws9.frozen? ⟨g, x5_1.toNat * 14 + 12, none⟩ = false := hq_.2 12; clear hq_)
            | ((with_reducible refine gate_store (t := 2) (p := 105) rfl ?_); refine store_event (t := 2) (p := 105) (v := ?vo10) (w1 := (ws9.setCell ⟨g, x5_1.toNat * 14 + 11, none⟩ (.int .i64 (wrap64 ((wrap64 ((wrap64 ((wrap64 ((wrap64 ((wrap64 ((wrap64 ((wrap64 ((wrap64 (x1_1 + 1)) + 1)) + 1)) + 1)) + 1)) + 1)) + 1)) + 1)) + 1))))) ?hg ?ho ?hn ?hr ?_; (case ho => rfl); (case hg => rfl); (case hn => rfl); (case hr => first | (go_simp; done) | (go_simp; rfl)); intro ws10 hw; obtain ⟨hH_, hgr_⟩ := Kd.H_seg HH.out HP4.out HP3.out (seg := [.int .i64 (wrap64 ((wrap64 ((wrap64 ((wrap64 ((wrap64 ((wrap64 ((wrap64 ((wrap64 ((wrap64 (x1_1 + 1)) + 1)) + 1)) + 1)) + 1)) + 1)) + 1)) + 1)) + 1))]) (j := 11) (by show (12 : Nat) ≤ 14; decide) (by simp [Value.oneCell']); have HG8 : Aside0 (ws9.grownBy ws10 (some g)) := ⟨by rw [hw]; exact hgr_⟩; replace HH : Aside0 (Kd.H k136 136 ws10 w0.heap.size P0_ (.slice (some ⟨g, 0, none⟩) n cu) x0_1 x5_1 oki [.int .i64 x1_1, .int .i64 (wrap64 (x1_1 + 1)), .int .i64 (wrap64 ((wrap64 (x1_1 + 1)) + 1)), .int .i64 (wrap64 ((wrap64 ((wrap64 (x1_1 + 1)) + 1)) + 1)), .int .i64 (wrap64 ((wrap64 ((wrap64 ((wrap64 (x1_1 + 1)) + 1)) + 1)) + 1)), .int .i64 (wrap64 ((wrap64 ((wrap64 ((wrap64 ((wrap64 (x1_1 + 1)) + 1)) + 1)) + 1)) + 1)), .slice A6 0 c6, .bool ((Int.tmod (wrap64 ((wrap64 ((wrap64 ((wrap64 ((wrap64 ((wrap64 (x1_1 + 1)) + 1)) + 1)) + 1)) + 1)) + 1)) 3) == 0), .int .i64 (wrap64 ((wrap64 ((wrap64 ((wrap64 ((wrap64 ((wrap64 ((wrap64 (x1_1 + 1)) + 1)) + 1)) + 1)) + 1)) + 1)) + 1)), .slice A9 0 c9, .int .i64 (wrap64 ((wrap64 ((wrap64 ((wrap64 ((wrap64 ((wrap64 ((wrap64 ((wrap64 (x1_1 + 1)) + 1)) + 1)) + 1)) + 1)) + 1)) + 1)) + 1)), .int .i64 (wrap64 ((wrap64 ((wrap64 ((wrap64 ((wrap64 ((wrap64 ((wrap64 ((wrap64 ((wrap64 (x1_1 + 1)) + 1)) + 1)) + 1)) + 1)) + 1)) + 1)) + 1)) + 1)), .int .i64 (rd_T136 x0_1 x5_1).f6.f2.f4, .slice A13 0 c13]) := ⟨by rw [hw]; exact hH_⟩; replace HR6 : Aside0 (Kd.R k167 167 ws10 w0.heap.size oki (.slice A6 0 c6) []) := ⟨Kd.R_grown HR6.out HG8.out (fun k_ hk_ e_ => (HOK.out k_ hk_).2 (by injection e_))⟩; replace HR9 : Aside0 (Kd.R (Kd.int .i64) 2 ws10 w0.heap.size oki (.slice A9 0 c9) []) := ⟨Kd.R_grown HR9.out HG8.out (fun k_ hk_ e_ => (HOK.out k_ hk_).2 (by injection e_))⟩; replace HR13 : Aside0 (Kd.R k167 167 ws10 w0.heap.size oki (.slice A13 0 c13) []) := ⟨Kd.R_grown HR13.out HG8.out (fun k_ hk_ e_ => (HOK.out k_ hk_).2 (by injection e_))⟩; replace HB := Aside0.mk ((by rw [hw]; exact below_set (HB.out) GB.out : Below w0.heap.size w0 ws10)); replace HK := Aside0.mk (Kept.of_grown (S := P0_) HG8.out HK.out (fun k_ e_ => .inl (HOG.out k_ e_))); clear hw hH_ hgr_ HG8 hx_0 hx_1 hx_2 hx_3 hx_4 hx_5 hx_6 hx_7 hx_8 hx_9 hx_10 hx_11 hx_12 hx_13 hf_0 hf_1 hf_2 hf_3 hf_4 hf_5 hf_7 hf_8 hf_10 hf_11 hf_12; have hq_ := H_cells HH.out HP4.out HP3.out; have hx_0 : ws10.cell? ⟨g, x5_1.toNat * 14, none⟩ = some (.int .i64 x1_1) := hq_.1 0 _ rfl; have hx_1 : ws10.cell? ⟨g, x5_1.toNat * 14 + 1, none⟩ = some (.int .i64 (wrap64 (x1_1 + 1))) := hq_.1 1 _ rfl; have hx_2 : ws10.cell? ⟨g, x5_1.toNat * 14 + 2, none⟩ = some (.int .i64 (wrap64 ((wrap64 (x1_1 + 1)) + 1))) := hq_.1 2 _ rfl; have hx_3 : ws10.cell? ⟨g, x5_1.toNat * 14 + 3, none⟩ = some (.int .i64 (wrap64 ((wrap64 ((wrap64 (x1_1 + 1)) + 1)) + 1))) := hq_.1 3 _ rfl; have hx_4 : ws10.cell? ⟨g, x5_1.toNat * 14 + 4, none⟩ = some (.int .i64 (wrap64 ((wrap64 ((wrap64 ((wrap64 (x1_1 + 1)) + 1)) + 1)) + 1))) := hq_.1 4 _ rfl; have hx_5 : ws10.cell? ⟨g, x5_1.toNat * 14 + 5, none⟩ = some (.int .i64 (wrap64 ((wrap64 ((wrap64 ((wrap64 ((wrap64 (x1_1 + 1)) + 1)) + 1)) + 1)) + 1))) := hq_.1 5 _ rfl; have hx_6 : ws10.cell? ⟨g, x5_1.toNat * 14 + 6, none⟩ = some (.slice A6 0 c6) := hq_.1 6 _ rfl; have hx_7 : ws10.cell? ⟨g, x5_1.toNat * 14 + 7, none⟩ = some (.bool ((Int.tmod (wrap64 ((wrap64 ((wrap64 ((wrap64 ((wrap64 ((wrap64 (x1_1 + 1)) + 1)) + 1)) + 1)) + 1)) + 1)) 3) == 0)) := hq_.1 7 _ rfl; have hx_8 : ws10.cell? ⟨g, x5_1.toNat * 14 + 8, none⟩ = some (.int .i64 (wrap64 ((wrap64 ((wrap64 ((wrap64 ((wrap64 ((wrap64 ((wrap64 (x1_1 + 1)) + 1)) + 1)) + 1)) + 1)) + 1)) + 1))) := hq_.1 8 _ rfl; have hx_9 : ws10.cell? ⟨g, x5_1.toNat * 14 + 9, none⟩ = some (.slice A9 0 c9) := hq_.1 9 _ rfl; have hx_10 : ws10.cell? ⟨g, x5_1.toNat * 14 + 10, none⟩ = some (.int .i64 (wrap64 ((wrap64 ((wrap64 ((wrap64 ((wrap64 ((wrap64 ((wrap64 ((wrap64 (x1_1 + 1)) + 1)) + 1)) + 1)) + 1)) + 1)) + 1)) + 1))) := hq_.1 10 _ rfl; have hx_11 : ws10.cell? ⟨g, x5_1.toNat * 14 + 11, none⟩ = some (.int .i64 (wrap64 ((wrap64 ((wrap64 ((wrap64 ((wrap64 ((wrap64 ((wrap64 ((wrap64 ((wrap64 (x1_1 + 1)) + 1)) + 1)) + 1)) + 1)) + 1)) + 1)) + 1)) + 1))) := hq_.1 11 _ rfl; have hx_12 : ws10.cell? ⟨g, x5_1.toNat * 14 + 12, none⟩ = some (.int .i64 (rd_T136 x0_1 x5_1).f6.f2.f4) := hq_.1 12 _ rfl; have hx_13 : ws10.cell? ⟨g, x5_1.toNat * 14 + 13, none⟩ = some (.slice A13 0 c13) := hq_.1 13 _ rfl; have hf_0 : ws10.frozen? ⟨g, x5_1.toNat * 14, none⟩ = false := hq_.2 0; have hf_1 : ws10.frozen? ⟨g, x5_1.toNat * 14 + 1, none⟩ = false := hq_.2 1; have hf_2 : ws10.frozen? ⟨g, x5_1.toNat * 14 + 2, none⟩ = false := hq_.2 2; have hf_3 : ws10.frozen? ⟨g, x5_1.toNat * 14 + 3, none⟩ = false := hq_.2 3; have hf_4 : ws10.frozen? ⟨g, x5_1.toNat * 14 + 4, none⟩ = false := hq_.2 4; have hf_5 : ws10.frozen? ⟨g, x5_1.toNat * 14 + 5, none⟩ = false := hq_.2 5; have hf_7 : ws10.frozen? ⟨g, x5_1.toNat * 14 + 7, none⟩ = false := hq_.2 7; have hf_8 : ws10.frozen? ⟨g, x5_1.toNat * 14 + 8, none⟩ = false := hq_.2 8; have hf_10 : ws10.frozen? ⟨g, x5_1.toNat * 14 + 10, none⟩ = false := hq_.2 10; have hf_11 : ws10.frozen? ⟨g, x5_1.toNat * 14 + 11, none⟩ = false := hq_.2 11; have hf_12 : ws10.frozen? ⟨g, x5_1.toNat * 14 + 12, none⟩ = false := hq_.2 12; clear hq_)
            | ((with_reducible refine gate_store (t := 2) (p := 114) rfl ?_); refine store_event (t := 2) (p := 114) (v := ?vo11) (w1 := (ws10.setCell ⟨g, x5_1.toNat * 14 + 12, none⟩ (.int .i64 (wrap64 ((wrap64 ((wrap64 ((wrap64 ((wrap64 ((wrap64 ((wrap64 ((wrap64 ((wrap64 ((wrap64 (x1_1 + 1)) + 1)) + 1)) + 1)) + 1)) + 1)) + 1)) + 1)) + 1)) + 1))))) ?hg ?ho ?hn ?hr ?_; (case ho => rfl); (case hg => rfl); (case hn => rfl); (case hr => first | (go_simp; done) | (go_simp; rfl)); intro ws11 hw; obtain ⟨hH_, hgr_⟩ := Kd.H_seg HH.out HP4.out HP3.out (seg := [.int .i64 (wrap64 ((wrap64 ((wrap64 ((wrap64 ((wrap64 ((wrap64 ((wrap64 ((wrap64 ((wrap64 ((wrap64 (x1_1 + 1)) + 1)) + 1)) + 1)) + 1)) + 1)) + 1)) + 1)) + 1)) + 1))]) (j := 12) (by show (13 : Nat) ≤ 14; decide) (by simp [Value.oneCell']); have HG8 : Aside0 (ws10.grownBy ws11 (some g)) := ⟨by rw [hw]; exact hgr_⟩; replace HH : Aside0 (Kd.H k136 136 ws11 w0.heap.size P0_ (.slice (some ⟨g, 0, none⟩) n cu) x0_1 x5_1 oki [.int .i64 x1_1, .int .i64 (wrap64 (x1_1 + 1)), .int .i64 (wrap64 ((wrap64 (x1_1 + 1)) + 1)), .int .i64 (wrap64 ((wrap64 ((wrap64 (x1_1 + 1)) + 1)) + 1)), .int .i64 (wrap64 ((wrap64 ((wrap64 ((wrap64 (x1_1 + 1)) + 1)) + 1)) + 1)), .int .i64 (wrap64 ((wrap64 ((wrap64 ((wrap64 ((wrap64 (x1_1 + 1)) + 1)) + 1)) + 1)) + 1)), .slice A6 0 c6, .bool ((Int.tmod (wrap64 ((wrap64 ((wrap64 ((wrap64 ((wrap64 ((wrap64 (x1_1 + 1)) + 1)) + 1)) + 1)) + 1)) + 1)) 3) == 0), .int .i64 (wrap64 ((wrap64 ((wrap64 ((wrap64 ((wrap64 ((wrap64 ((wrap64 (x1_1 + 1)) + 1)) + 1)) + 1)) + 1)) + 1)) + 1)), .slice A9 0 c9, .int .i64 (wrap64 ((wrap64 ((wrap64 ((wrap64 ((wrap64 ((wrap64 ((wrap64 ((wrap64 (x1_1 + 1)) + 1)) + 1)) + 1)) + 1)) + 1)) + 1)) + 1)), .int .i64 (wrap64 ((wrap64 ((wrap64 ((wrap64 ((wrap64 ((wrap64 ((wrap64 ((wrap64 ((wrap64 (x1_1 + 1)) + 1)) + 1)) + 1)) + 1)) + 1)) + 1)) + 1)) + 1)), .int .i64 (wrap64 ((wrap64 ((wrap64 ((wrap64 ((wrap64 ((wrap64 ((wrap64 ((wrap64 ((wrap64 ((wrap64 (x1_1 + 1)) + 1)) + 1)) + 1)) + 1)) + 1)) + 1)) + 1)) + 1)) + 1)), .slice A13 0 c13]) := ⟨by rw [hw]; exact hH_⟩; replace HR6 : Aside0 (Kd.R k167 167 ws11 w0.heap.size oki (.slice A6 0 c6) []) := ⟨Kd.R_grown HR6.out HG8.out (fun k_ hk_ e_ => (HOK.out k_ hk_).2 (by injection e_))⟩; replace HR9 : Aside0 (Kd.R (Kd.int .i64) 2 ws11 w0.heap.size oki (.slice A9 0 c9) []) := ⟨Kd.R_grown HR9.out HG8.out (fun k_ hk_ e_ => (HOK.out k_ hk_).2 (by injection e_))⟩; replace HR13 : Aside0 (Kd.R k167 167 ws11 w0.heap.size oki (.slice A13 0 c13) []) := ⟨Kd.R_grown HR13.out HG8.out (fun k_ hk_ e_ => (HOK.out k_ hk_).2 (by injection e_))⟩; replace HB := Aside0.mk ((by rw [hw]; exact below_set (HB.out) GB.out : Below w0.heap.size w0 ws11)); replace HK := Aside0.mk (Kept.of_grown (S := P0_) HG8.out HK.out (fun k_ e_ => .inl (HOG.out k_ e_))); clear hw hH_ hgr_ HG8 hx_0 hx_1 hx_2 hx_3 hx_4 hx_5 hx_6 hx_7 hx_8 hx_9 hx_10 hx_11 hx_12 hx_13 hf_0 hf_1 hf_2 hf_3 hf_4 hf_5 hf_7 hf_8 hf_10 hf_11 hf_12; have hq_ := H_cells HH.out HP4.out HP3.out; have hx_0 : ws11.cell? ⟨g, x5_1.toNat * 14, none⟩ = some (.int .i64 x1_1) := hq_.1 0 _ rfl; have hx_1 : ws11.cell? ⟨g, x5_1.toNat * 14 + 1, none⟩ = some (.int .i64 (wrap64 (x1_1 + 1))) := hq_.1 1 _ rfl; have hx_2 : ws11.cell? ⟨g, x5_1.toNat * 14 + 2, none⟩ = some (.int .i64 (wrap64 ((wrap64 (x1_1 + 1)) + 1))) := hq_.1 2 _ rfl; have hx_3 : ws11.cell? ⟨g, x5_1.toNat * 14 + 3, none⟩ = some (.int .i64 (wrap64 ((wrap64 ((wrap64 (x1_1 + 1)) + 1)) + 1))) := hq_.1 3 _ rfl; have hx_4 : ws11.cell? ⟨g, x5_1.toNat * 14 + 4, none⟩ = some (.int .i64 (wrap64 ((wrap64 ((wrap64 ((wrap64 (x1_1 + 1)) + 1)) + 1)) + 1))) := hq_.1 4 _ rfl; have hx_5 : ws11.cell? ⟨g, x5_1.toNat * 14 + 5, none⟩ = some (.int .i64 (wrap64 ((wrap64 ((wrap64 ((wrap64 ((wrap64 (x1_1 + 1)) + 1)) + 1)) + 1)) + 1))) := hq_.1 5 _ rfl; have hx_6 : ws11.cell? ⟨g, x5_1.toNat * 14 + 6, none⟩ = some (.slice A6 0 c6) := hq_.1 6 _ rfl; have hx_7 : ws11.cell? ⟨g, x5_1.toNat * 14 + 7, none⟩ = some (.bool ((Int.tmod (wrap64 ((wrap64 ((wrap64 ((wrap64 ((wrap64 ((wrap64 (x1_1 + 1)) + 1)) + 1)) + 1)) + 1)) + 1)) 3) == 0)) := hq_.1 7 _ rfl; have hx_8 : ws11.cell? ⟨g, x5_1.toNat * 14 + 8, none⟩ = some (.int .i64 (wrap64 ((wrap64 ((wrap64 ((wrap64 ((wrap64 ((wrap64 ((wrap64 (x1_1 + 1)) + 1)) + 1)) + 1)) + 1)) + 1)) + 1))) := hq_.1 8 _ rfl; have hx_9 : ws11.cell? ⟨g, x5_1.toNat * 14 + 9, none⟩ = some (.slice A9 0 c9) := hq_.1 9 _ rfl; have hx_10 : ws11.cell? ⟨g, x5_1.toNat * 14 + 10, none⟩ = some (.int .i64 (wrap64 ((wrap64 ((wrap64 ((wrap64 ((wrap64 ((wrap64 ((wrap64 ((wrap64 (x1_1 + 1)) + 1)) + 1)) + 1)) + 1)) + 1)) + 1)) + 1))) := hq_.1 10 _ rfl; have hx_11 : ws11.cell? ⟨g, x5_1.toNat * 14 + 11, none⟩ = some (.int .i64 (wrap64 ((wrap64 ((wrap64 ((wrap64 ((wrap64 ((wrap64 ((wrap64 ((wrap64 ((wrap64 (x1_1 + 1)) + 1)) + 1)) + 1)) + 1)) + 1)) + 1)) + 1)) + 1))) := hq_.1 11 _ rfl; have hx_12 : ws11.cell? ⟨g, x5_1.toNat * 14 + 12, none⟩ = some (.int .i64 (wrap64 ((wrap64 ((wrap64 ((wrap64 ((wrap64 ((wrap64 ((wrap64 ((wrap64 ((wrap64 ((wrap64 (x1_1 + 1)) + 1)) + 1)) + 1)) + 1)) + 1)) + 1)) + 1)) + 1)) + 1))) := hq_.1 12 _ rfl; have hx_13 : ws11.cell? ⟨g, x5_1.toNat * 14 + 13, none⟩ = some (.slice A13 0 c13) := hq_.1 13 _ rfl; have hf_0 : ws11.frozen? ⟨g, x5_1.toNat * 14, none⟩ = false := hq_.2 0; have hf_1 : ws11.frozen? ⟨g, x5_1.toNat * 14 + 1, none⟩ = false := hq_.2 1; have hf_2 : ws11.frozen? ⟨g, x5_1.toNat * 14 + 2, none⟩ = false := hq_.2 2; have hf_3 : ws11.frozen? ⟨g, x5_1.toNat * 14 + 3, none⟩ = false := hq_.2 3; have hf_4 : ws11.frozen? ⟨g, x5_1.toNat * 14 + 4, none⟩ = false := hq_.2 4; have hf_5 : ws11.frozen? ⟨g, x5_1.toNat * 14 + 5, none⟩ = false := hq_.2 5; have hf_7 : ws11.frozen? ⟨g, x5_1.toNat * 14 + 7, none⟩ = false := hq_.2 7; have hf_8 : ws11.frozen? ⟨g, x5_1.toNat * 14 + 8, none⟩ = false := hq_.2 8; have hf_10 : ws11.frozen? ⟨g, x5_1.toNat * 14 + 10, none⟩ = false := hq_.2 10; have hf_11 : ws11.frozen? ⟨g, x5_1.toNat * 14 + 11, none⟩ = false := hq_.2 11; have hf_12 : ws11.frozen? ⟨g, x5_1.toNat * 14 + 12, none⟩ = false := hq_.2 12; clear hq_)
            | ((with_reducible refine gate_dst (N := 124) rfl ?_); refine goe_ (some 124) Try.func65 #[.slice A13 0 c13, .int .i64 (wrap64 ((wrap64 ((wrap64 ((wrap64 ((wrap64 ((wrap64 ((wrap64 ((wrap64 ((wrap64 ((wrap64 ((wrap64 (x1_1 + 1)) + 1)) + 1)) + 1)) + 1)) + 1)) + 1)) + 1)) + 1)) + 1)) + 1))] ?_; (with_reducible refine (laws_markPrefixS_nil A13 c13 (wrap64 ((wrap64 ((wrap64 ((wrap64 ((wrap64 ((wrap64 ((wrap64 ((wrap64 ((wrap64 ((wrap64 ((wrap64 (x1_1 + 1)) + 1)) + 1)) + 1)) + 1)) + 1)) + 1)) + 1)) + 1)) + 1)) + 1)) _).mono ?_); rintro e w' ⟨rfl, rfl⟩; refine ⟨_, rfl, ?_⟩; replace HO : Aside0 (Kd.S k136 136 ws11 w0.heap.size P0_ (.slice (some ⟨g, 0, none⟩) n cu) (x0_1.set x5_1.toNat (markMsg x1_1))) := ⟨Kd.H_back HH.out (k136_mkM _ _ _ (markMsg x1_1) HR6.out HR9.out HR13.out) (fun _ h_ => h_)⟩; clear HH HR6 HR9 HR13 hx_0 hx_1 hx_2 hx_3 hx_4 hx_5 hx_6 hx_7 hx_8 hx_9 hx_10 hx_11 hx_12 hx_13 hf_0 hf_1 hf_2 hf_3 hf_4 hf_5 hf_7 hf_8 hf_10 hf_11 hf_12))
          go_roundg k1
          case measure => have := HK1.out; omega
          case rel => exact ⟨_, (wrap64 ((wrap64 ((wrap64 ((wrap64 ((wrap64 ((wrap64 ((wrap64 ((wrap64 ((wrap64 ((wrap64 ((wrap64 (x1_1 + 1)) + 1)) + 1)) + 1)) + 1)) + 1)) + 1)) + 1)) + 1)) + 1)) + 1)), (wrap64 (x5_1 + 1)), sd_, sd_, H', ⟨by have := HK1.out; omega⟩, ⟨by rw [List.length_set]; exact HN.out.1, fun x hx => (List.mem_or_eq_of_mem_set hx).elim (HN.out.2 x) (fun e_ => by rw [e_]; exact ⟨rfl, rfl, rfl⟩)⟩, HO, HK, HB⟩
        · rw [if_neg c4] at H
          exact absurd H (by simp)
      · rw [if_neg c3] at H
        have c3b0 : decide (x5_1 < (n : Int)) = false := decide_eq_false c3
        clear c3
        simp only [Option.some.injEq, Prod.mk.injEq] at H
        obtain ⟨rfl, rfl⟩ := H
        go_wp2
        go_ret
        exact ⟨er_, ⟨HN.out.1, HO.out⟩, HB.out, HK.out⟩
set_option maxHeartbeats 8000000 in
set_option maxRecDepth 100000 in
theorem end_calls (g : Nat) (c s0 s1 s2 s3 s4 : Int) (v : Value) (hv : v.oneCell' = true) (u d up : Bool) (w0 w : World) (hB : Below w0.heap.size w0 w) (hge : w0.heap.size ≤ g) (hb : w.heap[g]? = some (.cells #[.int .i64 c, .int .i64 s0, .int .i64 s1, .int .i64 s2, .int .i64 s3, .int .i64 s4, v, .bool u, .bool d, .bool up] 45 (0, 0))) :
    Calls Try.prog 150 #[.pointer (some ⟨g, 0, none⟩)] w fun e w' => e = .returned (.tuple #[]) ∧ w'.heap[g]? = some (.cells #[.int .i64 c, .int .i64 0, .int .i64 0, .int .i64 0, .int .i64 0, .int .i64 0, v, .bool u, .bool (s0 == 3), .bool up] 45 (0, 0)) ∧ Below w0.heap.size w0 w' ∧ Kept w w' (fun k_ => k_ = g) := by
  have HB := Aside0.mk hB
  have HE := Aside0.mk hge
  have HK := Aside0.mk (Kept.refl w (fun k_ => k_ = g))
  have BG := Aside0.mk hb
  clear hB hge hb
  obtain ⟨hcz_0, hcz_1, hcz_2, hcz_3, hcz_4, hcz_5, hcz_6, hcz_7, hcz_8, hcz_9, hfz_0, hfz_1, hfz_2, hfz_3, hfz_4, hfz_5, hfz_6, hfz_7, hfz_8, hfz_9⟩ := cf10_ BG
  go_enter Try.func150, Try.ntmps150
  go_wp2
  first | go_end0 | ((try simp only [Exit.inBlock, Exit.then]); refine bodyPost_ret (results_none rfl _ _ _) rfl ?_)
  exact ⟨rfl, blk_put (blk_put (blk_put (blk_put (blk_put (blk_put (BG.out) 8 _ rfl) 1 _ rfl) 2 _ rfl) 3 _ rfl) 4 _ rfl) 5 _ rfl, below_set (below_set (below_set (below_set (below_set (below_set (HB.out) HE.out) HE.out) HE.out) HE.out) HE.out) HE.out, Kept.setCell (Kept.setCell (Kept.setCell (Kept.setCell (Kept.setCell (Kept.setCell (HK.out) (.inl rfl) _) (.inl rfl) _) (.inl rfl) _) (.inl rfl) _) (.inl rfl) _) (.inl rfl) _⟩
set_option maxHeartbeats 8000000 in
set_option maxRecDepth 100000 in
theorem fail_calls (g : Nat) (c s0 s1 s2 s3 s4 : Int) (u d up : Bool) (why sub : Int) (w0 w : World) (hB : Below w0.heap.size w0 w) (hge : w0.heap.size ≤ g) (hb : w.heap[g]? = some (.cells #[.int .i64 c, .int .i64 s0, .int .i64 s1, .int .i64 s2, .int .i64 s3, .int .i64 s4, .slice none 0 0, .bool u, .bool d, .bool up] 45 (0, 0))) :
    Calls Try.prog 102 #[.pointer (some ⟨g, 0, none⟩), .int .i64 why, .int .i64 sub] w fun e w' => e = .returned (.tuple #[]) ∧ Said g c 0 0 0 0 0 u (s0 == 3) up [msgOf 3 0 0 0 why sub] w w' ∧ Below w0.heap.size w0 w' ∧ Kept w w' (fun k_ => k_ = g) := by
  have HB := Aside0.mk hB
  have HE := Aside0.mk hge
  have BG := Aside0.mk hb
  have HL := Aside0.mk (blk_lt hb)
  clear hB hge hb
  go_enter Try.func102, Try.ntmps102
  go_wp2_with (first
    | ((with_reducible refine gate_dst (N := 10) rfl ?_); refine goe_ (some 10) Try.func89 #[.pointer (some ⟨g, 0, none⟩), .agg #[.int .i64 3, .int .i64 0, .int .i64 0, .int .i64 0, .int .i64 why, .int .i64 sub, .slice none 0 0, .bool false, .int .i64 0, .slice none 0 0, .int .i64 0, .int .i64 0, .int .i64 0, .slice none 0 0]] ?_; (with_reducible refine (say_calls g c s0 s1 s2 s3 s4 u d up 3 0 0 0 why sub w0 _ ?side1 ?side2 ?side3).mono ?_); (case side1 => exact HB.out); (case side2 => exact HE.out); (case side3 => exact BG.out); rintro e w1 ⟨rfl, hs, hb, hk⟩; refine ⟨_, rfl, ?_⟩; unfold Said at hs; obtain ⟨v, hbx, hS⟩ := hs; have HS := Aside0.mk (Kd.S_mono (Kd.S_bound hS) (fun k_ h_ => h_.2.1)); have HV := Aside0.mk (Kd.R_val (Kd.S_R hS)).2; have HK := Aside0.mk hk; replace HB := Aside0.mk hb; replace BG := Aside0.mk hbx; clear hb hbx hS hk)
    | ((with_reducible refine gate_dst (N := 12) rfl ?_); refine goe_ (some 12) Try.func150 #[.pointer (some ⟨g, 0, none⟩)] ?_; (with_reducible refine (end_calls g c s0 s1 s2 s3 (spokeOf s0 s4) v HV.out u d up w0 _ ?side1 ?side2 ?side3).mono ?_); (case side1 => exact HB.out); (case side2 => exact HE.out); (case side3 => exact BG.out); rintro e w2 ⟨rfl, hbx, hb, hk⟩; refine ⟨_, rfl, ?_⟩; replace HS := Aside0.mk (Kd.S_kept HS.out hk (fun k_ h1_ h2_ => by have l_ := HL.out; have h3_ : k_ = g := h2_; have h4_ : w.heap.size ≤ k_ := h1_; omega)); replace HK := Aside0.mk (Kept.then_ (S := (fun k_ => k_ = g)) HK.out hk (fun _ h_ => .inl h_)); replace HB := Aside0.mk hb; replace BG := Aside0.mk hbx; clear hb hbx hk))
  first | go_end0 | ((try simp only [Exit.inBlock, Exit.then]); refine bodyPost_ret (results_none rfl _ _ _) rfl ?_)
  refine ⟨rfl, ?_, HB.out, HK.out⟩
  unfold Said
  exact ⟨_, BG.out, Kd.S_mono HS.out (fun _ _ => trivial)⟩
theorem reasons_eq (a b : Int) : impl_areReasons.f a b = some (inB a 1 6 && inB b 0 20) := by
  unfold impl_areReasons.f
  rw [impl_in_eq, Option.bind_some]
  cases inB a 1 6
  · rfl
  · rw [if_pos rfl, impl_in_eq, Option.bind_some, Bool.true_and]
set_option maxHeartbeats 16000000 in
set_option maxRecDepth 100000 in
theorem impl_FailSession.bad (k : Nat) (a i h s0 s1 s2 s3 s4 code why sub : Int) (w : World) (hsc : impl_sessionCode.f k a i h s0 s1 s2 s3 s4 = some code) (hc : code ≠ 0) :
    Calls Try.prog 42 #[.agg #[.int .i64 a, .int .i64 i, .int .i64 h], .agg #[.int .i64 s0, .int .i64 s1, .int .i64 s2, .int .i64 s3, .int .i64 s4], .int .i64 why, .int .i64 sub] w fun e w' => ∃ v : Value, e = .returned (.agg #[.int .i64 code, .int .i64 0, .int .i64 0, .int .i64 0, .int .i64 0, .int .i64 0, v, .bool false, .bool false, .bool false]) ∧ Kd.S k136 136 w' w.heap.size (fun _ => True) v [] ∧ Below w.heap.size w w' := by
  have HSC := Aside0.mk hsc
  have HB := Aside0.mk (Below.refl w.heap.size w)
  clear hsc
  have t1 : (code != 0) = true := by simp [hc]
  have t2 : (code == 0) = false := by simp [hc]
  clear hc
  go_enter Try.func42, Try.ntmps42
  go_wp2_with (first
    | ((with_reducible refine gate_dst (N := 4) rfl ?_); refine box_e_ 4 #[.int .i64 a, .int .i64 i, .int .i64 h] 47 ?_; intro gBC hg wq1 hbox hb; have HGBC := Aside0.mk hg; have HLBC := Aside0.mk (blk_lt hbox); have HEBC : Aside0 (w.heap.size ≤ gBC) := ⟨by rw [hg]; exact HB.out.size⟩; have HS1 := Aside0.mk (Below.size hb); replace HB := below_kb HB hb; have BC := Aside0.mk hbox; clear hbox hg hb)
    | ((with_reducible refine gate_dst (N := 5) rfl ?_); refine box_e_ 5 #[.int .i64 s0, .int .i64 s1, .int .i64 s2, .int .i64 s3, .int .i64 s4] 42 ?_; intro gBS hg wq2 hbox hb; have HGBS := Aside0.mk hg; have HLBS := Aside0.mk (blk_lt hbox); have HEBS : Aside0 (w.heap.size ≤ gBS) := ⟨by rw [hg]; exact HB.out.size⟩; have HS2 := Aside0.mk (Below.size hb); replace BC := blk_kb BC hb; replace HB := below_kb HB hb; have BS := Aside0.mk hbox; clear hbox hg hb)
    | ((with_reducible refine gate_dst (N := 8) rfl ?_); refine box_e_ 8 #[.int .i64 0, .int .i64 0, .int .i64 0, .int .i64 0, .int .i64 0, .int .i64 0, .slice none 0 0, .bool false, .bool false, .bool false] 45 ?_; intro gBR hg wq3 hbox hb; have HGBR := Aside0.mk hg; have HLBR := Aside0.mk (blk_lt hbox); have HEBR : Aside0 (w.heap.size ≤ gBR) := ⟨by rw [hg]; exact HB.out.size⟩; have HS3 := Aside0.mk (Below.size hb); replace BC := blk_kb BC hb; replace BS := blk_kb BS hb; replace HB := below_kb HB hb; have BR := Aside0.mk hbox; clear hbox hg hb; obtain ⟨hczBC_0, hczBC_1, hczBC_2, hfzBC_0, hfzBC_1, hfzBC_2⟩ := cf3_ BC; obtain ⟨hczBS_0, hczBS_1, hczBS_2, hczBS_3, hczBS_4, hfzBS_0, hfzBS_1, hfzBS_2, hfzBS_3, hfzBS_4⟩ := cf5_ BS)
    | ((with_reducible refine gate_dst (N := 13) rfl ?_); refine goe_ (some 13) Try.func88 #[.agg #[.int .i64 a, .int .i64 i, .int .i64 h], .agg #[.int .i64 s0, .int .i64 s1, .int .i64 s2, .int .i64 s3, .int .i64 s4]] ?_; (with_reducible refine (impl_sessionCode.calls k a i h s0 s1 s2 s3 s4 code _ HSC.out).mono ?_); rintro e wq4 ⟨rfl, hb⟩; refine ⟨_, rfl, ?_⟩; have HS4 := Aside0.mk (Below.size hb); replace BC := blk_kb BC hb; replace BS := blk_kb BS hb; replace BR := blk_kb BR hb; replace HB := below_kb HB hb; obtain ⟨hczBC_0, hczBC_1, hczBC_2, hfzBC_0, hfzBC_1, hfzBC_2⟩ := cf3_ BC; obtain ⟨hczBS_0, hczBS_1, hczBS_2, hczBS_3, hczBS_4, hfzBS_0, hfzBS_1, hfzBS_2, hfzBS_3, hfzBS_4⟩ := cf5_ BS; obtain ⟨hczBR_0, hczBR_1, hczBR_2, hczBR_3, hczBR_4, hczBR_5, hczBR_6, hczBR_7, hczBR_8, hczBR_9, hfzBR_0, hfzBR_1, hfzBR_2, hfzBR_3, hfzBR_4, hfzBR_5, hfzBR_6, hfzBR_7, hfzBR_8, hfzBR_9⟩ := cf10_ BR; (try clear hb); (try clear ho); (try clear hd))
    | ((with_reducible refine gate_store (t := 45) (p := 8) rfl ?_); refine store_event (t := 45) (p := 8) (v := ?vo5) (w1 := wq4.setCells gBR 0 [.int .i64 code, .int .i64 0, .int .i64 0, .int .i64 0, .int .i64 0, .int .i64 0, .slice none 0 0, .bool false, .bool false, .bool false]) ?hg ?ho ?hn ?hr ?_; (case ho => rfl); (case hg => rfl); (case hn => rfl); (case hr => first | (go_simp; done) | (go_simp; rfl)); intro wq5 hw; have hk : Kept wq4 wq5 (fun k => k = gBR) := (by rw [hw]; exact puts_kept [.int .i64 code, .int .i64 0, .int .i64 0, .int .i64 0, .int .i64 0, .int .i64 0, .slice none 0 0, .bool false, .bool false, .bool false] 0 _ _ (Kept.refl _ _)); have hp_ := (show Aside0 (wq5.heap[gBR]? = some (.cells #[.int .i64 code, .int .i64 0, .int .i64 0, .int .i64 0, .int .i64 0, .int .i64 0, .slice none 0 0, .bool false, .bool false, .bool false] 45 (0, 0))) from by rw [hw]; exact puts_blk BR [.int .i64 code, .int .i64 0, .int .i64 0, .int .i64 0, .int .i64 0, .int .i64 0, .slice none 0 0, .bool false, .bool false, .bool false] rfl); replace HB : Aside0 (Below w.heap.size w wq5) := ⟨by rw [hw]; exact puts_below HEBR.out [.int .i64 code, .int .i64 0, .int .i64 0, .int .i64 0, .int .i64 0, .int .i64 0, .slice none 0 0, .bool false, .bool false, .bool false] 0 _ HB.out⟩; have HS5 := Aside0.mk hk.1; replace BC := blk_kk BC hk (fun h3 => by have o0_ := HS1.out; have o1_ := HGBC.out; have o2_ := HLBC.out; have o3_ := HS2.out; have o4_ := HGBS.out; have o5_ := HLBS.out; have o6_ := HS3.out; have o7_ := HGBR.out; have o8_ := HLBR.out; have o9_ := HS4.out; have h3_ := h3; omega); replace BS := blk_kk BS hk (fun h3 => by have o0_ := HS1.out; have o1_ := HGBC.out; have o2_ := HLBC.out; have o3_ := HS2.out; have o4_ := HGBS.out; have o5_ := HLBS.out; have o6_ := HS3.out; have o7_ := HGBR.out; have o8_ := HLBR.out; have o9_ := HS4.out; have h3_ := h3; omega); replace BR := hp_; clear hw hk; obtain ⟨hczBR_0, hczBR_1, hczBR_2, hczBR_3, hczBR_4, hczBR_5, hczBR_6, hczBR_7, hczBR_8, hczBR_9, hfzBR_0, hfzBR_1, hfzBR_2, hfzBR_3, hfzBR_4, hfzBR_5, hfzBR_6, hfzBR_7, hfzBR_8, hfzBR_9⟩ := cf10_ BR))
  refine bodyPost_ret (results_cell_row rfl _ _ gBR 45 #[.int .i64 code, .int .i64 0, .int .i64 0, .int .i64 0, .int .i64 0, .int .i64 0, .slice none 0 0, .bool false, .bool false, .bool false] (0, 0) _ rfl BR.out Try.underlying45 rfl (by kernel_rfl)) rfl ?_
  exact ⟨_, rfl, Kd.S_nil _ _ _ _ _, HB.out⟩
set_option maxHeartbeats 16000000 in
set_option maxRecDepth 100000 in
theorem impl_FailSession.odd (k : Nat) (a i h s0 s1 s2 s3 s4 code why sub : Int) (w : World) (hsc : impl_sessionCode.f k a i h s0 s1 s2 s3 s4 = some code) (hre : impl_areReasons.f why sub = some false) (hc : code = 0) :
    Calls Try.prog 42 #[.agg #[.int .i64 a, .int .i64 i, .int .i64 h], .agg #[.int .i64 s0, .int .i64 s1, .int .i64 s2, .int .i64 s3, .int .i64 s4], .int .i64 why, .int .i64 sub] w fun e w' => ∃ v : Value, e = .returned (.agg #[.int .i64 3, .int .i64 0, .int .i64 0, .int .i64 0, .int .i64 0, .int .i64 0, v, .bool false, .bool false, .bool false]) ∧ Kd.S k136 136 w' w.heap.size (fun _ => True) v [] ∧ Below w.heap.size w w' := by
  have HSC := Aside0.mk hsc
  have HB := Aside0.mk (Below.refl w.heap.size w)
  clear hsc
  have HRE := Aside0.mk hre
  clear hre
  have t1 : (code != 0) = false := by simp [hc]
  have t2 : (code == 0) = true := by simp [hc]
  clear hc
  go_enter Try.func42, Try.ntmps42
  go_wp2_with (first
    | ((with_reducible refine gate_dst (N := 4) rfl ?_); refine box_e_ 4 #[.int .i64 a, .int .i64 i, .int .i64 h] 47 ?_; intro gBC hg wq1 hbox hb; have HGBC := Aside0.mk hg; have HLBC := Aside0.mk (blk_lt hbox); have HEBC : Aside0 (w.heap.size ≤ gBC) := ⟨by rw [hg]; exact HB.out.size⟩; have HS1 := Aside0.mk (Below.size hb); replace HB := below_kb HB hb; have BC := Aside0.mk hbox; clear hbox hg hb)
    | ((with_reducible refine gate_dst (N := 5) rfl ?_); refine box_e_ 5 #[.int .i64 s0, .int .i64 s1, .int .i64 s2, .int .i64 s3, .int .i64 s4] 42 ?_; intro gBS hg wq2 hbox hb; have HGBS := Aside0.mk hg; have HLBS := Aside0.mk (blk_lt hbox); have HEBS : Aside0 (w.heap.size ≤ gBS) := ⟨by rw [hg]; exact HB.out.size⟩; have HS2 := Aside0.mk (Below.size hb); replace BC := blk_kb BC hb; replace HB := below_kb HB hb; have BS := Aside0.mk hbox; clear hbox hg hb)
    | ((with_reducible refine gate_dst (N := 8) rfl ?_); refine box_e_ 8 #[.int .i64 0, .int .i64 0, .int .i64 0, .int .i64 0, .int .i64 0, .int .i64 0, .slice none 0 0, .bool false, .bool false, .bool false] 45 ?_; intro gBR hg wq3 hbox hb; have HGBR := Aside0.mk hg; have HLBR := Aside0.mk (blk_lt hbox); have HEBR : Aside0 (w.heap.size ≤ gBR) := ⟨by rw [hg]; exact HB.out.size⟩; have HS3 := Aside0.mk (Below.size hb); replace BC := blk_kb BC hb; replace BS := blk_kb BS hb; replace HB := below_kb HB hb; have BR := Aside0.mk hbox; clear hbox hg hb; obtain ⟨hczBC_0, hczBC_1, hczBC_2, hfzBC_0, hfzBC_1, hfzBC_2⟩ := cf3_ BC; obtain ⟨hczBS_0, hczBS_1, hczBS_2, hczBS_3, hczBS_4, hfzBS_0, hfzBS_1, hfzBS_2, hfzBS_3, hfzBS_4⟩ := cf5_ BS)
    | ((with_reducible refine gate_dst (N := 13) rfl ?_); refine goe_ (some 13) Try.func88 #[.agg #[.int .i64 a, .int .i64 i, .int .i64 h], .agg #[.int .i64 s0, .int .i64 s1, .int .i64 s2, .int .i64 s3, .int .i64 s4]] ?_; (with_reducible refine (impl_sessionCode.calls k a i h s0 s1 s2 s3 s4 code _ HSC.out).mono ?_); rintro e wq4 ⟨rfl, hb⟩; refine ⟨_, rfl, ?_⟩; have HS4 := Aside0.mk (Below.size hb); replace BC := blk_kb BC hb; replace BS := blk_kb BS hb; replace BR := blk_kb BR hb; replace HB := below_kb HB hb; obtain ⟨hczBC_0, hczBC_1, hczBC_2, hfzBC_0, hfzBC_1, hfzBC_2⟩ := cf3_ BC; obtain ⟨hczBS_0, hczBS_1, hczBS_2, hczBS_3, hczBS_4, hfzBS_0, hfzBS_1, hfzBS_2, hfzBS_3, hfzBS_4⟩ := cf5_ BS; obtain ⟨hczBR_0, hczBR_1, hczBR_2, hczBR_3, hczBR_4, hczBR_5, hczBR_6, hczBR_7, hczBR_8, hczBR_9, hfzBR_0, hfzBR_1, hfzBR_2, hfzBR_3, hfzBR_4, hfzBR_5, hfzBR_6, hfzBR_7, hfzBR_8, hfzBR_9⟩ := cf10_ BR; (try clear hb); (try clear ho); (try clear hd))
    | ((with_reducible refine gate_dst (N := 22) rfl ?_); refine goe_ (some 22) Try.func101 #[.int .i64 why, .int .i64 sub] ?_; (with_reducible refine (impl_areReasons.calls why sub false _ HRE.out).mono ?_); rintro e wq5 ⟨rfl, hd⟩; refine ⟨_, rfl, ?_⟩; have hb := drawn_below hd; have HS5 := Aside0.mk (Below.size hb); replace BC := blk_kb BC hb; replace BS := blk_kb BS hb; replace BR := blk_kb BR hb; replace HB := below_kb HB hb; obtain ⟨hczBC_0, hczBC_1, hczBC_2, hfzBC_0, hfzBC_1, hfzBC_2⟩ := cf3_ BC; obtain ⟨hczBS_0, hczBS_1, hczBS_2, hczBS_3, hczBS_4, hfzBS_0, hfzBS_1, hfzBS_2, hfzBS_3, hfzBS_4⟩ := cf5_ BS; obtain ⟨hczBR_0, hczBR_1, hczBR_2, hczBR_3, hczBR_4, hczBR_5, hczBR_6, hczBR_7, hczBR_8, hczBR_9, hfzBR_0, hfzBR_1, hfzBR_2, hfzBR_3, hfzBR_4, hfzBR_5, hfzBR_6, hfzBR_7, hfzBR_8, hfzBR_9⟩ := cf10_ BR; (try clear hb); (try clear ho); (try clear hd))
    | ((with_reducible refine gate_store (t := 45) (p := 8) rfl ?_); refine store_event (t := 45) (p := 8) (v := ?vo6) (w1 := wq5.setCells gBR 0 [.int .i64 3, .int .i64 0, .int .i64 0, .int .i64 0, .int .i64 0, .int .i64 0, .slice none 0 0, .bool false, .bool false, .bool false]) ?hg ?ho ?hn ?hr ?_; (case ho => rfl); (case hg => rfl); (case hn => rfl); (case hr => first | (go_simp; done) | (go_simp; rfl)); intro wq6 hw; have hk : Kept wq5 wq6 (fun k => k = gBR) := (by rw [hw]; exact puts_kept [.int .i64 3, .int .i64 0, .int .i64 0, .int .i64 0, .int .i64 0, .int .i64 0, .slice none 0 0, .bool false, .bool false, .bool false] 0 _ _ (Kept.refl _ _)); have hp_ := (show Aside0 (wq6.heap[gBR]? = some (.cells #[.int .i64 3, .int .i64 0, .int .i64 0, .int .i64 0, .int .i64 0, .int .i64 0, .slice none 0 0, .bool false, .bool false, .bool false] 45 (0, 0))) from by rw [hw]; exact puts_blk BR [.int .i64 3, .int .i64 0, .int .i64 0, .int .i64 0, .int .i64 0, .int .i64 0, .slice none 0 0, .bool false, .bool false, .bool false] rfl); replace HB : Aside0 (Below w.heap.size w wq6) := ⟨by rw [hw]; exact puts_below HEBR.out [.int .i64 3, .int .i64 0, .int .i64 0, .int .i64 0, .int .i64 0, .int .i64 0, .slice none 0 0, .bool false, .bool false, .bool false] 0 _ HB.out⟩; have HS6 := Aside0.mk hk.1; replace BC := blk_kk BC hk (fun h3 => by have o0_ := HS1.out; have o1_ := HGBC.out; have o2_ := HLBC.out; have o3_ := HS2.out; have o4_ := HGBS.out; have o5_ := HLBS.out; have o6_ := HS3.out; have o7_ := HGBR.out; have o8_ := HLBR.out; have o9_ := HS4.out; have o10_ := HS5.out; have h3_ := h3; omega); replace BS := blk_kk BS hk (fun h3 => by have o0_ := HS1.out; have o1_ := HGBC.out; have o2_ := HLBC.out; have o3_ := HS2.out; have o4_ := HGBS.out; have o5_ := HLBS.out; have o6_ := HS3.out; have o7_ := HGBR.out; have o8_ := HLBR.out; have o9_ := HS4.out; have o10_ := HS5.out; have h3_ := h3; omega); replace BR := hp_; clear hw hk; obtain ⟨hczBR_0, hczBR_1, hczBR_2, hczBR_3, hczBR_4, hczBR_5, hczBR_6, hczBR_7, hczBR_8, hczBR_9, hfzBR_0, hfzBR_1, hfzBR_2, hfzBR_3, hfzBR_4, hfzBR_5, hfzBR_6, hfzBR_7, hfzBR_8, hfzBR_9⟩ := cf10_ BR))
  refine bodyPost_ret (results_cell_row rfl _ _ gBR 45 #[.int .i64 3, .int .i64 0, .int .i64 0, .int .i64 0, .int .i64 0, .int .i64 0, .slice none 0 0, .bool false, .bool false, .bool false] (0, 0) _ rfl BR.out Try.underlying45 rfl (by kernel_rfl)) rfl ?_
  exact ⟨_, rfl, Kd.S_nil _ _ _ _ _, HB.out⟩
set_option maxHeartbeats 16000000 in
set_option maxRecDepth 100000 in
theorem impl_FailSession.quiet (k : Nat) (a i h s0 s1 s2 s3 s4 code why sub : Int) (w : World) (hsc : impl_sessionCode.f k a i h s0 s1 s2 s3 s4 = some code) (hre : impl_areReasons.f why sub = some true) (hc : code = 0) (h0 : s0 = 0) :
    Calls Try.prog 42 #[.agg #[.int .i64 a, .int .i64 i, .int .i64 h], .agg #[.int .i64 s0, .int .i64 s1, .int .i64 s2, .int .i64 s3, .int .i64 s4], .int .i64 why, .int .i64 sub] w fun e w' => ∃ v : Value, e = .returned (.agg #[.int .i64 0, .int .i64 s0, .int .i64 s1, .int .i64 s2, .int .i64 s3, .int .i64 s4, v, .bool false, .bool false, .bool false]) ∧ Kd.S k136 136 w' w.heap.size (fun _ => True) v [] ∧ Below w.heap.size w w' := by
  have HSC := Aside0.mk hsc
  have HB := Aside0.mk (Below.refl w.heap.size w)
  clear hsc
  have HRE := Aside0.mk hre
  clear hre
  have t1 : (code != 0) = false := by simp [hc]
  have t2 : (code == 0) = true := by simp [hc]
  clear hc
  have t3 : (s0 != 0) = false := by simp [h0]
  have t4 : (s0 == 0) = true := by simp [h0]
  clear h0
  go_enter Try.func42, Try.ntmps42
  go_wp2_with (first
    | ((with_reducible refine gate_dst (N := 4) rfl ?_); refine box_e_ 4 #[.int .i64 a, .int .i64 i, .int .i64 h] 47 ?_; intro gBC hg wq1 hbox hb; have HGBC := Aside0.mk hg; have HLBC := Aside0.mk (blk_lt hbox); have HEBC : Aside0 (w.heap.size ≤ gBC) := ⟨by rw [hg]; exact HB.out.size⟩; have HS1 := Aside0.mk (Below.size hb); replace HB := below_kb HB hb; have BC := Aside0.mk hbox; clear hbox hg hb)
    | ((with_reducible refine gate_dst (N := 5) rfl ?_); refine box_e_ 5 #[.int .i64 s0, .int .i64 s1, .int .i64 s2, .int .i64 s3, .int .i64 s4] 42 ?_; intro gBS hg wq2 hbox hb; have HGBS := Aside0.mk hg; have HLBS := Aside0.mk (blk_lt hbox); have HEBS : Aside0 (w.heap.size ≤ gBS) := ⟨by rw [hg]; exact HB.out.size⟩; have HS2 := Aside0.mk (Below.size hb); replace BC := blk_kb BC hb; replace HB := below_kb HB hb; have BS := Aside0.mk hbox; clear hbox hg hb)
    | ((with_reducible refine gate_dst (N := 8) rfl ?_); refine box_e_ 8 #[.int .i64 0, .int .i64 0, .int .i64 0, .int .i64 0, .int .i64 0, .int .i64 0, .slice none 0 0, .bool false, .bool false, .bool false] 45 ?_; intro gBR hg wq3 hbox hb; have HGBR := Aside0.mk hg; have HLBR := Aside0.mk (blk_lt hbox); have HEBR : Aside0 (w.heap.size ≤ gBR) := ⟨by rw [hg]; exact HB.out.size⟩; have HS3 := Aside0.mk (Below.size hb); replace BC := blk_kb BC hb; replace BS := blk_kb BS hb; replace HB := below_kb HB hb; have BR := Aside0.mk hbox; clear hbox hg hb; obtain ⟨hczBC_0, hczBC_1, hczBC_2, hfzBC_0, hfzBC_1, hfzBC_2⟩ := cf3_ BC; obtain ⟨hczBS_0, hczBS_1, hczBS_2, hczBS_3, hczBS_4, hfzBS_0, hfzBS_1, hfzBS_2, hfzBS_3, hfzBS_4⟩ := cf5_ BS)
    | ((with_reducible refine gate_dst (N := 13) rfl ?_); refine goe_ (some 13) Try.func88 #[.agg #[.int .i64 a, .int .i64 i, .int .i64 h], .agg #[.int .i64 s0, .int .i64 s1, .int .i64 s2, .int .i64 s3, .int .i64 s4]] ?_; (with_reducible refine (impl_sessionCode.calls k a i h s0 s1 s2 s3 s4 code _ HSC.out).mono ?_); rintro e wq4 ⟨rfl, hb⟩; refine ⟨_, rfl, ?_⟩; have HS4 := Aside0.mk (Below.size hb); replace BC := blk_kb BC hb; replace BS := blk_kb BS hb; replace BR := blk_kb BR hb; replace HB := below_kb HB hb; obtain ⟨hczBC_0, hczBC_1, hczBC_2, hfzBC_0, hfzBC_1, hfzBC_2⟩ := cf3_ BC; obtain ⟨hczBS_0, hczBS_1, hczBS_2, hczBS_3, hczBS_4, hfzBS_0, hfzBS_1, hfzBS_2, hfzBS_3, hfzBS_4⟩ := cf5_ BS; obtain ⟨hczBR_0, hczBR_1, hczBR_2, hczBR_3, hczBR_4, hczBR_5, hczBR_6, hczBR_7, hczBR_8, hczBR_9, hfzBR_0, hfzBR_1, hfzBR_2, hfzBR_3, hfzBR_4, hfzBR_5, hfzBR_6, hfzBR_7, hfzBR_8, hfzBR_9⟩ := cf10_ BR; (try clear hb); (try clear ho); (try clear hd))
    | ((with_reducible refine gate_dst (N := 22) rfl ?_); refine goe_ (some 22) Try.func101 #[.int .i64 why, .int .i64 sub] ?_; (with_reducible refine (impl_areReasons.calls why sub true _ HRE.out).mono ?_); rintro e wq5 ⟨rfl, hd⟩; refine ⟨_, rfl, ?_⟩; have hb := drawn_below hd; have HS5 := Aside0.mk (Below.size hb); replace BC := blk_kb BC hb; replace BS := blk_kb BS hb; replace BR := blk_kb BR hb; replace HB := below_kb HB hb; obtain ⟨hczBC_0, hczBC_1, hczBC_2, hfzBC_0, hfzBC_1, hfzBC_2⟩ := cf3_ BC; obtain ⟨hczBS_0, hczBS_1, hczBS_2, hczBS_3, hczBS_4, hfzBS_0, hfzBS_1, hfzBS_2, hfzBS_3, hfzBS_4⟩ := cf5_ BS; obtain ⟨hczBR_0, hczBR_1, hczBR_2, hczBR_3, hczBR_4, hczBR_5, hczBR_6, hczBR_7, hczBR_8, hczBR_9, hfzBR_0, hfzBR_1, hfzBR_2, hfzBR_3, hfzBR_4, hfzBR_5, hfzBR_6, hfzBR_7, hfzBR_8, hfzBR_9⟩ := cf10_ BR; (try clear hb); (try clear ho); (try clear hd))
    | ((with_reducible refine gate_dst (N := 10) rfl ?_); refine box_e_ 10 #[.int .i64 0, .int .i64 0, .int .i64 0, .int .i64 0, .int .i64 0, .int .i64 0, .slice none 0 0, .bool false, .bool false, .bool false] 45 ?_; intro gB6 hg wq6 hbox hb; have HGB6 := Aside0.mk hg; have HLB6 := Aside0.mk (blk_lt hbox); have HEB6 : Aside0 (w.heap.size ≤ gB6) := ⟨by rw [hg]; exact HB.out.size⟩; have HS6 := Aside0.mk (Below.size hb); replace BC := blk_kb BC hb; replace BS := blk_kb BS hb; replace BR := blk_kb BR hb; replace HB := below_kb HB hb; have B6 := Aside0.mk hbox; clear hbox hg hb; obtain ⟨hczB6_0, hczB6_1, hczB6_2, hczB6_3, hczB6_4, hczB6_5, hczB6_6, hczB6_7, hczB6_8, hczB6_9, hfzB6_0, hfzB6_1, hfzB6_2, hfzB6_3, hfzB6_4, hfzB6_5, hfzB6_6, hfzB6_7, hfzB6_8, hfzB6_9⟩ := cf10_ B6)
    | ((with_reducible refine gate_store (t := 45) (p := 10) rfl ?_); refine store_event (t := 45) (p := 10) (v := ?vo7) (w1 := wq6.setCells gB6 0 [.int .i64 0, .int .i64 s0, .int .i64 s1, .int .i64 s2, .int .i64 s3, .int .i64 s4, .slice none 0 0, .bool false, .bool false, .bool false]) ?hg ?ho ?hn ?hr ?_; (case ho => rfl); (case hg => rfl); (case hn => rfl); (case hr => first | (go_simp; done) | (go_simp; rfl)); intro wq7 hw; have hk : Kept wq6 wq7 (fun k => k = gB6) := (by rw [hw]; exact puts_kept [.int .i64 0, .int .i64 s0, .int .i64 s1, .int .i64 s2, .int .i64 s3, .int .i64 s4, .slice none 0 0, .bool false, .bool false, .bool false] 0 _ _ (Kept.refl _ _)); have hp_ := (show Aside0 (wq7.heap[gB6]? = some (.cells #[.int .i64 0, .int .i64 s0, .int .i64 s1, .int .i64 s2, .int .i64 s3, .int .i64 s4, .slice none 0 0, .bool false, .bool false, .bool false] 45 (0, 0))) from by rw [hw]; exact puts_blk B6 [.int .i64 0, .int .i64 s0, .int .i64 s1, .int .i64 s2, .int .i64 s3, .int .i64 s4, .slice none 0 0, .bool false, .bool false, .bool false] rfl); replace HB : Aside0 (Below w.heap.size w wq7) := ⟨by rw [hw]; exact puts_below HEB6.out [.int .i64 0, .int .i64 s0, .int .i64 s1, .int .i64 s2, .int .i64 s3, .int .i64 s4, .slice none 0 0, .bool false, .bool false, .bool false] 0 _ HB.out⟩; have HS7 := Aside0.mk hk.1; replace BC := blk_kk BC hk (fun h3 => by have o0_ := HS1.out; have o1_ := HGBC.out; have o2_ := HLBC.out; have o3_ := HS2.out; have o4_ := HGBS.out; have o5_ := HLBS.out; have o6_ := HS3.out; have o7_ := HGBR.out; have o8_ := HLBR.out; have o9_ := HS4.out; have o10_ := HS5.out; have o11_ := HS6.out; have o12_ := HGB6.out; have o13_ := HLB6.out; have h3_ := h3; omega); replace BS := blk_kk BS hk (fun h3 => by have o0_ := HS1.out; have o1_ := HGBC.out; have o2_ := HLBC.out; have o3_ := HS2.out; have o4_ := HGBS.out; have o5_ := HLBS.out; have o6_ := HS3.out; have o7_ := HGBR.out; have o8_ := HLBR.out; have o9_ := HS4.out; have o10_ := HS5.out; have o11_ := HS6.out; have o12_ := HGB6.out; have o13_ := HLB6.out; have h3_ := h3; omega); replace BR := blk_kk BR hk (fun h3 => by have o0_ := HS1.out; have o1_ := HGBC.out; have o2_ := HLBC.out; have o3_ := HS2.out; have o4_ := HGBS.out; have o5_ := HLBS.out; have o6_ := HS3.out; have o7_ := HGBR.out; have o8_ := HLBR.out; have o9_ := HS4.out; have o10_ := HS5.out; have o11_ := HS6.out; have o12_ := HGB6.out; have o13_ := HLB6.out; have h3_ := h3; omega); replace B6 := hp_; clear hw hk; obtain ⟨hczBC_0, hczBC_1, hczBC_2, hfzBC_0, hfzBC_1, hfzBC_2⟩ := cf3_ BC; obtain ⟨hczBS_0, hczBS_1, hczBS_2, hczBS_3, hczBS_4, hfzBS_0, hfzBS_1, hfzBS_2, hfzBS_3, hfzBS_4⟩ := cf5_ BS; obtain ⟨hczB6_0, hczB6_1, hczB6_2, hczB6_3, hczB6_4, hczB6_5, hczB6_6, hczB6_7, hczB6_8, hczB6_9, hfzB6_0, hfzB6_1, hfzB6_2, hfzB6_3, hfzB6_4, hfzB6_5, hfzB6_6, hfzB6_7, hfzB6_8, hfzB6_9⟩ := cf10_ B6; obtain ⟨hczBR_0, hczBR_1, hczBR_2, hczBR_3, hczBR_4, hczBR_5, hczBR_6, hczBR_7, hczBR_8, hczBR_9, hfzBR_0, hfzBR_1, hfzBR_2, hfzBR_3, hfzBR_4, hfzBR_5, hfzBR_6, hfzBR_7, hfzBR_8, hfzBR_9⟩ := cf10_ BR)
    | ((with_reducible refine gate_store (t := 45) (p := 8) rfl ?_); refine store_event (t := 45) (p := 8) (v := ?vo8) (w1 := wq7.setCells gBR 0 [.int .i64 0, .int .i64 s0, .int .i64 s1, .int .i64 s2, .int .i64 s3, .int .i64 s4, .slice none 0 0, .bool false, .bool false, .bool false]) ?hg ?ho ?hn ?hr ?_; (case ho => rfl); (case hg => rfl); (case hn => rfl); (case hr => first | (go_simp; done) | (go_simp; rfl)); intro wq8 hw; have hk : Kept wq7 wq8 (fun k => k = gBR) := (by rw [hw]; exact puts_kept [.int .i64 0, .int .i64 s0, .int .i64 s1, .int .i64 s2, .int .i64 s3, .int .i64 s4, .slice none 0 0, .bool false, .bool false, .bool false] 0 _ _ (Kept.refl _ _)); have hp_ := (show Aside0 (wq8.heap[gBR]? = some (.cells #[.int .i64 0, .int .i64 s0, .int .i64 s1, .int .i64 s2, .int .i64 s3, .int .i64 s4, .slice none 0 0, .bool false, .bool false, .bool false] 45 (0, 0))) from by rw [hw]; exact puts_blk BR [.int .i64 0, .int .i64 s0, .int .i64 s1, .int .i64 s2, .int .i64 s3, .int .i64 s4, .slice none 0 0, .bool false, .bool false, .bool false] rfl); replace HB : Aside0 (Below w.heap.size w wq8) := ⟨by rw [hw]; exact puts_below HEBR.out [.int .i64 0, .int .i64 s0, .int .i64 s1, .int .i64 s2, .int .i64 s3, .int .i64 s4, .slice none 0 0, .bool false, .bool false, .bool false] 0 _ HB.out⟩; have HS8 := Aside0.mk hk.1; replace BC := blk_kk BC hk (fun h3 => by have o0_ := HS1.out; have o1_ := HGBC.out; have o2_ := HLBC.out; have o3_ := HS2.out; have o4_ := HGBS.out; have o5_ := HLBS.out; have o6_ := HS3.out; have o7_ := HGBR.out; have o8_ := HLBR.out; have o9_ := HS4.out; have o10_ := HS5.out; have o11_ := HS6.out; have o12_ := HGB6.out; have o13_ := HLB6.out; have o14_ := HS7.out; have h3_ := h3; omega); replace BS := blk_kk BS hk (fun h3 => by have o0_ := HS1.out; have o1_ := HGBC.out; have o2_ := HLBC.out; have o3_ := HS2.out; have o4_ := HGBS.out; have o5_ := HLBS.out; have o6_ := HS3.out; have o7_ := HGBR.out; have o8_ := HLBR.out; have o9_ := HS4.out; have o10_ := HS5.out; have o11_ := HS6.out; have o12_ := HGB6.out; have o13_ := HLB6.out; have o14_ := HS7.out; have h3_ := h3; omega); replace B6 := blk_kk B6 hk (fun h3 => by have o0_ := HS1.out; have o1_ := HGBC.out; have o2_ := HLBC.out; have o3_ := HS2.out; have o4_ := HGBS.out; have o5_ := HLBS.out; have o6_ := HS3.out; have o7_ := HGBR.out; have o8_ := HLBR.out; have o9_ := HS4.out; have o10_ := HS5.out; have o11_ := HS6.out; have o12_ := HGB6.out; have o13_ := HLB6.out; have o14_ := HS7.out; have h3_ := h3; omega); replace BR := hp_; clear hw hk; obtain ⟨hczBR_0, hczBR_1, hczBR_2, hczBR_3, hczBR_4, hczBR_5, hczBR_6, hczBR_7, hczBR_8, hczBR_9, hfzBR_0, hfzBR_1, hfzBR_2, hfzBR_3, hfzBR_4, hfzBR_5, hfzBR_6, hfzBR_7, hfzBR_8, hfzBR_9⟩ := cf10_ BR))
  refine bodyPost_ret (results_cell_row rfl _ _ gBR 45 #[.int .i64 0, .int .i64 s0, .int .i64 s1, .int .i64 s2, .int .i64 s3, .int .i64 s4, .slice none 0 0, .bool false, .bool false, .bool false] (0, 0) _ rfl BR.out Try.underlying45 rfl (by kernel_rfl)) rfl ?_
  exact ⟨_, rfl, Kd.S_nil _ _ _ _ _, HB.out⟩
set_option maxHeartbeats 16000000 in
set_option maxRecDepth 100000 in
theorem impl_FailSession.ok (k : Nat) (a i h s0 s1 s2 s3 s4 code why sub : Int) (w : World) (hsc : impl_sessionCode.f k a i h s0 s1 s2 s3 s4 = some code) (hre : impl_areReasons.f why sub = some true) (hc : code = 0) (h0 : s0 ≠ 0) :
    Calls Try.prog 42 #[.agg #[.int .i64 a, .int .i64 i, .int .i64 h], .agg #[.int .i64 s0, .int .i64 s1, .int .i64 s2, .int .i64 s3, .int .i64 s4], .int .i64 why, .int .i64 sub] w fun e w' => ∃ v : Value, e = .returned (.agg #[.int .i64 0, .int .i64 0, .int .i64 0, .int .i64 0, .int .i64 0, .int .i64 0, v, .bool false, .bool (s0 == 3), .bool false]) ∧ Kd.S k136 136 w' w.heap.size (fun _ => True) v [msgOf 3 0 0 0 why sub] ∧ Below w.heap.size w w' := by
  have HSC := Aside0.mk hsc
  have HB := Aside0.mk (Below.refl w.heap.size w)
  clear hsc
  have HRE := Aside0.mk hre
  clear hre
  have t1 : (code != 0) = false := by simp [hc]
  have t2 : (code == 0) = true := by simp [hc]
  clear hc
  have t3 : (s0 != 0) = true := by simp [h0]
  have t4 : (s0 == 0) = false := by simp [h0]
  clear h0
  go_enter Try.func42, Try.ntmps42
  go_wp2_with (first
    | ((with_reducible refine gate_dst (N := 4) rfl ?_); refine box_e_ 4 #[.int .i64 a, .int .i64 i, .int .i64 h] 47 ?_; intro gBC hg wq1 hbox hb; have HGBC := Aside0.mk hg; have HLBC := Aside0.mk (blk_lt hbox); have HEBC : Aside0 (w.heap.size ≤ gBC) := ⟨by rw [hg]; exact HB.out.size⟩; have HS1 := Aside0.mk (Below.size hb); replace HB := below_kb HB hb; have BC := Aside0.mk hbox; clear hbox hg hb)
    | ((with_reducible refine gate_dst (N := 5) rfl ?_); refine box_e_ 5 #[.int .i64 s0, .int .i64 s1, .int .i64 s2, .int .i64 s3, .int .i64 s4] 42 ?_; intro gBS hg wq2 hbox hb; have HGBS := Aside0.mk hg; have HLBS := Aside0.mk (blk_lt hbox); have HEBS : Aside0 (w.heap.size ≤ gBS) := ⟨by rw [hg]; exact HB.out.size⟩; have HS2 := Aside0.mk (Below.size hb); replace BC := blk_kb BC hb; replace HB := below_kb HB hb; have BS := Aside0.mk hbox; clear hbox hg hb)
    | ((with_reducible refine gate_dst (N := 8) rfl ?_); refine box_e_ 8 #[.int .i64 0, .int .i64 0, .int .i64 0, .int .i64 0, .int .i64 0, .int .i64 0, .slice none 0 0, .bool false, .bool false, .bool false] 45 ?_; intro gBR hg wq3 hbox hb; have HGBR := Aside0.mk hg; have HLBR := Aside0.mk (blk_lt hbox); have HEBR : Aside0 (w.heap.size ≤ gBR) := ⟨by rw [hg]; exact HB.out.size⟩; have HS3 := Aside0.mk (Below.size hb); replace BC := blk_kb BC hb; replace BS := blk_kb BS hb; replace HB := below_kb HB hb; have BR := Aside0.mk hbox; clear hbox hg hb; obtain ⟨hczBC_0, hczBC_1, hczBC_2, hfzBC_0, hfzBC_1, hfzBC_2⟩ := cf3_ BC; obtain ⟨hczBS_0, hczBS_1, hczBS_2, hczBS_3, hczBS_4, hfzBS_0, hfzBS_1, hfzBS_2, hfzBS_3, hfzBS_4⟩ := cf5_ BS)
    | ((with_reducible refine gate_dst (N := 13) rfl ?_); refine goe_ (some 13) Try.func88 #[.agg #[.int .i64 a, .int .i64 i, .int .i64 h], .agg #[.int .i64 s0, .int .i64 s1, .int .i64 s2, .int .i64 s3, .int .i64 s4]] ?_; (with_reducible refine (impl_sessionCode.calls k a i h s0 s1 s2 s3 s4 code _ HSC.out).mono ?_); rintro e wq4 ⟨rfl, hb⟩; refine ⟨_, rfl, ?_⟩; have HS4 := Aside0.mk (Below.size hb); replace BC := blk_kb BC hb; replace BS := blk_kb BS hb; replace BR := blk_kb BR hb; replace HB := below_kb HB hb; obtain ⟨hczBC_0, hczBC_1, hczBC_2, hfzBC_0, hfzBC_1, hfzBC_2⟩ := cf3_ BC; obtain ⟨hczBS_0, hczBS_1, hczBS_2, hczBS_3, hczBS_4, hfzBS_0, hfzBS_1, hfzBS_2, hfzBS_3, hfzBS_4⟩ := cf5_ BS; obtain ⟨hczBR_0, hczBR_1, hczBR_2, hczBR_3, hczBR_4, hczBR_5, hczBR_6, hczBR_7, hczBR_8, hczBR_9, hfzBR_0, hfzBR_1, hfzBR_2, hfzBR_3, hfzBR_4, hfzBR_5, hfzBR_6, hfzBR_7, hfzBR_8, hfzBR_9⟩ := cf10_ BR; (try clear hb); (try clear ho); (try clear hd))
    | ((with_reducible refine gate_dst (N := 22) rfl ?_); refine goe_ (some 22) Try.func101 #[.int .i64 why, .int .i64 sub] ?_; (with_reducible refine (impl_areReasons.calls why sub true _ HRE.out).mono ?_); rintro e wq5 ⟨rfl, hd⟩; refine ⟨_, rfl, ?_⟩; have hb := drawn_below hd; have HS5 := Aside0.mk (Below.size hb); replace BC := blk_kb BC hb; replace BS := blk_kb BS hb; replace BR := blk_kb BR hb; replace HB := below_kb HB hb; obtain ⟨hczBC_0, hczBC_1, hczBC_2, hfzBC_0, hfzBC_1, hfzBC_2⟩ := cf3_ BC; obtain ⟨hczBS_0, hczBS_1, hczBS_2, hczBS_3, hczBS_4, hfzBS_0, hfzBS_1, hfzBS_2, hfzBS_3, hfzBS_4⟩ := cf5_ BS; obtain ⟨hczBR_0, hczBR_1, hczBR_2, hczBR_3, hczBR_4, hczBR_5, hczBR_6, hczBR_7, hczBR_8, hczBR_9, hfzBR_0, hfzBR_1, hfzBR_2, hfzBR_3, hfzBR_4, hfzBR_5, hfzBR_6, hfzBR_7, hfzBR_8, hfzBR_9⟩ := cf10_ BR; (try clear hb); (try clear ho); (try clear hd))
    | ((with_reducible refine gate_dst (N := 10) rfl ?_); refine box_e_ 10 #[.int .i64 0, .int .i64 0, .int .i64 0, .int .i64 0, .int .i64 0, .int .i64 0, .slice none 0 0, .bool false, .bool false, .bool false] 45 ?_; intro gB6 hg wq6 hbox hb; have HGB6 := Aside0.mk hg; have HLB6 := Aside0.mk (blk_lt hbox); have HEB6 : Aside0 (w.heap.size ≤ gB6) := ⟨by rw [hg]; exact HB.out.size⟩; have HS6 := Aside0.mk (Below.size hb); replace BC := blk_kb BC hb; replace BS := blk_kb BS hb; replace BR := blk_kb BR hb; replace HB := below_kb HB hb; have B6 := Aside0.mk hbox; clear hbox hg hb; obtain ⟨hczB6_0, hczB6_1, hczB6_2, hczB6_3, hczB6_4, hczB6_5, hczB6_6, hczB6_7, hczB6_8, hczB6_9, hfzB6_0, hfzB6_1, hfzB6_2, hfzB6_3, hfzB6_4, hfzB6_5, hfzB6_6, hfzB6_7, hfzB6_8, hfzB6_9⟩ := cf10_ B6)
    | ((with_reducible refine gate_store (t := 45) (p := 10) rfl ?_); refine store_event (t := 45) (p := 10) (v := ?vo7) (w1 := wq6.setCells gB6 0 [.int .i64 0, .int .i64 s0, .int .i64 s1, .int .i64 s2, .int .i64 s3, .int .i64 s4, .slice none 0 0, .bool false, .bool false, .bool false]) ?hg ?ho ?hn ?hr ?_; (case ho => rfl); (case hg => rfl); (case hn => rfl); (case hr => first | (go_simp; done) | (go_simp; rfl)); intro wq7 hw; have hk : Kept wq6 wq7 (fun k => k = gB6) := (by rw [hw]; exact puts_kept [.int .i64 0, .int .i64 s0, .int .i64 s1, .int .i64 s2, .int .i64 s3, .int .i64 s4, .slice none 0 0, .bool false, .bool false, .bool false] 0 _ _ (Kept.refl _ _)); have hp_ := (show Aside0 (wq7.heap[gB6]? = some (.cells #[.int .i64 0, .int .i64 s0, .int .i64 s1, .int .i64 s2, .int .i64 s3, .int .i64 s4, .slice none 0 0, .bool false, .bool false, .bool false] 45 (0, 0))) from by rw [hw]; exact puts_blk B6 [.int .i64 0, .int .i64 s0, .int .i64 s1, .int .i64 s2, .int .i64 s3, .int .i64 s4, .slice none 0 0, .bool false, .bool false, .bool false] rfl); replace HB : Aside0 (Below w.heap.size w wq7) := ⟨by rw [hw]; exact puts_below HEB6.out [.int .i64 0, .int .i64 s0, .int .i64 s1, .int .i64 s2, .int .i64 s3, .int .i64 s4, .slice none 0 0, .bool false, .bool false, .bool false] 0 _ HB.out⟩; have HS7 := Aside0.mk hk.1; replace BC := blk_kk BC hk (fun h3 => by have o0_ := HS1.out; have o1_ := HGBC.out; have o2_ := HLBC.out; have o3_ := HS2.out; have o4_ := HGBS.out; have o5_ := HLBS.out; have o6_ := HS3.out; have o7_ := HGBR.out; have o8_ := HLBR.out; have o9_ := HS4.out; have o10_ := HS5.out; have o11_ := HS6.out; have o12_ := HGB6.out; have o13_ := HLB6.out; have h3_ := h3; omega); replace BS := blk_kk BS hk (fun h3 => by have o0_ := HS1.out; have o1_ := HGBC.out; have o2_ := HLBC.out; have o3_ := HS2.out; have o4_ := HGBS.out; have o5_ := HLBS.out; have o6_ := HS3.out; have o7_ := HGBR.out; have o8_ := HLBR.out; have o9_ := HS4.out; have o10_ := HS5.out; have o11_ := HS6.out; have o12_ := HGB6.out; have o13_ := HLB6.out; have h3_ := h3; omega); replace BR := blk_kk BR hk (fun h3 => by have o0_ := HS1.out; have o1_ := HGBC.out; have o2_ := HLBC.out; have o3_ := HS2.out; have o4_ := HGBS.out; have o5_ := HLBS.out; have o6_ := HS3.out; have o7_ := HGBR.out; have o8_ := HLBR.out; have o9_ := HS4.out; have o10_ := HS5.out; have o11_ := HS6.out; have o12_ := HGB6.out; have o13_ := HLB6.out; have h3_ := h3; omega); replace B6 := hp_; clear hw hk; obtain ⟨hczBC_0, hczBC_1, hczBC_2, hfzBC_0, hfzBC_1, hfzBC_2⟩ := cf3_ BC; obtain ⟨hczBS_0, hczBS_1, hczBS_2, hczBS_3, hczBS_4, hfzBS_0, hfzBS_1, hfzBS_2, hfzBS_3, hfzBS_4⟩ := cf5_ BS; obtain ⟨hczB6_0, hczB6_1, hczB6_2, hczB6_3, hczB6_4, hczB6_5, hczB6_6, hczB6_7, hczB6_8, hczB6_9, hfzB6_0, hfzB6_1, hfzB6_2, hfzB6_3, hfzB6_4, hfzB6_5, hfzB6_6, hfzB6_7, hfzB6_8, hfzB6_9⟩ := cf10_ B6; obtain ⟨hczBR_0, hczBR_1, hczBR_2, hczBR_3, hczBR_4, hczBR_5, hczBR_6, hczBR_7, hczBR_8, hczBR_9, hfzBR_0, hfzBR_1, hfzBR_2, hfzBR_3, hfzBR_4, hfzBR_5, hfzBR_6, hfzBR_7, hfzBR_8, hfzBR_9⟩ := cf10_ BR)
    | ((with_reducible refine gate_dst (N := 32) rfl ?_); refine goe_ (some 32) Try.func102 #[.pointer (some ⟨gB6, 0, none⟩), .int .i64 why, .int .i64 sub] ?_; (with_reducible refine (fail_calls gB6 0 s0 s1 s2 s3 s4 false false false why sub w _ ?side1 ?side2 ?side3).mono ?_); (case side1 => exact HB.out); (case side2 => exact HEB6.out); (case side3 => exact B6.out); rintro e wq8 ⟨rfl, hs, hb0, hk⟩; refine ⟨_, rfl, ?_⟩; unfold Said at hs; obtain ⟨v, hbx, hS⟩ := hs; have XS := Siv hS HB.out.size; have HS8 := Aside0.mk hk.1; replace BC := blk_kk BC hk (fun h3 => by have o0_ := HS1.out; have o1_ := HGBC.out; have o2_ := HLBC.out; have o3_ := HS2.out; have o4_ := HGBS.out; have o5_ := HLBS.out; have o6_ := HS3.out; have o7_ := HGBR.out; have o8_ := HLBR.out; have o9_ := HS4.out; have o10_ := HS5.out; have o11_ := HS6.out; have o12_ := HGB6.out; have o13_ := HLB6.out; have o14_ := HS7.out; have h3_ := h3; omega); replace BS := blk_kk BS hk (fun h3 => by have o0_ := HS1.out; have o1_ := HGBC.out; have o2_ := HLBC.out; have o3_ := HS2.out; have o4_ := HGBS.out; have o5_ := HLBS.out; have o6_ := HS3.out; have o7_ := HGBR.out; have o8_ := HLBR.out; have o9_ := HS4.out; have o10_ := HS5.out; have o11_ := HS6.out; have o12_ := HGB6.out; have o13_ := HLB6.out; have o14_ := HS7.out; have h3_ := h3; omega); replace BR := blk_kk BR hk (fun h3 => by have o0_ := HS1.out; have o1_ := HGBC.out; have o2_ := HLBC.out; have o3_ := HS2.out; have o4_ := HGBS.out; have o5_ := HLBS.out; have o6_ := HS3.out; have o7_ := HGBR.out; have o8_ := HLBR.out; have o9_ := HS4.out; have o10_ := HS5.out; have o11_ := HS6.out; have o12_ := HGB6.out; have o13_ := HLB6.out; have o14_ := HS7.out; have h3_ := h3; omega); replace B6 := Aside0.mk hbx; replace HB := Aside0.mk hb0; clear hbx hS hk hb0; obtain ⟨AXS, cXS, rfl⟩ := Kd.S_slice XS.out; obtain ⟨hczB6_0, hczB6_1, hczB6_2, hczB6_3, hczB6_4, hczB6_5, hczB6_6, hczB6_7, hczB6_8, hczB6_9, hfzB6_0, hfzB6_1, hfzB6_2, hfzB6_3, hfzB6_4, hfzB6_5, hfzB6_6, hfzB6_7, hfzB6_8, hfzB6_9⟩ := cf10_ B6; obtain ⟨hczBR_0, hczBR_1, hczBR_2, hczBR_3, hczBR_4, hczBR_5, hczBR_6, hczBR_7, hczBR_8, hczBR_9, hfzBR_0, hfzBR_1, hfzBR_2, hfzBR_3, hfzBR_4, hfzBR_5, hfzBR_6, hfzBR_7, hfzBR_8, hfzBR_9⟩ := cf10_ BR)
    | ((with_reducible refine gate_store (t := 45) (p := 8) rfl ?_); refine store_event (t := 45) (p := 8) (v := ?vo9) (w1 := wq8.setCells gBR 0 [.int .i64 0, .int .i64 0, .int .i64 0, .int .i64 0, .int .i64 0, .int .i64 0, .slice AXS [msgOf 3 0 0 0 why sub].length cXS, .bool false, .bool (s0 == 3), .bool false]) ?hg ?ho ?hn ?hr ?_; (case ho => rfl); (case hg => rfl); (case hn => rfl); (case hr => first | (go_simp; done) | (go_simp; rfl)); intro wq9 hw; have hk : Kept wq8 wq9 (fun k => k = gBR) := (by rw [hw]; exact puts_kept [.int .i64 0, .int .i64 0, .int .i64 0, .int .i64 0, .int .i64 0, .int .i64 0, .slice AXS [msgOf 3 0 0 0 why sub].length cXS, .bool false, .bool (s0 == 3), .bool false] 0 _ _ (Kept.refl _ _)); have hp_ := (show Aside0 (wq9.heap[gBR]? = some (.cells #[.int .i64 0, .int .i64 0, .int .i64 0, .int .i64 0, .int .i64 0, .int .i64 0, .slice AXS [msgOf 3 0 0 0 why sub].length cXS, .bool false, .bool (s0 == 3), .bool false] 45 (0, 0))) from by rw [hw]; exact puts_blk BR [.int .i64 0, .int .i64 0, .int .i64 0, .int .i64 0, .int .i64 0, .int .i64 0, .slice AXS [msgOf 3 0 0 0 why sub].length cXS, .bool false, .bool (s0 == 3), .bool false] rfl); replace HB : Aside0 (Below w.heap.size w wq9) := ⟨by rw [hw]; exact puts_below HEBR.out [.int .i64 0, .int .i64 0, .int .i64 0, .int .i64 0, .int .i64 0, .int .i64 0, .slice AXS [msgOf 3 0 0 0 why sub].length cXS, .bool false, .bool (s0 == 3), .bool false] 0 _ HB.out⟩; have HS9 := Aside0.mk hk.1; replace BC := blk_kk BC hk (fun h3 => by have o0_ := HS1.out; have o1_ := HGBC.out; have o2_ := HLBC.out; have o3_ := HS2.out; have o4_ := HGBS.out; have o5_ := HLBS.out; have o6_ := HS3.out; have o7_ := HGBR.out; have o8_ := HLBR.out; have o9_ := HS4.out; have o10_ := HS5.out; have o11_ := HS6.out; have o12_ := HGB6.out; have o13_ := HLB6.out; have o14_ := HS7.out; have o15_ := HS8.out; have h3_ := h3; omega); replace BS := blk_kk BS hk (fun h3 => by have o0_ := HS1.out; have o1_ := HGBC.out; have o2_ := HLBC.out; have o3_ := HS2.out; have o4_ := HGBS.out; have o5_ := HLBS.out; have o6_ := HS3.out; have o7_ := HGBR.out; have o8_ := HLBR.out; have o9_ := HS4.out; have o10_ := HS5.out; have o11_ := HS6.out; have o12_ := HGB6.out; have o13_ := HLB6.out; have o14_ := HS7.out; have o15_ := HS8.out; have h3_ := h3; omega); replace B6 := blk_kk B6 hk (fun h3 => by have o0_ := HS1.out; have o1_ := HGBC.out; have o2_ := HLBC.out; have o3_ := HS2.out; have o4_ := HGBS.out; have o5_ := HLBS.out; have o6_ := HS3.out; have o7_ := HGBR.out; have o8_ := HLBR.out; have o9_ := HS4.out; have o10_ := HS5.out; have o11_ := HS6.out; have o12_ := HGB6.out; have o13_ := HLB6.out; have o14_ := HS7.out; have o15_ := HS8.out; have h3_ := h3; omega); replace XS := Skk XS hk (fun k h1 h2 h3 => by have o0_ := HS1.out; have o1_ := HGBC.out; have o2_ := HLBC.out; have o3_ := HS2.out; have o4_ := HGBS.out; have o5_ := HLBS.out; have o6_ := HS3.out; have o7_ := HGBR.out; have o8_ := HLBR.out; have o9_ := HS4.out; have o10_ := HS5.out; have o11_ := HS6.out; have o12_ := HGB6.out; have o13_ := HLB6.out; have o14_ := HS7.out; have o15_ := HS8.out; have h3_ := h3; omega); replace BR := hp_; clear hw hk; obtain ⟨hczBR_0, hczBR_1, hczBR_2, hczBR_3, hczBR_4, hczBR_5, hczBR_6, hczBR_7, hczBR_8, hczBR_9, hfzBR_0, hfzBR_1, hfzBR_2, hfzBR_3, hfzBR_4, hfzBR_5, hfzBR_6, hfzBR_7, hfzBR_8, hfzBR_9⟩ := cf10_ BR))
  refine bodyPost_ret (results_cell_row rfl _ _ gBR 45 #[.int .i64 0, .int .i64 0, .int .i64 0, .int .i64 0, .int .i64 0, .int .i64 0, .slice AXS [msgOf 3 0 0 0 why sub].length cXS, .bool false, .bool (s0 == 3), .bool false] (0, 0) _ rfl BR.out Try.underlying45 rfl (by kernel_rfl)) rfl ?_
  exact ⟨_, rfl, (Kd.S_lower (Kd.S_mono XS.out (fun _ _ => trivial)) (Nat.le_refl _)), HB.out⟩
set_option maxHeartbeats 16000000 in
set_option maxRecDepth 100000 in
theorem impl_StopSession.of (a i h s0 s1 s2 s3 s4 r1 r2 r3 r4 r5 r6 : Int) (l : List S136) (u d up : Bool) (hif : ∀ w, Calls Try.prog 42 #[.agg #[.int .i64 a, .int .i64 i, .int .i64 h], .agg #[.int .i64 s0, .int .i64 s1, .int .i64 s2, .int .i64 s3, .int .i64 s4], .int .i64 6, .int .i64 2] w fun e w' => ∃ v : Value, e = .returned (.agg #[.int .i64 r1, .int .i64 r2, .int .i64 r3, .int .i64 r4, .int .i64 r5, .int .i64 r6, v, .bool u, .bool d, .bool up]) ∧ Kd.S k136 136 w' w.heap.size (fun _ => True) v l ∧ Below w.heap.size w w') (w : World) :
    Calls Try.prog 44 #[.agg #[.int .i64 a, .int .i64 i, .int .i64 h], .agg #[.int .i64 s0, .int .i64 s1, .int .i64 s2, .int .i64 s3, .int .i64 s4]] w fun e w' => ∃ v : Value, e = .returned (.agg #[.int .i64 r1, .int .i64 r2, .int .i64 r3, .int .i64 r4, .int .i64 r5, .int .i64 r6, v, .bool u, .bool d, .bool up]) ∧ Kd.S k136 136 w' w.heap.size (fun _ => True) v l ∧ Below w.heap.size w w' := by
  have HIF := Aside0.mk hif
  have HB := Aside0.mk (Below.refl w.heap.size w)
  clear hif
  go_enter Try.func44, Try.ntmps44
  go_wp2_with (first
    | ((with_reducible refine gate_dst (N := 2) rfl ?_); refine box_e_ 2 #[.int .i64 a, .int .i64 i, .int .i64 h] 47 ?_; intro gBC hg wq1 hbox hb; have HGBC := Aside0.mk hg; have HLBC := Aside0.mk (blk_lt hbox); have HEBC : Aside0 (w.heap.size ≤ gBC) := ⟨by rw [hg]; exact HB.out.size⟩; have HS1 := Aside0.mk (Below.size hb); replace HB := below_kb HB hb; have BC := Aside0.mk hbox; clear hbox hg hb)
    | ((with_reducible refine gate_dst (N := 3) rfl ?_); refine box_e_ 3 #[.int .i64 s0, .int .i64 s1, .int .i64 s2, .int .i64 s3, .int .i64 s4] 42 ?_; intro gBS hg wq2 hbox hb; have HGBS := Aside0.mk hg; have HLBS := Aside0.mk (blk_lt hbox); have HEBS : Aside0 (w.heap.size ≤ gBS) := ⟨by rw [hg]; exact HB.out.size⟩; have HS2 := Aside0.mk (Below.size hb); replace BC := blk_kb BC hb; replace HB := below_kb HB hb; have BS := Aside0.mk hbox; clear hbox hg hb)
    | ((with_reducible refine gate_dst (N := 4) rfl ?_); refine box_e_ 4 #[.int .i64 0, .int .i64 0, .int .i64 0, .int .i64 0, .int .i64 0, .int .i64 0, .slice none 0 0, .bool false, .bool false, .bool false] 45 ?_; intro gBR hg wq3 hbox hb; have HGBR := Aside0.mk hg; have HLBR := Aside0.mk (blk_lt hbox); have HEBR : Aside0 (w.heap.size ≤ gBR) := ⟨by rw [hg]; exact HB.out.size⟩; have HS3 := Aside0.mk (Below.size hb); replace BC := blk_kb BC hb; replace BS := blk_kb BS hb; replace HB := below_kb HB hb; have BR := Aside0.mk hbox; clear hbox hg hb; obtain ⟨hczBC_0, hczBC_1, hczBC_2, hfzBC_0, hfzBC_1, hfzBC_2⟩ := cf3_ BC; obtain ⟨hczBS_0, hczBS_1, hczBS_2, hczBS_3, hczBS_4, hfzBS_0, hfzBS_1, hfzBS_2, hfzBS_3, hfzBS_4⟩ := cf5_ BS)
    | ((with_reducible refine gate_dst (N := 7) rfl ?_); refine goe_ (some 7) Try.func42 #[.agg #[.int .i64 a, .int .i64 i, .int .i64 h], .agg #[.int .i64 s0, .int .i64 s1, .int .i64 s2, .int .i64 s3, .int .i64 s4], .int .i64 6, .int .i64 2] ?_; (with_reducible refine (HIF.out _).mono ?_); rintro e wq4 ⟨v, rfl, ho, hb⟩; refine ⟨_, rfl, ?_⟩; have XS := Siv ho HB.out.size; have HS4 := Aside0.mk (Below.size hb); replace BC := blk_kb BC hb; replace BS := blk_kb BS hb; replace BR := blk_kb BR hb; replace HB := below_kb HB hb; obtain ⟨AXS, cXS, rfl⟩ := Kd.S_slice XS.out; obtain ⟨hczBR_0, hczBR_1, hczBR_2, hczBR_3, hczBR_4, hczBR_5, hczBR_6, hczBR_7, hczBR_8, hczBR_9, hfzBR_0, hfzBR_1, hfzBR_2, hfzBR_3, hfzBR_4, hfzBR_5, hfzBR_6, hfzBR_7, hfzBR_8, hfzBR_9⟩ := cf10_ BR; (try clear hb); (try clear ho); (try clear hd))
    | ((with_reducible refine gate_store (t := 45) (p := 4) rfl ?_); refine store_event (t := 45) (p := 4) (v := ?vo5) (w1 := wq4.setCells gBR 0 [.int .i64 r1, .int .i64 r2, .int .i64 r3, .int .i64 r4, .int .i64 r5, .int .i64 r6, .slice AXS l.length cXS, .bool u, .bool d, .bool up]) ?hg ?ho ?hn ?hr ?_; (case ho => rfl); (case hg => rfl); (case hn => rfl); (case hr => first | (go_simp; done) | (go_simp; rfl)); intro wq5 hw; have hk : Kept wq4 wq5 (fun k => k = gBR) := (by rw [hw]; exact puts_kept [.int .i64 r1, .int .i64 r2, .int .i64 r3, .int .i64 r4, .int .i64 r5, .int .i64 r6, .slice AXS l.length cXS, .bool u, .bool d, .bool up] 0 _ _ (Kept.refl _ _)); have hp_ := (show Aside0 (wq5.heap[gBR]? = some (.cells #[.int .i64 r1, .int .i64 r2, .int .i64 r3, .int .i64 r4, .int .i64 r5, .int .i64 r6, .slice AXS l.length cXS, .bool u, .bool d, .bool up] 45 (0, 0))) from by rw [hw]; exact puts_blk BR [.int .i64 r1, .int .i64 r2, .int .i64 r3, .int .i64 r4, .int .i64 r5, .int .i64 r6, .slice AXS l.length cXS, .bool u, .bool d, .bool up] rfl); replace HB : Aside0 (Below w.heap.size w wq5) := ⟨by rw [hw]; exact puts_below HEBR.out [.int .i64 r1, .int .i64 r2, .int .i64 r3, .int .i64 r4, .int .i64 r5, .int .i64 r6, .slice AXS l.length cXS, .bool u, .bool d, .bool up] 0 _ HB.out⟩; have HS5 := Aside0.mk hk.1; replace BC := blk_kk BC hk (fun h3 => by have o0_ := HS1.out; have o1_ := HGBC.out; have o2_ := HLBC.out; have o3_ := HS2.out; have o4_ := HGBS.out; have o5_ := HLBS.out; have o6_ := HS3.out; have o7_ := HGBR.out; have o8_ := HLBR.out; have o9_ := HS4.out; have h3_ := h3; omega); replace BS := blk_kk BS hk (fun h3 => by have o0_ := HS1.out; have o1_ := HGBC.out; have o2_ := HLBC.out; have o3_ := HS2.out; have o4_ := HGBS.out; have o5_ := HLBS.out; have o6_ := HS3.out; have o7_ := HGBR.out; have o8_ := HLBR.out; have o9_ := HS4.out; have h3_ := h3; omega); replace XS := Skk XS hk (fun k h1 h2 h3 => by have o0_ := HS1.out; have o1_ := HGBC.out; have o2_ := HLBC.out; have o3_ := HS2.out; have o4_ := HGBS.out; have o5_ := HLBS.out; have o6_ := HS3.out; have o7_ := HGBR.out; have o8_ := HLBR.out; have o9_ := HS4.out; have h3_ := h3; omega); replace BR := hp_; clear hw hk; obtain ⟨hczBR_0, hczBR_1, hczBR_2, hczBR_3, hczBR_4, hczBR_5, hczBR_6, hczBR_7, hczBR_8, hczBR_9, hfzBR_0, hfzBR_1, hfzBR_2, hfzBR_3, hfzBR_4, hfzBR_5, hfzBR_6, hfzBR_7, hfzBR_8, hfzBR_9⟩ := cf10_ BR))
  refine bodyPost_ret (results_cell_row rfl _ _ gBR 45 #[.int .i64 r1, .int .i64 r2, .int .i64 r3, .int .i64 r4, .int .i64 r5, .int .i64 r6, .slice AXS l.length cXS, .bool u, .bool d, .bool up] (0, 0) _ rfl BR.out Try.underlying45 rfl (by kernel_rfl)) rfl ?_
  exact ⟨_, rfl, (Kd.S_lower (Kd.S_mono XS.out (fun _ _ => trivial)) (Nat.le_refl _)), HB.out⟩
set_option maxHeartbeats 8000000 in
set_option maxRecDepth 100000 in
theorem laws_markSessionResult.calls (k : Nat) (P0_ : Nat → Prop) (Au : Option Addr) (cu n : Nat) (l0 : List S136) (r1 r2 r3 r4 r5 r6 : Int) (u d up : Bool) (a1 q1 : Int) (q2 : List S136) (w0 w : World) (hB : Below w0.heap.size w0 w) (hn : l0.length = n ∧ ∀ x ∈ l0, bareMsg x) (ho0 : Kd.S k136 136 w w0.heap.size P0_ (.slice Au n cu) l0) (h : laws_markMessageS.f k l0 a1 = some (q1, q2)) :
    Calls Try.prog 33 #[.agg #[.int .i64 r1, .int .i64 r2, .int .i64 r3, .int .i64 r4, .int .i64 r5, .int .i64 r6, .slice Au n cu, .bool u, .bool d, .bool up], .int .i64 a1] w fun e w' => e = .returned (.int .i64 q1) ∧ (q2.length = n ∧ Kd.S k136 136 w' w0.heap.size P0_ (.slice Au n cu) q2) ∧ Below w0.heap.size w0 w' ∧ Kept w w' P0_ := by
  have HO := Aside0.mk ho0
  have HN := Aside0.mk hn
  have HM := Aside0.mk h
  have HB := Aside0.mk hB
  clear hB ho0 hn h
  go_enter Try.func33, Try.ntmps33
  go_wp2_with (first
    | ((with_reducible refine gate_dst (N := 2) rfl ?_); refine box_e_ 2 #[.int .i64 r1, .int .i64 r2, .int .i64 r3, .int .i64 r4, .int .i64 r5, .int .i64 r6, .slice Au n cu, .bool u, .bool d, .bool up] 45 ?_; intro g hg w1 hbox hb; have BK := Aside0.mk hbox; replace HO := Aside0.mk (Kd.S_below HO.out hb); replace HB := Aside0.mk (HB.out.trans (hb.mono HB.out.size)); have HK := Aside0.mk (Kept.of_below hb P0_); clear hb hbox hg; obtain ⟨hcz_0, hcz_1, hcz_2, hcz_3, hcz_4, hcz_5, hcz_6, hcz_7, hcz_8, hcz_9, hfz_0, hfz_1, hfz_2, hfz_3, hfz_4, hfz_5, hfz_6, hfz_7, hfz_8, hfz_9⟩ := cf10_ BK)
    | ((with_reducible refine gate_callee (f := 92) rfl ?_); refine goe_ (some 8) Try.func92 #[.slice Au n cu, .int .i64 a1] ?_; (with_reducible refine (laws_markMessageS.calls k P0_ Au cu n l0 a1 q1 q2 w0 _ ?side1 HN.out ?side2 HM.out).mono ?_); (case side1 => exact HB.out); (case side2 => exact HO.out); rintro e w2 ⟨rfl, hy, hb, hkp⟩; refine ⟨_, rfl, ?_⟩; have HY := Aside0.mk hy; replace HB := Aside0.mk hb; replace HK := Aside0.mk (Kept.then_ (S := P0_) HK.out hkp (fun k_ h_ => .inl h_)); clear hy hb hkp))
  go_ret
  exact ⟨er_, HY.out, HB.out, HK.out⟩
theorem laws_heldSessionResult.callsn (k : Nat) (r1 r2 r3 r4 r5 r6 : Int) (u d up : Bool) (A0 : Option Addr) (c0 n : Nat) (l0 : List S136) (a1 r : Int) (w : World) (hn : l0.length = n) (hr0 : Kd.C k136 w A0 n l0) (hc0 : n ≤ c0) (h : laws_heldSessionResult.f k r1 r2 r3 r4 r5 r6 l0 u d up a1 = some r) :
    Calls Try.prog 34 #[.agg #[.int .i64 r1, .int .i64 r2, .int .i64 r3, .int .i64 r4, .int .i64 r5, .int .i64 r6, .slice A0 n c0, .bool u, .bool d, .bool up], .int .i64 a1] w fun e w' => e = .returned (.int .i64 r) ∧ Below w.heap.size w w' := by
  subst hn
  exact laws_heldSessionResult.calls k r1 r2 r3 r4 r5 r6 A0 c0 l0 u d up a1 r w hr0 hc0 h
theorem Skb_iv {α : Type} {d : Kd α} {e a b base : Nat} {W W1 : World} {v : Value} {xs : List α} (h : Aside0 (Kd.S d e W base (Iv a b) v xs)) (hb : Below W.heap.size W W1) : Aside0 (Kd.S d e W1 base (Iv a b) v xs) := ⟨Kd.S_below h.out hb⟩
def Ivn (a b g : Nat) : Nat → Prop := fun k => a ≤ k ∧ k < b ∧ k ≠ g
section
variable {α : Type} {d : Kd α} {e a b g : Nat} {w W W1 : World} {v : Value} {xs : List α} {S : Nat → Prop}
theorem Siw {base : Nat} (h : Kd.S d e W1 W.heap.size (fun _ => True) v xs) (hle : base ≤ W.heap.size) : Aside0 (Kd.S d e W1 base (Iv W.heap.size W1.heap.size) v xs) := ⟨Kd.S_lower (Kd.S_mono (Kd.S_bound h) (fun k hk => ⟨hk.2.1, hk.2.2.1⟩)) hle⟩
theorem Nin (h : Kd.S d e W1 W.heap.size (fun k => k ≠ g) v xs) (hle : w.heap.size ≤ W.heap.size) : Aside0 (Kd.S d e W1 w.heap.size (Ivn W.heap.size W1.heap.size g) v xs) := ⟨Kd.S_lower (Kd.S_mono (Kd.S_bound h) (fun k hk => ⟨hk.2.1, hk.2.2.1, hk.1⟩)) hle⟩
theorem Nkb (h : Aside0 (Kd.S d e W w.heap.size (Ivn a b g) v xs)) (hb : Below W.heap.size W W1) : Aside0 (Kd.S d e W1 w.heap.size (Ivn a b g) v xs) := ⟨Kd.S_below h.out hb⟩
theorem Nkk (h : Aside0 (Kd.S d e W w.heap.size (Ivn a b g) v xs)) (hk : Kept W W1 S) (hd : ∀ k, a ≤ k → k < b → k ≠ g → ¬ S k) : Aside0 (Kd.S d e W1 w.heap.size (Ivn a b g) v xs) := ⟨Kd.S_kept h.out hk (fun k h => hd k h.1 h.2.1 h.2.2)⟩
end
theorem blk_kx {W W1 : World} {base g : Nat} (h : Aside0 (Below base W W1)) : Below base W W1 := h.out
set_option maxHeartbeats 16000000 in
set_option maxRecDepth 100000 in
theorem laws_FnExactStopSession.walk (k : Nat) (a i h s0 s1 s2 s3 s4 : Int) (w : World) (r1 r2 r3 r4 r5 r6 : Int) (u d up : Bool) (l l4 : List S136) (m1 : Int)
    (hsp : ∀ w, Calls Try.prog 43 #[.agg #[.int .i64 a, .int .i64 i, .int .i64 h], .agg #[.int .i64 s0, .int .i64 s1, .int .i64 s2, .int .i64 s3, .int .i64 s4]] w fun e w' => ∃ v : Value, e = .returned (.agg #[.int .i64 r1, .int .i64 r2, .int .i64 r3, .int .i64 r4, .int .i64 r5, .int .i64 r6, v, .bool u, .bool d, .bool up]) ∧ Kd.S k136 136 w' w.heap.size (fun _ => True) v l ∧ Below w.heap.size w w') (him : ∀ w, Calls Try.prog 44 #[.agg #[.int .i64 a, .int .i64 i, .int .i64 h], .agg #[.int .i64 s0, .int .i64 s1, .int .i64 s2, .int .i64 s3, .int .i64 s4]] w fun e w' => ∃ v : Value, e = .returned (.agg #[.int .i64 r1, .int .i64 r2, .int .i64 r3, .int .i64 r4, .int .i64 r5, .int .i64 r6, v, .bool u, .bool d, .bool up]) ∧ Kd.S k136 136 w' w.heap.size (fun _ => True) v l ∧ Below w.heap.size w w')
    (htc : laws_toConfig.f a i h = some (a, i, h)) (hts : laws_toSession.f s0 s1 s2 s3 s4 = some (s0, s1, s2, s3, s4))
    (heq : laws_eqSessionResult.f k r1 r2 r3 r4 r5 r6 l u d up r1 r2 r3 r4 r5 r6 l u d up = some true) (hba : ∀ x ∈ l, bareMsg x) (hmf : laws_markMessageS.f k l 1 = some (m1, l4)) (hln : l4.length = l.length) (hhe : laws_heldSessionResult.f k r1 r2 r3 r4 r5 r6 l4 u d up 1 = some m1) (hm1 : ¬ m1 < 0) :
    Calls Try.prog 9 #[.agg #[.int .i64 a, .int .i64 i, .int .i64 h], .agg #[.int .i64 s0, .int .i64 s1, .int .i64 s2, .int .i64 s3, .int .i64 s4]] w fun e w' => e = .returned (.bool true) ∧ Below w.heap.size w w' := by
  have HSP := Aside0.mk hsp
  have HIM := Aside0.mk him
  have HTC := Aside0.mk htc
  have HTS := Aside0.mk hts
  have HEQ := Aside0.mk heq
  have HBA := Aside0.mk hba
  have HMF := Aside0.mk hmf
  have HLN := Aside0.mk hln
  have HHE := Aside0.mk hhe
  have HB := Aside0.mk (Below.refl w.heap.size w)
  have t3 : decide (m1 < 0) = false := decide_eq_false hm1
  clear hsp him htc hts heq hba hmf hln hhe hm1
  go_enter Try.func9, Try.ntmps9
  go_wp2_with (first
    | ((with_reducible refine gate_dst (N := 2) rfl ?_); refine box_e_ 2 #[.int .i64 a, .int .i64 i, .int .i64 h] 39 ?_; intro gBC hg wq1 hbox hb; have HGBC := Aside0.mk hg; have HLBC := Aside0.mk (blk_lt hbox); have HEBC : Aside0 (w.heap.size ≤ gBC) := ⟨by rw [hg]; exact HB.out.size⟩; have HS1 := Aside0.mk (Below.size hb); replace HB := below_kb HB hb; have BC := Aside0.mk hbox; clear hbox hg hb)
    | ((with_reducible refine gate_dst (N := 3) rfl ?_); refine box_e_ 3 #[.int .i64 s0, .int .i64 s1, .int .i64 s2, .int .i64 s3, .int .i64 s4] 41 ?_; intro gBS hg wq2 hbox hb; have HGBS := Aside0.mk hg; have HLBS := Aside0.mk (blk_lt hbox); have HEBS : Aside0 (w.heap.size ≤ gBS) := ⟨by rw [hg]; exact HB.out.size⟩; have HS2 := Aside0.mk (Below.size hb); replace BC := blk_kb BC hb; replace HB := below_kb HB hb; have BS := Aside0.mk hbox; clear hbox hg hb; obtain ⟨hczBC_0, hczBC_1, hczBC_2, hfzBC_0, hfzBC_1, hfzBC_2⟩ := cf3_ BC; obtain ⟨hczBS_0, hczBS_1, hczBS_2, hczBS_3, hczBS_4, hfzBS_0, hfzBS_1, hfzBS_2, hfzBS_3, hfzBS_4⟩ := cf5_ BS))
  have hb : Below wq2.heap.size wq2 wq2.drew := below_drew1 (Below.refl _ _)
  have HS4 := Aside0.mk (Below.size hb)
  replace BC := blk_kb BC hb
  replace BS := blk_kb BS hb
  replace HB := below_kb HB hb
  clear hb
  refine start_ (n := 7) (S := fun w' => w'.cell? ⟨gBC, 0, none⟩ = some (.int .i64 a) ∧ w'.cell? ⟨gBC, 1, none⟩ = some (.int .i64 i) ∧ w'.cell? ⟨gBC, 2, none⟩ = some (.int .i64 h) ∧ w'.cell? ⟨gBS, 0, none⟩ = some (.int .i64 s0) ∧ w'.cell? ⟨gBS, 1, none⟩ = some (.int .i64 s1) ∧ w'.cell? ⟨gBS, 2, none⟩ = some (.int .i64 s2) ∧ w'.cell? ⟨gBS, 3, none⟩ = some (.int .i64 s3) ∧ w'.cell? ⟨gBS, 4, none⟩ = some (.int .i64 s4)) (ds := [6]) #[false, false, false, false, false, false, false] (by kernel_rfl) rfl rfl ⟨(blk_cell BC.out 0).trans rfl, (blk_cell BC.out 1).trans rfl, (blk_cell BC.out 2).trans rfl, (blk_cell BS.out 0).trans rfl, (blk_cell BS.out 1).trans rfl, (blk_cell BS.out 2).trans rfl, (blk_cell BS.out 3).trans rfl, (blk_cell BS.out 4).trans rfl⟩ (fun hHeld => ?_)
  generalize wq2.drew = wq4 at BC BS HB HS4 hHeld ⊢
  refine take_ (i := 0) (N := some 10) (v := ?_) (a' := ?_) #[true, false, false, false, false, false, false] rfl rfl (by kernel_rfl) (fun _ _ _ h => h) (Or.inl ⟨by rfl, ?_⟩) hHeld ?_ ?_
  rotate_left
  · rintro w' ⟨t0, t1, t2, t3, t4, t5, t6, t7⟩
    go_simp
    with_reducible rfl
  rotate_left
  · simp only [Act.put, List.setIfInBounds_toArray, List.set_cons_zero, List.set_cons_succ, i64_w, i32_w]
    rfl
  refine take_ (i := 2) (N := some 12) (v := ?_) (a' := ?_) #[true, false, true, false, false, false, false] rfl rfl (by kernel_rfl) (fun _ _ _ h => h) (Or.inl ⟨by rfl, ?_⟩) hHeld ?_ ?_
  rotate_left
  · rintro w' ⟨t0, t1, t2, t3, t4, t5, t6, t7⟩
    go_simp
    with_reducible rfl
  rotate_left
  · simp only [Act.put, List.setIfInBounds_toArray, List.set_cons_zero, List.set_cons_succ, i64_w, i32_w]
    rfl
  refine join_ (σ := Value × Nat) 1 #[true, true, true, true, true, true, false] (fun s_ => [(11, .agg #[.int .i64 a, .int .i64 i, .int .i64 h]), (13, .agg #[.int .i64 s0, .int .i64 s1, .int .i64 s2, .int .i64 s3, .int .i64 s4]), (14, .agg #[.int .i64 r1, .int .i64 r2, .int .i64 r3, .int .i64 r4, .int .i64 r5, .int .i64 r6, s_.1, .bool u, .bool d, .bool up]), (5, .pointer (some ⟨s_.2, 0, none⟩))]) (fun s_ w' => (Below wq4.heap.size wq4 w') ∧ (wq4.heap.size ≤ s_.2) ∧ (w'.heap[s_.2]? = some (.cells #[.int .i64 0, .int .i64 0, .int .i64 0, .int .i64 0, .int .i64 0, .int .i64 0, .slice none 0 0, .bool false, .bool false, .bool false] 45 (0, 0))) ∧ (Kd.S k136 136 w' wq4.heap.size (fun k_ => k_ ≠ s_.2) s_.1 l)) ?_ ?_
  rotate_left
  · intro hCont
    have HX := Aside0.mk (Below.refl wq4.heap.size wq4)
    have YBC := BC
    have YBS := BS
    clear HB BC BS
    refine two_ (i := 1) (j := 5) (Ni := some 11) (Nj := some 5) #[true, true, true, false, false, false, false] #[true, false, true, false, false, true, false] rfl rfl rfl rfl (by kernel_rfl) (by decide) (by decide) (fun K hK => ?_) (fun K hK => ?_)
    · skip
      refine goes_ Try.func29 (by kernel_rfl) rfl #[.agg #[.int .i64 a, .int .i64 i, .int .i64 h]] (by rfl) rfl rfl (by (try simp only [List.map_toArray, List.map_cons, List.map_nil]); first | done | rfl) ?_
      with_reducible refine (laws_toConfig.calls a i h a i h _ HTC.out).mono ?_
      rintro e wy1 ⟨rfl, hb⟩
      refine ⟨_, rfl, ?_⟩
      have hz_ := Aside0.mk (Below.size hb)
      replace HX : Aside0 (Below wq4.heap.size wq4 wy1) := ⟨below_step HX.out hb⟩
      replace YBC := blk_kb YBC hb
      replace YBS := blk_kb YBS hb
      have HY1 := hz_
      clear hz_ hb
      refine hK.out _ _ ⟨(blk_cell YBC.out 0).trans rfl, (blk_cell YBC.out 1).trans rfl, (blk_cell YBC.out 2).trans rfl, (blk_cell YBS.out 0).trans rfl, (blk_cell YBS.out 1).trans rfl, (blk_cell YBS.out 2).trans rfl, (blk_cell YBS.out 3).trans rfl, (blk_cell YBS.out 4).trans rfl⟩ (fun hHeld => ?_)
      clear hK K
      refine norm_ (a' := ?_) ?_ ?_
      rotate_left
      · show Act.put _ (some 11) _ = _
        simp only [Act.put, List.setIfInBounds_toArray, List.set_cons_zero, List.set_cons_succ, i64_w, i32_w]
        rfl
      refine two_ (i := 3) (j := 5) (Ni := some 13) (Nj := some 5) #[true, true, true, true, false, false, false] #[true, true, true, false, false, true, false] rfl rfl rfl rfl (by kernel_rfl) (by decide) (by decide) (fun K hK => ?_) (fun K hK => ?_)
      · skip
        refine goes_ Try.func30 (by kernel_rfl) rfl #[.agg #[.int .i64 s0, .int .i64 s1, .int .i64 s2, .int .i64 s3, .int .i64 s4]] (by rfl) rfl rfl (by (try simp only [List.map_toArray, List.map_cons, List.map_nil]); first | done | rfl) ?_
        with_reducible refine (laws_toSession.calls s0 s1 s2 s3 s4 s0 s1 s2 s3 s4 _ HTS.out).mono ?_
        rintro e wy2 ⟨rfl, hb⟩
        refine ⟨_, rfl, ?_⟩
        have hz_ := Aside0.mk (Below.size hb)
        replace HX : Aside0 (Below wq4.heap.size wq4 wy2) := ⟨below_step HX.out hb⟩
        replace YBC := blk_kb YBC hb
        replace YBS := blk_kb YBS hb
        have HY2 := hz_
        clear hz_ hb
        refine hK.out _ _ ⟨(blk_cell YBC.out 0).trans rfl, (blk_cell YBC.out 1).trans rfl, (blk_cell YBC.out 2).trans rfl, (blk_cell YBS.out 0).trans rfl, (blk_cell YBS.out 1).trans rfl, (blk_cell YBS.out 2).trans rfl, (blk_cell YBS.out 3).trans rfl, (blk_cell YBS.out 4).trans rfl⟩ (fun hHeld => ?_)
        clear hK K
        refine norm_ (a' := ?_) ?_ ?_
        rotate_left
        · show Act.put _ (some 13) _ = _
          simp only [Act.put, List.setIfInBounds_toArray, List.set_cons_zero, List.set_cons_succ, i64_w, i32_w]
          rfl
        refine two_ (i := 4) (j := 5) (Ni := some 14) (Nj := some 5) #[true, true, true, true, true, false, false] #[true, true, true, true, false, true, false] rfl rfl rfl rfl (by kernel_rfl) (by decide) (by decide) (fun K hK => ?_) (fun K hK => ?_)
        · skip
          refine goes_ Try.func43 (by kernel_rfl) rfl #[.agg #[.int .i64 a, .int .i64 i, .int .i64 h], .agg #[.int .i64 s0, .int .i64 s1, .int .i64 s2, .int .i64 s3, .int .i64 s4]] (by rfl) rfl rfl (by (try simp only [List.map_toArray, List.map_cons, List.map_nil]); first | done | rfl) ?_
          with_reducible refine (HSP.out _).mono ?_
          rintro e wy3 ⟨v, rfl, ho, hb⟩
          refine ⟨_, rfl, ?_⟩
          have YR := Siw (base := wq4.heap.size) ho HX.out.size
          have hz_ := Aside0.mk (Below.size hb)
          replace HX : Aside0 (Below wq4.heap.size wq4 wy3) := ⟨below_step HX.out hb⟩
          replace YBC := blk_kb YBC hb
          replace YBS := blk_kb YBS hb
          have HY3 := hz_
          clear hz_ hb ho
          refine hK.out _ _ ⟨(blk_cell YBC.out 0).trans rfl, (blk_cell YBC.out 1).trans rfl, (blk_cell YBC.out 2).trans rfl, (blk_cell YBS.out 0).trans rfl, (blk_cell YBS.out 1).trans rfl, (blk_cell YBS.out 2).trans rfl, (blk_cell YBS.out 3).trans rfl, (blk_cell YBS.out 4).trans rfl⟩ (fun hHeld => ?_)
          clear hK K
          refine norm_ (a' := ?_) ?_ ?_
          rotate_left
          · show Act.put _ (some 14) _ = _
            simp only [Act.put, List.setIfInBounds_toArray, List.set_cons_zero, List.set_cons_succ, i64_w, i32_w]
            rfl
          refine one_ (i := 5) (N := some 5) #[true, true, true, true, true, true, false] rfl rfl (by kernel_rfl) (by decide) (fun K hK => ?_)
          refine box_step ?hg (N := 5) ?hd (cs := #[.int .i64 0, .int .i64 0, .int .i64 0, .int .i64 0, .int .i64 0, .int .i64 0, .slice none 0 0, .bool false, .bool false, .bool false]) (t := 45) ?hr ?_
          (case hd => rfl)
          (case hg => rfl)
          (case hr => first | (go_simp; done) | (go_simp; rfl))
          intro gy hg wy4 hbox hb
          have YG := Aside0.mk hg
          have YL := Aside0.mk (blk_lt hbox)
          have YE : Aside0 (wq4.heap.size ≤ gy) := ⟨by rw [hg]; exact HX.out.size⟩
          have hz_ := Aside0.mk (Below.size hb)
          replace HX : Aside0 (Below wq4.heap.size wq4 wy4) := ⟨below_step HX.out hb⟩
          replace YBC := blk_kb YBC hb
          replace YBS := blk_kb YBS hb
          replace YR := Skb_iv YR hb
          have YZ := Aside0.mk hbox
          have HY4 := hz_
          clear hz_ hb hbox hg
          refine hK.out _ _ ⟨(blk_cell YBC.out 0).trans rfl, (blk_cell YBC.out 1).trans rfl, (blk_cell YBC.out 2).trans rfl, (blk_cell YBS.out 0).trans rfl, (blk_cell YBS.out 1).trans rfl, (blk_cell YBS.out 2).trans rfl, (blk_cell YBS.out 3).trans rfl, (blk_cell YBS.out 4).trans rfl⟩ (fun hHeld => ?_)
          clear hK K
          refine norm_ (a' := ?_) ?_ ?_
          rotate_left
          · show Act.put _ (some 5) _ = _
            simp only [Act.put, List.setIfInBounds_toArray, List.set_cons_zero, List.set_cons_succ, i64_w, i32_w]
            rfl
          exact norm_ (by simp only [putAll, Act.put, List.setIfInBounds_toArray, List.set_cons_zero, List.set_cons_succ]) (hCont (_, gy) _ ⟨HX.out, YE.out, YZ.out, Kd.S_mono YR.out (fun k_ hk_ => by have hk2_ : _ ∧ _ := hk_; have hg_ := YG.out; have o0_ := HY1.out; have o1_ := HY2.out; have o2_ := HY3.out; have o3_ := HY4.out; omega)⟩)
        · skip
          refine box_step ?hg (N := 5) ?hd (cs := #[.int .i64 0, .int .i64 0, .int .i64 0, .int .i64 0, .int .i64 0, .int .i64 0, .slice none 0 0, .bool false, .bool false, .bool false]) (t := 45) ?hr ?_
          (case hd => rfl)
          (case hg => rfl)
          (case hr => first | (go_simp; done) | (go_simp; rfl))
          intro gy hg wy5 hbox hb
          have YG := Aside0.mk hg
          have YL := Aside0.mk (blk_lt hbox)
          have YE : Aside0 (wq4.heap.size ≤ gy) := ⟨by rw [hg]; exact HX.out.size⟩
          have hz_ := Aside0.mk (Below.size hb)
          replace HX : Aside0 (Below wq4.heap.size wq4 wy5) := ⟨below_step HX.out hb⟩
          replace YBC := blk_kb YBC hb
          replace YBS := blk_kb YBS hb
          have YZ := Aside0.mk hbox
          have HY5 := hz_
          clear hz_ hb hbox hg
          refine hK.out _ _ ⟨(blk_cell YBC.out 0).trans rfl, (blk_cell YBC.out 1).trans rfl, (blk_cell YBC.out 2).trans rfl, (blk_cell YBS.out 0).trans rfl, (blk_cell YBS.out 1).trans rfl, (blk_cell YBS.out 2).trans rfl, (blk_cell YBS.out 3).trans rfl, (blk_cell YBS.out 4).trans rfl⟩ (fun hHeld => ?_)
          clear hK K
          refine norm_ (a' := ?_) ?_ ?_
          rotate_left
          · show Act.put _ (some 5) _ = _
            simp only [Act.put, List.setIfInBounds_toArray, List.set_cons_zero, List.set_cons_succ, i64_w, i32_w]
            rfl
          refine one_ (i := 4) (N := some 14) #[true, true, true, true, true, true, false] rfl rfl (by kernel_rfl) (by decide) (fun K hK => ?_)
          refine goes_ Try.func43 (by kernel_rfl) rfl #[.agg #[.int .i64 a, .int .i64 i, .int .i64 h], .agg #[.int .i64 s0, .int .i64 s1, .int .i64 s2, .int .i64 s3, .int .i64 s4]] (by rfl) rfl rfl (by (try simp only [List.map_toArray, List.map_cons, List.map_nil]); first | done | rfl) ?_
          with_reducible refine (HSP.out _).mono ?_
          rintro e wy6 ⟨v, rfl, ho, hb⟩
          refine ⟨_, rfl, ?_⟩
          have YR := Siw (base := wq4.heap.size) ho HX.out.size
          have hz_ := Aside0.mk (Below.size hb)
          replace HX : Aside0 (Below wq4.heap.size wq4 wy6) := ⟨below_step HX.out hb⟩
          replace YBC := blk_kb YBC hb
          replace YBS := blk_kb YBS hb
          replace YZ := blk_kb YZ hb
          have HY6 := hz_
          clear hz_ hb ho
          refine hK.out _ _ ⟨(blk_cell YBC.out 0).trans rfl, (blk_cell YBC.out 1).trans rfl, (blk_cell YBC.out 2).trans rfl, (blk_cell YBS.out 0).trans rfl, (blk_cell YBS.out 1).trans rfl, (blk_cell YBS.out 2).trans rfl, (blk_cell YBS.out 3).trans rfl, (blk_cell YBS.out 4).trans rfl⟩ (fun hHeld => ?_)
          clear hK K
          refine norm_ (a' := ?_) ?_ ?_
          rotate_left
          · show Act.put _ (some 14) _ = _
            simp only [Act.put, List.setIfInBounds_toArray, List.set_cons_zero, List.set_cons_succ, i64_w, i32_w]
            rfl
          exact norm_ (by simp only [putAll, Act.put, List.setIfInBounds_toArray, List.set_cons_zero, List.set_cons_succ]) (hCont (_, gy) _ ⟨HX.out, YE.out, YZ.out, Kd.S_mono YR.out (fun k_ hk_ => by have hk2_ : _ ∧ _ := hk_; have hl_ := YL.out; have o0_ := HY1.out; have o1_ := HY2.out; have o2_ := HY5.out; have o3_ := HY6.out; omega)⟩)
      · skip
        refine box_step ?hg (N := 5) ?hd (cs := #[.int .i64 0, .int .i64 0, .int .i64 0, .int .i64 0, .int .i64 0, .int .i64 0, .slice none 0 0, .bool false, .bool false, .bool false]) (t := 45) ?hr ?_
        (case hd => rfl)
        (case hg => rfl)
        (case hr => first | (go_simp; done) | (go_simp; rfl))
        intro gy hg wy7 hbox hb
        have YG := Aside0.mk hg
        have YL := Aside0.mk (blk_lt hbox)
        have YE : Aside0 (wq4.heap.size ≤ gy) := ⟨by rw [hg]; exact HX.out.size⟩
        have hz_ := Aside0.mk (Below.size hb)
        replace HX : Aside0 (Below wq4.heap.size wq4 wy7) := ⟨below_step HX.out hb⟩
        replace YBC := blk_kb YBC hb
        replace YBS := blk_kb YBS hb
        have YZ := Aside0.mk hbox
        have HY7 := hz_
        clear hz_ hb hbox hg
        refine hK.out _ _ ⟨(blk_cell YBC.out 0).trans rfl, (blk_cell YBC.out 1).trans rfl, (blk_cell YBC.out 2).trans rfl, (blk_cell YBS.out 0).trans rfl, (blk_cell YBS.out 1).trans rfl, (blk_cell YBS.out 2).trans rfl, (blk_cell YBS.out 3).trans rfl, (blk_cell YBS.out 4).trans rfl⟩ (fun hHeld => ?_)
        clear hK K
        refine norm_ (a' := ?_) ?_ ?_
        rotate_left
        · show Act.put _ (some 5) _ = _
          simp only [Act.put, List.setIfInBounds_toArray, List.set_cons_zero, List.set_cons_succ, i64_w, i32_w]
          rfl
        refine one_ (i := 3) (N := some 13) #[true, true, true, true, false, true, false] rfl rfl (by kernel_rfl) (by decide) (fun K hK => ?_)
        refine goes_ Try.func30 (by kernel_rfl) rfl #[.agg #[.int .i64 s0, .int .i64 s1, .int .i64 s2, .int .i64 s3, .int .i64 s4]] (by rfl) rfl rfl (by (try simp only [List.map_toArray, List.map_cons, List.map_nil]); first | done | rfl) ?_
        with_reducible refine (laws_toSession.calls s0 s1 s2 s3 s4 s0 s1 s2 s3 s4 _ HTS.out).mono ?_
        rintro e wy8 ⟨rfl, hb⟩
        refine ⟨_, rfl, ?_⟩
        have hz_ := Aside0.mk (Below.size hb)
        replace HX : Aside0 (Below wq4.heap.size wq4 wy8) := ⟨below_step HX.out hb⟩
        replace YBC := blk_kb YBC hb
        replace YBS := blk_kb YBS hb
        replace YZ := blk_kb YZ hb
        have HY8 := hz_
        clear hz_ hb
        refine hK.out _ _ ⟨(blk_cell YBC.out 0).trans rfl, (blk_cell YBC.out 1).trans rfl, (blk_cell YBC.out 2).trans rfl, (blk_cell YBS.out 0).trans rfl, (blk_cell YBS.out 1).trans rfl, (blk_cell YBS.out 2).trans rfl, (blk_cell YBS.out 3).trans rfl, (blk_cell YBS.out 4).trans rfl⟩ (fun hHeld => ?_)
        clear hK K
        refine norm_ (a' := ?_) ?_ ?_
        rotate_left
        · show Act.put _ (some 13) _ = _
          simp only [Act.put, List.setIfInBounds_toArray, List.set_cons_zero, List.set_cons_succ, i64_w, i32_w]
          rfl
        refine one_ (i := 4) (N := some 14) #[true, true, true, true, true, true, false] rfl rfl (by kernel_rfl) (by decide) (fun K hK => ?_)
        refine goes_ Try.func43 (by kernel_rfl) rfl #[.agg #[.int .i64 a, .int .i64 i, .int .i64 h], .agg #[.int .i64 s0, .int .i64 s1, .int .i64 s2, .int .i64 s3, .int .i64 s4]] (by rfl) rfl rfl (by (try simp only [List.map_toArray, List.map_cons, List.map_nil]); first | done | rfl) ?_
        with_reducible refine (HSP.out _).mono ?_
        rintro e wy9 ⟨v, rfl, ho, hb⟩
        refine ⟨_, rfl, ?_⟩
        have YR := Siw (base := wq4.heap.size) ho HX.out.size
        have hz_ := Aside0.mk (Below.size hb)
        replace HX : Aside0 (Below wq4.heap.size wq4 wy9) := ⟨below_step HX.out hb⟩
        replace YBC := blk_kb YBC hb
        replace YBS := blk_kb YBS hb
        replace YZ := blk_kb YZ hb
        have HY9 := hz_
        clear hz_ hb ho
        refine hK.out _ _ ⟨(blk_cell YBC.out 0).trans rfl, (blk_cell YBC.out 1).trans rfl, (blk_cell YBC.out 2).trans rfl, (blk_cell YBS.out 0).trans rfl, (blk_cell YBS.out 1).trans rfl, (blk_cell YBS.out 2).trans rfl, (blk_cell YBS.out 3).trans rfl, (blk_cell YBS.out 4).trans rfl⟩ (fun hHeld => ?_)
        clear hK K
        refine norm_ (a' := ?_) ?_ ?_
        rotate_left
        · show Act.put _ (some 14) _ = _
          simp only [Act.put, List.setIfInBounds_toArray, List.set_cons_zero, List.set_cons_succ, i64_w, i32_w]
          rfl
        exact norm_ (by simp only [putAll, Act.put, List.setIfInBounds_toArray, List.set_cons_zero, List.set_cons_succ]) (hCont (_, gy) _ ⟨HX.out, YE.out, YZ.out, Kd.S_mono YR.out (fun k_ hk_ => by have hk2_ : _ ∧ _ := hk_; have hl_ := YL.out; have o0_ := HY1.out; have o1_ := HY7.out; have o2_ := HY8.out; have o3_ := HY9.out; omega)⟩)
    · skip
      refine box_step ?hg (N := 5) ?hd (cs := #[.int .i64 0, .int .i64 0, .int .i64 0, .int .i64 0, .int .i64 0, .int .i64 0, .slice none 0 0, .bool false, .bool false, .bool false]) (t := 45) ?hr ?_
      (case hd => rfl)
      (case hg => rfl)
      (case hr => first | (go_simp; done) | (go_simp; rfl))
      intro gy hg wy10 hbox hb
      have YG := Aside0.mk hg
      have YL := Aside0.mk (blk_lt hbox)
      have YE : Aside0 (wq4.heap.size ≤ gy) := ⟨by rw [hg]; exact HX.out.size⟩
      have hz_ := Aside0.mk (Below.size hb)
      replace HX : Aside0 (Below wq4.heap.size wq4 wy10) := ⟨below_step HX.out hb⟩
      replace YBC := blk_kb YBC hb
      replace YBS := blk_kb YBS hb
      have YZ := Aside0.mk hbox
      have HY10 := hz_
      clear hz_ hb hbox hg
      refine hK.out _ _ ⟨(blk_cell YBC.out 0).trans rfl, (blk_cell YBC.out 1).trans rfl, (blk_cell YBC.out 2).trans rfl, (blk_cell YBS.out 0).trans rfl, (blk_cell YBS.out 1).trans rfl, (blk_cell YBS.out 2).trans rfl, (blk_cell YBS.out 3).trans rfl, (blk_cell YBS.out 4).trans rfl⟩ (fun hHeld => ?_)
      clear hK K
      refine norm_ (a' := ?_) ?_ ?_
      rotate_left
      · show Act.put _ (some 5) _ = _
        simp only [Act.put, List.setIfInBounds_toArray, List.set_cons_zero, List.set_cons_succ, i64_w, i32_w]
        rfl
      refine one_ (i := 1) (N := some 11) #[true, true, true, false, false, true, false] rfl rfl (by kernel_rfl) (by decide) (fun K hK => ?_)
      refine goes_ Try.func29 (by kernel_rfl) rfl #[.agg #[.int .i64 a, .int .i64 i, .int .i64 h]] (by rfl) rfl rfl (by (try simp only [List.map_toArray, List.map_cons, List.map_nil]); first | done | rfl) ?_
      with_reducible refine (laws_toConfig.calls a i h a i h _ HTC.out).mono ?_
      rintro e wy11 ⟨rfl, hb⟩
      refine ⟨_, rfl, ?_⟩
      have hz_ := Aside0.mk (Below.size hb)
      replace HX : Aside0 (Below wq4.heap.size wq4 wy11) := ⟨below_step HX.out hb⟩
      replace YBC := blk_kb YBC hb
      replace YBS := blk_kb YBS hb
      replace YZ := blk_kb YZ hb
      have HY11 := hz_
      clear hz_ hb
      refine hK.out _ _ ⟨(blk_cell YBC.out 0).trans rfl, (blk_cell YBC.out 1).trans rfl, (blk_cell YBC.out 2).trans rfl, (blk_cell YBS.out 0).trans rfl, (blk_cell YBS.out 1).trans rfl, (blk_cell YBS.out 2).trans rfl, (blk_cell YBS.out 3).trans rfl, (blk_cell YBS.out 4).trans rfl⟩ (fun hHeld => ?_)
      clear hK K
      refine norm_ (a' := ?_) ?_ ?_
      rotate_left
      · show Act.put _ (some 11) _ = _
        simp only [Act.put, List.setIfInBounds_toArray, List.set_cons_zero, List.set_cons_succ, i64_w, i32_w]
        rfl
      refine one_ (i := 3) (N := some 13) #[true, true, true, true, false, true, false] rfl rfl (by kernel_rfl) (by decide) (fun K hK => ?_)
      refine goes_ Try.func30 (by kernel_rfl) rfl #[.agg #[.int .i64 s0, .int .i64 s1, .int .i64 s2, .int .i64 s3, .int .i64 s4]] (by rfl) rfl rfl (by (try simp only [List.map_toArray, List.map_cons, List.map_nil]); first | done | rfl) ?_
      with_reducible refine (laws_toSession.calls s0 s1 s2 s3 s4 s0 s1 s2 s3 s4 _ HTS.out).mono ?_
      rintro e wy12 ⟨rfl, hb⟩
      refine ⟨_, rfl, ?_⟩
      have hz_ := Aside0.mk (Below.size hb)
      replace HX : Aside0 (Below wq4.heap.size wq4 wy12) := ⟨below_step HX.out hb⟩
      replace YBC := blk_kb YBC hb
      replace YBS := blk_kb YBS hb
      replace YZ := blk_kb YZ hb
      have HY12 := hz_
      clear hz_ hb
      refine hK.out _ _ ⟨(blk_cell YBC.out 0).trans rfl, (blk_cell YBC.out 1).trans rfl, (blk_cell YBC.out 2).trans rfl, (blk_cell YBS.out 0).trans rfl, (blk_cell YBS.out 1).trans rfl, (blk_cell YBS.out 2).trans rfl, (blk_cell YBS.out 3).trans rfl, (blk_cell YBS.out 4).trans rfl⟩ (fun hHeld => ?_)
      clear hK K
      refine norm_ (a' := ?_) ?_ ?_
      rotate_left
      · show Act.put _ (some 13) _ = _
        simp only [Act.put, List.setIfInBounds_toArray, List.set_cons_zero, List.set_cons_succ, i64_w, i32_w]
        rfl
      refine one_ (i := 4) (N := some 14) #[true, true, true, true, true, true, false] rfl rfl (by kernel_rfl) (by decide) (fun K hK => ?_)
      refine goes_ Try.func43 (by kernel_rfl) rfl #[.agg #[.int .i64 a, .int .i64 i, .int .i64 h], .agg #[.int .i64 s0, .int .i64 s1, .int .i64 s2, .int .i64 s3, .int .i64 s4]] (by rfl) rfl rfl (by (try simp only [List.map_toArray, List.map_cons, List.map_nil]); first | done | rfl) ?_
      with_reducible refine (HSP.out _).mono ?_
      rintro e wy13 ⟨v, rfl, ho, hb⟩
      refine ⟨_, rfl, ?_⟩
      have YR := Siw (base := wq4.heap.size) ho HX.out.size
      have hz_ := Aside0.mk (Below.size hb)
      replace HX : Aside0 (Below wq4.heap.size wq4 wy13) := ⟨below_step HX.out hb⟩
      replace YBC := blk_kb YBC hb
      replace YBS := blk_kb YBS hb
      replace YZ := blk_kb YZ hb
      have HY13 := hz_
      clear hz_ hb ho
      refine hK.out _ _ ⟨(blk_cell YBC.out 0).trans rfl, (blk_cell YBC.out 1).trans rfl, (blk_cell YBC.out 2).trans rfl, (blk_cell YBS.out 0).trans rfl, (blk_cell YBS.out 1).trans rfl, (blk_cell YBS.out 2).trans rfl, (blk_cell YBS.out 3).trans rfl, (blk_cell YBS.out 4).trans rfl⟩ (fun hHeld => ?_)
      clear hK K
      refine norm_ (a' := ?_) ?_ ?_
      rotate_left
      · show Act.put _ (some 14) _ = _
        simp only [Act.put, List.setIfInBounds_toArray, List.set_cons_zero, List.set_cons_succ, i64_w, i32_w]
        rfl
      exact norm_ (by simp only [putAll, Act.put, List.setIfInBounds_toArray, List.set_cons_zero, List.set_cons_succ]) (hCont (_, gy) _ ⟨HX.out, YE.out, YZ.out, Kd.S_mono YR.out (fun k_ hk_ => by have hk2_ : _ ∧ _ := hk_; have hl_ := YL.out; have o0_ := HY10.out; have o1_ := HY11.out; have o2_ := HY12.out; have o3_ := HY13.out; omega)⟩)
  rintro ⟨v, gBW⟩ wq5 ⟨hb, hge, hbx, ho⟩
  have HLBW := Aside0.mk (blk_lt hbx)
  have HGBW := Aside0.mk hge
  have HEBW : Aside0 (w.heap.size ≤ gBW) := ⟨Nat.le_trans HB.out.size hge⟩
  have XW := Nin ho HB.out.size
  have HS5 := Aside0.mk (Below.size hb)
  replace BC := blk_kb BC hb
  replace BS := blk_kb BS hb
  replace HB := below_kb HB hb
  have BW := Aside0.mk hbx
  clear hb hge hbx ho
  obtain ⟨AXW, cXW, rfl⟩ := Kd.S_slice XW.out
  refine norm_ (a' := ?_) ?_ ?_
  rotate_left
  · simp only [putAll, Act.put, List.setIfInBounds_toArray, List.set_cons_zero, List.set_cons_succ]
    rfl
  refine last_ (i := 6) (N := none) #[true, true, true, true, true, true, true] rfl rfl (by kernel_rfl) (by decide) (fun K hK => ?_)
  obtain ⟨hczBW_0, hczBW_1, hczBW_2, hczBW_3, hczBW_4, hczBW_5, hczBW_6, hczBW_7, hczBW_8, hczBW_9, hfzBW_0, hfzBW_1, hfzBW_2, hfzBW_3, hfzBW_4, hfzBW_5, hfzBW_6, hfzBW_7, hfzBW_8, hfzBW_9⟩ := cf10_ BW
  refine skip_ (w1 := wq5.setCells gBW 0 [.int .i64 r1, .int .i64 r2, .int .i64 r3, .int .i64 r4, .int .i64 r5, .int .i64 r6, .slice AXW l.length cXW, .bool u, .bool d, .bool up]) ?_ ?_ ?_ ?_
  · first | kernel_rfl | rfl
  · rfl
  · first | (go_simp; done) | (go_simp; rfl)
  refine hK.out _ _ ?_
  clear hK K
  refine done_ (by kernel_rfl) ?_
  clear hczBW_0 hfzBW_0 hczBW_1 hfzBW_1 hczBW_2 hfzBW_2 hczBW_3 hfzBW_3 hczBW_4 hfzBW_4 hczBW_5 hfzBW_5 hczBW_6 hfzBW_6 hczBW_7 hfzBW_7 hczBW_8 hfzBW_8 hczBW_9 hfzBW_9
  generalize hw : wq5.setCells gBW 0 [.int .i64 r1, .int .i64 r2, .int .i64 r3, .int .i64 r4, .int .i64 r5, .int .i64 r6, .slice AXW l.length cXW, .bool u, .bool d, .bool up] = wn5
  have hk : Kept wq5 wn5 (fun k => k = gBW) := (by rw [← hw]; exact puts_kept [.int .i64 r1, .int .i64 r2, .int .i64 r3, .int .i64 r4, .int .i64 r5, .int .i64 r6, .slice AXW l.length cXW, .bool u, .bool d, .bool up] 0 _ _ (Kept.refl _ _))
  have hp_ := (show Aside0 (wn5.heap[gBW]? = some (.cells #[.int .i64 r1, .int .i64 r2, .int .i64 r3, .int .i64 r4, .int .i64 r5, .int .i64 r6, .slice AXW l.length cXW, .bool u, .bool d, .bool up] 45 (0, 0))) from by rw [← hw]; exact puts_blk BW [.int .i64 r1, .int .i64 r2, .int .i64 r3, .int .i64 r4, .int .i64 r5, .int .i64 r6, .slice AXW l.length cXW, .bool u, .bool d, .bool up] rfl)
  replace HB : Aside0 (Below w.heap.size w wn5) := ⟨by rw [← hw]; exact puts_below HEBW.out [.int .i64 r1, .int .i64 r2, .int .i64 r3, .int .i64 r4, .int .i64 r5, .int .i64 r6, .slice AXW l.length cXW, .bool u, .bool d, .bool up] 0 _ HB.out⟩
  have HK5 := Aside0.mk hk.1
  replace BC := blk_kk BC hk (fun h3 => by have o0_ := HS1.out; have o1_ := HGBC.out; have o2_ := HLBC.out; have o3_ := HS2.out; have o4_ := HGBS.out; have o5_ := HLBS.out; have o6_ := HS4.out; have o7_ := HS5.out; have o8_ := HLBW.out; have o9_ := HGBW.out; have h3_ := h3; omega)
  replace BS := blk_kk BS hk (fun h3 => by have o0_ := HS1.out; have o1_ := HGBC.out; have o2_ := HLBC.out; have o3_ := HS2.out; have o4_ := HGBS.out; have o5_ := HLBS.out; have o6_ := HS4.out; have o7_ := HS5.out; have o8_ := HLBW.out; have o9_ := HGBW.out; have h3_ := h3; omega)
  replace XW := Nkk XW hk (fun k h1 h2 hn h3 => by have o0_ := HS1.out; have o1_ := HGBC.out; have o2_ := HLBC.out; have o3_ := HS2.out; have o4_ := HGBS.out; have o5_ := HLBS.out; have o6_ := HS4.out; have o7_ := HS5.out; have o8_ := HLBW.out; have o9_ := HGBW.out; have h3_ := h3; omega)
  replace BW := hp_
  clear hw hk
  go_wp2
  have hb : Below wn5.heap.size wn5 wn5.drew := below_drew1 (Below.refl _ _)
  have HS7 := Aside0.mk (Below.size hb)
  replace BC := blk_kb BC hb
  replace BS := blk_kb BS hb
  replace XW := Nkb XW hb
  replace BW := blk_kb BW hb
  replace HB := below_kb HB hb
  clear hb
  refine start_ (n := 7) (S := fun w' => w'.cell? ⟨gBC, 0, none⟩ = some (.int .i64 a) ∧ w'.cell? ⟨gBC, 1, none⟩ = some (.int .i64 i) ∧ w'.cell? ⟨gBC, 2, none⟩ = some (.int .i64 h) ∧ w'.cell? ⟨gBS, 0, none⟩ = some (.int .i64 s0) ∧ w'.cell? ⟨gBS, 1, none⟩ = some (.int .i64 s1) ∧ w'.cell? ⟨gBS, 2, none⟩ = some (.int .i64 s2) ∧ w'.cell? ⟨gBS, 3, none⟩ = some (.int .i64 s3) ∧ w'.cell? ⟨gBS, 4, none⟩ = some (.int .i64 s4)) (ds := [6]) #[false, false, false, false, false, false, false] (by kernel_rfl) rfl rfl ⟨(blk_cell BC.out 0).trans rfl, (blk_cell BC.out 1).trans rfl, (blk_cell BC.out 2).trans rfl, (blk_cell BS.out 0).trans rfl, (blk_cell BS.out 1).trans rfl, (blk_cell BS.out 2).trans rfl, (blk_cell BS.out 3).trans rfl, (blk_cell BS.out 4).trans rfl⟩ (fun hHeld => ?_)
  generalize wn5.drew = wq7 at BC BS XW BW HB HS7 hHeld ⊢
  refine take_ (i := 0) (N := some 15) (v := ?_) (a' := ?_) #[true, false, false, false, false, false, false] rfl rfl (by kernel_rfl) (fun _ _ _ h => h) (Or.inl ⟨by rfl, ?_⟩) hHeld ?_ ?_
  rotate_left
  · rintro w' ⟨t0, t1, t2, t3, t4, t5, t6, t7⟩
    go_simp
    with_reducible rfl
  rotate_left
  · simp only [Act.put, List.setIfInBounds_toArray, List.set_cons_zero, List.set_cons_succ, i64_w, i32_w]
    rfl
  refine take_ (i := 2) (N := some 17) (v := ?_) (a' := ?_) #[true, false, true, false, false, false, false] rfl rfl (by kernel_rfl) (fun _ _ _ h => h) (Or.inl ⟨by rfl, ?_⟩) hHeld ?_ ?_
  rotate_left
  · rintro w' ⟨t0, t1, t2, t3, t4, t5, t6, t7⟩
    go_simp
    with_reducible rfl
  rotate_left
  · simp only [Act.put, List.setIfInBounds_toArray, List.set_cons_zero, List.set_cons_succ, i64_w, i32_w]
    rfl
  refine join_ (σ := Value × Nat) 1 #[true, true, true, true, true, true, false] (fun s_ => [(16, .agg #[.int .i64 a, .int .i64 i, .int .i64 h]), (18, .agg #[.int .i64 s0, .int .i64 s1, .int .i64 s2, .int .i64 s3, .int .i64 s4]), (19, .agg #[.int .i64 r1, .int .i64 r2, .int .i64 r3, .int .i64 r4, .int .i64 r5, .int .i64 r6, s_.1, .bool u, .bool d, .bool up]), (6, .pointer (some ⟨s_.2, 0, none⟩))]) (fun s_ w' => (Below wq7.heap.size wq7 w') ∧ (wq7.heap.size ≤ s_.2) ∧ (w'.heap[s_.2]? = some (.cells #[.int .i64 0, .int .i64 0, .int .i64 0, .int .i64 0, .int .i64 0, .int .i64 0, .slice none 0 0, .bool false, .bool false, .bool false] 45 (0, 0))) ∧ (Kd.S k136 136 w' wq7.heap.size (fun k_ => k_ ≠ s_.2) s_.1 l)) ?_ ?_
  rotate_left
  · intro hCont
    have HX := Aside0.mk (Below.refl wq7.heap.size wq7)
    have YBC := BC
    have YBS := BS
    clear HB BC BS XW BW
    refine two_ (i := 1) (j := 5) (Ni := some 16) (Nj := some 6) #[true, true, true, false, false, false, false] #[true, false, true, false, false, true, false] rfl rfl rfl rfl (by kernel_rfl) (by decide) (by decide) (fun K hK => ?_) (fun K hK => ?_)
    · skip
      refine goes_ Try.func29 (by kernel_rfl) rfl #[.agg #[.int .i64 a, .int .i64 i, .int .i64 h]] (by rfl) rfl rfl (by (try simp only [List.map_toArray, List.map_cons, List.map_nil]); first | done | rfl) ?_
      with_reducible refine (laws_toConfig.calls a i h a i h _ HTC.out).mono ?_
      rintro e wy1 ⟨rfl, hb⟩
      refine ⟨_, rfl, ?_⟩
      have hz_ := Aside0.mk (Below.size hb)
      replace HX : Aside0 (Below wq7.heap.size wq7 wy1) := ⟨below_step HX.out hb⟩
      replace YBC := blk_kb YBC hb
      replace YBS := blk_kb YBS hb
      have HY1 := hz_
      clear hz_ hb
      refine hK.out _ _ ⟨(blk_cell YBC.out 0).trans rfl, (blk_cell YBC.out 1).trans rfl, (blk_cell YBC.out 2).trans rfl, (blk_cell YBS.out 0).trans rfl, (blk_cell YBS.out 1).trans rfl, (blk_cell YBS.out 2).trans rfl, (blk_cell YBS.out 3).trans rfl, (blk_cell YBS.out 4).trans rfl⟩ (fun hHeld => ?_)
      clear hK K
      refine norm_ (a' := ?_) ?_ ?_
      rotate_left
      · show Act.put _ (some 16) _ = _
        simp only [Act.put, List.setIfInBounds_toArray, List.set_cons_zero, List.set_cons_succ, i64_w, i32_w]
        rfl
      refine two_ (i := 3) (j := 5) (Ni := some 18) (Nj := some 6) #[true, true, true, true, false, false, false] #[true, true, true, false, false, true, false] rfl rfl rfl rfl (by kernel_rfl) (by decide) (by decide) (fun K hK => ?_) (fun K hK => ?_)
      · skip
        refine goes_ Try.func30 (by kernel_rfl) rfl #[.agg #[.int .i64 s0, .int .i64 s1, .int .i64 s2, .int .i64 s3, .int .i64 s4]] (by rfl) rfl rfl (by (try simp only [List.map_toArray, List.map_cons, List.map_nil]); first | done | rfl) ?_
        with_reducible refine (laws_toSession.calls s0 s1 s2 s3 s4 s0 s1 s2 s3 s4 _ HTS.out).mono ?_
        rintro e wy2 ⟨rfl, hb⟩
        refine ⟨_, rfl, ?_⟩
        have hz_ := Aside0.mk (Below.size hb)
        replace HX : Aside0 (Below wq7.heap.size wq7 wy2) := ⟨below_step HX.out hb⟩
        replace YBC := blk_kb YBC hb
        replace YBS := blk_kb YBS hb
        have HY2 := hz_
        clear hz_ hb
        refine hK.out _ _ ⟨(blk_cell YBC.out 0).trans rfl, (blk_cell YBC.out 1).trans rfl, (blk_cell YBC.out 2).trans rfl, (blk_cell YBS.out 0).trans rfl, (blk_cell YBS.out 1).trans rfl, (blk_cell YBS.out 2).trans rfl, (blk_cell YBS.out 3).trans rfl, (blk_cell YBS.out 4).trans rfl⟩ (fun hHeld => ?_)
        clear hK K
        refine norm_ (a' := ?_) ?_ ?_
        rotate_left
        · show Act.put _ (some 18) _ = _
          simp only [Act.put, List.setIfInBounds_toArray, List.set_cons_zero, List.set_cons_succ, i64_w, i32_w]
          rfl
        refine two_ (i := 4) (j := 5) (Ni := some 19) (Nj := some 6) #[true, true, true, true, true, false, false] #[true, true, true, true, false, true, false] rfl rfl rfl rfl (by kernel_rfl) (by decide) (by decide) (fun K hK => ?_) (fun K hK => ?_)
        · skip
          refine goes_ Try.func44 (by kernel_rfl) rfl #[.agg #[.int .i64 a, .int .i64 i, .int .i64 h], .agg #[.int .i64 s0, .int .i64 s1, .int .i64 s2, .int .i64 s3, .int .i64 s4]] (by rfl) rfl rfl (by (try simp only [List.map_toArray, List.map_cons, List.map_nil]); first | done | rfl) ?_
          with_reducible refine (HIM.out _).mono ?_
          rintro e wy3 ⟨v, rfl, ho, hb⟩
          refine ⟨_, rfl, ?_⟩
          have YR := Siw (base := wq7.heap.size) ho HX.out.size
          have hz_ := Aside0.mk (Below.size hb)
          replace HX : Aside0 (Below wq7.heap.size wq7 wy3) := ⟨below_step HX.out hb⟩
          replace YBC := blk_kb YBC hb
          replace YBS := blk_kb YBS hb
          have HY3 := hz_
          clear hz_ hb ho
          refine hK.out _ _ ⟨(blk_cell YBC.out 0).trans rfl, (blk_cell YBC.out 1).trans rfl, (blk_cell YBC.out 2).trans rfl, (blk_cell YBS.out 0).trans rfl, (blk_cell YBS.out 1).trans rfl, (blk_cell YBS.out 2).trans rfl, (blk_cell YBS.out 3).trans rfl, (blk_cell YBS.out 4).trans rfl⟩ (fun hHeld => ?_)
          clear hK K
          refine norm_ (a' := ?_) ?_ ?_
          rotate_left
          · show Act.put _ (some 19) _ = _
            simp only [Act.put, List.setIfInBounds_toArray, List.set_cons_zero, List.set_cons_succ, i64_w, i32_w]
            rfl
          refine one_ (i := 5) (N := some 6) #[true, true, true, true, true, true, false] rfl rfl (by kernel_rfl) (by decide) (fun K hK => ?_)
          refine box_step ?hg (N := 6) ?hd (cs := #[.int .i64 0, .int .i64 0, .int .i64 0, .int .i64 0, .int .i64 0, .int .i64 0, .slice none 0 0, .bool false, .bool false, .bool false]) (t := 45) ?hr ?_
          (case hd => rfl)
          (case hg => rfl)
          (case hr => first | (go_simp; done) | (go_simp; rfl))
          intro gy hg wy4 hbox hb
          have YG := Aside0.mk hg
          have YL := Aside0.mk (blk_lt hbox)
          have YE : Aside0 (wq7.heap.size ≤ gy) := ⟨by rw [hg]; exact HX.out.size⟩
          have hz_ := Aside0.mk (Below.size hb)
          replace HX : Aside0 (Below wq7.heap.size wq7 wy4) := ⟨below_step HX.out hb⟩
          replace YBC := blk_kb YBC hb
          replace YBS := blk_kb YBS hb
          replace YR := Skb_iv YR hb
          have YZ := Aside0.mk hbox
          have HY4 := hz_
          clear hz_ hb hbox hg
          refine hK.out _ _ ⟨(blk_cell YBC.out 0).trans rfl, (blk_cell YBC.out 1).trans rfl, (blk_cell YBC.out 2).trans rfl, (blk_cell YBS.out 0).trans rfl, (blk_cell YBS.out 1).trans rfl, (blk_cell YBS.out 2).trans rfl, (blk_cell YBS.out 3).trans rfl, (blk_cell YBS.out 4).trans rfl⟩ (fun hHeld => ?_)
          clear hK K
          refine norm_ (a' := ?_) ?_ ?_
          rotate_left
          · show Act.put _ (some 6) _ = _
            simp only [Act.put, List.setIfInBounds_toArray, List.set_cons_zero, List.set_cons_succ, i64_w, i32_w]
            rfl
          exact norm_ (by simp only [putAll, Act.put, List.setIfInBounds_toArray, List.set_cons_zero, List.set_cons_succ]) (hCont (_, gy) _ ⟨HX.out, YE.out, YZ.out, Kd.S_mono YR.out (fun k_ hk_ => by have hk2_ : _ ∧ _ := hk_; have hg_ := YG.out; have o0_ := HY1.out; have o1_ := HY2.out; have o2_ := HY3.out; have o3_ := HY4.out; omega)⟩)
        · skip
          refine box_step ?hg (N := 6) ?hd (cs := #[.int .i64 0, .int .i64 0, .int .i64 0, .int .i64 0, .int .i64 0, .int .i64 0, .slice none 0 0, .bool false, .bool false, .bool false]) (t := 45) ?hr ?_
          (case hd => rfl)
          (case hg => rfl)
          (case hr => first | (go_simp; done) | (go_simp; rfl))
          intro gy hg wy5 hbox hb
          have YG := Aside0.mk hg
          have YL := Aside0.mk (blk_lt hbox)
          have YE : Aside0 (wq7.heap.size ≤ gy) := ⟨by rw [hg]; exact HX.out.size⟩
          have hz_ := Aside0.mk (Below.size hb)
          replace HX : Aside0 (Below wq7.heap.size wq7 wy5) := ⟨below_step HX.out hb⟩
          replace YBC := blk_kb YBC hb
          replace YBS := blk_kb YBS hb
          have YZ := Aside0.mk hbox
          have HY5 := hz_
          clear hz_ hb hbox hg
          refine hK.out _ _ ⟨(blk_cell YBC.out 0).trans rfl, (blk_cell YBC.out 1).trans rfl, (blk_cell YBC.out 2).trans rfl, (blk_cell YBS.out 0).trans rfl, (blk_cell YBS.out 1).trans rfl, (blk_cell YBS.out 2).trans rfl, (blk_cell YBS.out 3).trans rfl, (blk_cell YBS.out 4).trans rfl⟩ (fun hHeld => ?_)
          clear hK K
          refine norm_ (a' := ?_) ?_ ?_
          rotate_left
          · show Act.put _ (some 6) _ = _
            simp only [Act.put, List.setIfInBounds_toArray, List.set_cons_zero, List.set_cons_succ, i64_w, i32_w]
            rfl
          refine one_ (i := 4) (N := some 19) #[true, true, true, true, true, true, false] rfl rfl (by kernel_rfl) (by decide) (fun K hK => ?_)
          refine goes_ Try.func44 (by kernel_rfl) rfl #[.agg #[.int .i64 a, .int .i64 i, .int .i64 h], .agg #[.int .i64 s0, .int .i64 s1, .int .i64 s2, .int .i64 s3, .int .i64 s4]] (by rfl) rfl rfl (by (try simp only [List.map_toArray, List.map_cons, List.map_nil]); first | done | rfl) ?_
          with_reducible refine (HIM.out _).mono ?_
          rintro e wy6 ⟨v, rfl, ho, hb⟩
          refine ⟨_, rfl, ?_⟩
          have YR := Siw (base := wq7.heap.size) ho HX.out.size
          have hz_ := Aside0.mk (Below.size hb)
          replace HX : Aside0 (Below wq7.heap.size wq7 wy6) := ⟨below_step HX.out hb⟩
          replace YBC := blk_kb YBC hb
          replace YBS := blk_kb YBS hb
          replace YZ := blk_kb YZ hb
          have HY6 := hz_
          clear hz_ hb ho
          refine hK.out _ _ ⟨(blk_cell YBC.out 0).trans rfl, (blk_cell YBC.out 1).trans rfl, (blk_cell YBC.out 2).trans rfl, (blk_cell YBS.out 0).trans rfl, (blk_cell YBS.out 1).trans rfl, (blk_cell YBS.out 2).trans rfl, (blk_cell YBS.out 3).trans rfl, (blk_cell YBS.out 4).trans rfl⟩ (fun hHeld => ?_)
          clear hK K
          refine norm_ (a' := ?_) ?_ ?_
          rotate_left
          · show Act.put _ (some 19) _ = _
            simp only [Act.put, List.setIfInBounds_toArray, List.set_cons_zero, List.set_cons_succ, i64_w, i32_w]
            rfl
          exact norm_ (by simp only [putAll, Act.put, List.setIfInBounds_toArray, List.set_cons_zero, List.set_cons_succ]) (hCont (_, gy) _ ⟨HX.out, YE.out, YZ.out, Kd.S_mono YR.out (fun k_ hk_ => by have hk2_ : _ ∧ _ := hk_; have hl_ := YL.out; have o0_ := HY1.out; have o1_ := HY2.out; have o2_ := HY5.out; have o3_ := HY6.out; omega)⟩)
      · skip
        refine box_step ?hg (N := 6) ?hd (cs := #[.int .i64 0, .int .i64 0, .int .i64 0, .int .i64 0, .int .i64 0, .int .i64 0, .slice none 0 0, .bool false, .bool false, .bool false]) (t := 45) ?hr ?_
        (case hd => rfl)
        (case hg => rfl)
        (case hr => first | (go_simp; done) | (go_simp; rfl))
        intro gy hg wy7 hbox hb
        have YG := Aside0.mk hg
        have YL := Aside0.mk (blk_lt hbox)
        have YE : Aside0 (wq7.heap.size ≤ gy) := ⟨by rw [hg]; exact HX.out.size⟩
        have hz_ := Aside0.mk (Below.size hb)
        replace HX : Aside0 (Below wq7.heap.size wq7 wy7) := ⟨below_step HX.out hb⟩
        replace YBC := blk_kb YBC hb
        replace YBS := blk_kb YBS hb
        have YZ := Aside0.mk hbox
        have HY7 := hz_
        clear hz_ hb hbox hg
        refine hK.out _ _ ⟨(blk_cell YBC.out 0).trans rfl, (blk_cell YBC.out 1).trans rfl, (blk_cell YBC.out 2).trans rfl, (blk_cell YBS.out 0).trans rfl, (blk_cell YBS.out 1).trans rfl, (blk_cell YBS.out 2).trans rfl, (blk_cell YBS.out 3).trans rfl, (blk_cell YBS.out 4).trans rfl⟩ (fun hHeld => ?_)
        clear hK K
        refine norm_ (a' := ?_) ?_ ?_
        rotate_left
        · show Act.put _ (some 6) _ = _
          simp only [Act.put, List.setIfInBounds_toArray, List.set_cons_zero, List.set_cons_succ, i64_w, i32_w]
          rfl
        refine one_ (i := 3) (N := some 18) #[true, true, true, true, false, true, false] rfl rfl (by kernel_rfl) (by decide) (fun K hK => ?_)
        refine goes_ Try.func30 (by kernel_rfl) rfl #[.agg #[.int .i64 s0, .int .i64 s1, .int .i64 s2, .int .i64 s3, .int .i64 s4]] (by rfl) rfl rfl (by (try simp only [List.map_toArray, List.map_cons, List.map_nil]); first | done | rfl) ?_
        with_reducible refine (laws_toSession.calls s0 s1 s2 s3 s4 s0 s1 s2 s3 s4 _ HTS.out).mono ?_
        rintro e wy8 ⟨rfl, hb⟩
        refine ⟨_, rfl, ?_⟩
        have hz_ := Aside0.mk (Below.size hb)
        replace HX : Aside0 (Below wq7.heap.size wq7 wy8) := ⟨below_step HX.out hb⟩
        replace YBC := blk_kb YBC hb
        replace YBS := blk_kb YBS hb
        replace YZ := blk_kb YZ hb
        have HY8 := hz_
        clear hz_ hb
        refine hK.out _ _ ⟨(blk_cell YBC.out 0).trans rfl, (blk_cell YBC.out 1).trans rfl, (blk_cell YBC.out 2).trans rfl, (blk_cell YBS.out 0).trans rfl, (blk_cell YBS.out 1).trans rfl, (blk_cell YBS.out 2).trans rfl, (blk_cell YBS.out 3).trans rfl, (blk_cell YBS.out 4).trans rfl⟩ (fun hHeld => ?_)
        clear hK K
        refine norm_ (a' := ?_) ?_ ?_
        rotate_left
        · show Act.put _ (some 18) _ = _
          simp only [Act.put, List.setIfInBounds_toArray, List.set_cons_zero, List.set_cons_succ, i64_w, i32_w]
          rfl
        refine one_ (i := 4) (N := some 19) #[true, true, true, true, true, true, false] rfl rfl (by kernel_rfl) (by decide) (fun K hK => ?_)
        refine goes_ Try.func44 (by kernel_rfl) rfl #[.agg #[.int .i64 a, .int .i64 i, .int .i64 h], .agg #[.int .i64 s0, .int .i64 s1, .int .i64 s2, .int .i64 s3, .int .i64 s4]] (by rfl) rfl rfl (by (try simp only [List.map_toArray, List.map_cons, List.map_nil]); first | done | rfl) ?_
        with_reducible refine (HIM.out _).mono ?_
        rintro e wy9 ⟨v, rfl, ho, hb⟩
        refine ⟨_, rfl, ?_⟩
        have YR := Siw (base := wq7.heap.size) ho HX.out.size
        have hz_ := Aside0.mk (Below.size hb)
        replace HX : Aside0 (Below wq7.heap.size wq7 wy9) := ⟨below_step HX.out hb⟩
        replace YBC := blk_kb YBC hb
        replace YBS := blk_kb YBS hb
        replace YZ := blk_kb YZ hb
        have HY9 := hz_
        clear hz_ hb ho
        refine hK.out _ _ ⟨(blk_cell YBC.out 0).trans rfl, (blk_cell YBC.out 1).trans rfl, (blk_cell YBC.out 2).trans rfl, (blk_cell YBS.out 0).trans rfl, (blk_cell YBS.out 1).trans rfl, (blk_cell YBS.out 2).trans rfl, (blk_cell YBS.out 3).trans rfl, (blk_cell YBS.out 4).trans rfl⟩ (fun hHeld => ?_)
        clear hK K
        refine norm_ (a' := ?_) ?_ ?_
        rotate_left
        · show Act.put _ (some 19) _ = _
          simp only [Act.put, List.setIfInBounds_toArray, List.set_cons_zero, List.set_cons_succ, i64_w, i32_w]
          rfl
        exact norm_ (by simp only [putAll, Act.put, List.setIfInBounds_toArray, List.set_cons_zero, List.set_cons_succ]) (hCont (_, gy) _ ⟨HX.out, YE.out, YZ.out, Kd.S_mono YR.out (fun k_ hk_ => by have hk2_ : _ ∧ _ := hk_; have hl_ := YL.out; have o0_ := HY1.out; have o1_ := HY7.out; have o2_ := HY8.out; have o3_ := HY9.out; omega)⟩)
    · skip
      refine box_step ?hg (N := 6) ?hd (cs := #[.int .i64 0, .int .i64 0, .int .i64 0, .int .i64 0, .int .i64 0, .int .i64 0, .slice none 0 0, .bool false, .bool false, .bool false]) (t := 45) ?hr ?_
      (case hd => rfl)
      (case hg => rfl)
      (case hr => first | (go_simp; done) | (go_simp; rfl))
      intro gy hg wy10 hbox hb
      have YG := Aside0.mk hg
      have YL := Aside0.mk (blk_lt hbox)
      have YE : Aside0 (wq7.heap.size ≤ gy) := ⟨by rw [hg]; exact HX.out.size⟩
      have hz_ := Aside0.mk (Below.size hb)
      replace HX : Aside0 (Below wq7.heap.size wq7 wy10) := ⟨below_step HX.out hb⟩
      replace YBC := blk_kb YBC hb
      replace YBS := blk_kb YBS hb
      have YZ := Aside0.mk hbox
      have HY10 := hz_
      clear hz_ hb hbox hg
      refine hK.out _ _ ⟨(blk_cell YBC.out 0).trans rfl, (blk_cell YBC.out 1).trans rfl, (blk_cell YBC.out 2).trans rfl, (blk_cell YBS.out 0).trans rfl, (blk_cell YBS.out 1).trans rfl, (blk_cell YBS.out 2).trans rfl, (blk_cell YBS.out 3).trans rfl, (blk_cell YBS.out 4).trans rfl⟩ (fun hHeld => ?_)
      clear hK K
      refine norm_ (a' := ?_) ?_ ?_
      rotate_left
      · show Act.put _ (some 6) _ = _
        simp only [Act.put, List.setIfInBounds_toArray, List.set_cons_zero, List.set_cons_succ, i64_w, i32_w]
        rfl
      refine one_ (i := 1) (N := some 16) #[true, true, true, false, false, true, false] rfl rfl (by kernel_rfl) (by decide) (fun K hK => ?_)
      refine goes_ Try.func29 (by kernel_rfl) rfl #[.agg #[.int .i64 a, .int .i64 i, .int .i64 h]] (by rfl) rfl rfl (by (try simp only [List.map_toArray, List.map_cons, List.map_nil]); first | done | rfl) ?_
      with_reducible refine (laws_toConfig.calls a i h a i h _ HTC.out).mono ?_
      rintro e wy11 ⟨rfl, hb⟩
      refine ⟨_, rfl, ?_⟩
      have hz_ := Aside0.mk (Below.size hb)
      replace HX : Aside0 (Below wq7.heap.size wq7 wy11) := ⟨below_step HX.out hb⟩
      replace YBC := blk_kb YBC hb
      replace YBS := blk_kb YBS hb
      replace YZ := blk_kb YZ hb
      have HY11 := hz_
      clear hz_ hb
      refine hK.out _ _ ⟨(blk_cell YBC.out 0).trans rfl, (blk_cell YBC.out 1).trans rfl, (blk_cell YBC.out 2).trans rfl, (blk_cell YBS.out 0).trans rfl, (blk_cell YBS.out 1).trans rfl, (blk_cell YBS.out 2).trans rfl, (blk_cell YBS.out 3).trans rfl, (blk_cell YBS.out 4).trans rfl⟩ (fun hHeld => ?_)
      clear hK K
      refine norm_ (a' := ?_) ?_ ?_
      rotate_left
      · show Act.put _ (some 16) _ = _
        simp only [Act.put, List.setIfInBounds_toArray, List.set_cons_zero, List.set_cons_succ, i64_w, i32_w]
        rfl
      refine one_ (i := 3) (N := some 18) #[true, true, true, true, false, true, false] rfl rfl (by kernel_rfl) (by decide) (fun K hK => ?_)
      refine goes_ Try.func30 (by kernel_rfl) rfl #[.agg #[.int .i64 s0, .int .i64 s1, .int .i64 s2, .int .i64 s3, .int .i64 s4]] (by rfl) rfl rfl (by (try simp only [List.map_toArray, List.map_cons, List.map_nil]); first | done | rfl) ?_
      with_reducible refine (laws_toSession.calls s0 s1 s2 s3 s4 s0 s1 s2 s3 s4 _ HTS.out).mono ?_
      rintro e wy12 ⟨rfl, hb⟩
      refine ⟨_, rfl, ?_⟩
      have hz_ := Aside0.mk (Below.size hb)
      replace HX : Aside0 (Below wq7.heap.size wq7 wy12) := ⟨below_step HX.out hb⟩
      replace YBC := blk_kb YBC hb
      replace YBS := blk_kb YBS hb
      replace YZ := blk_kb YZ hb
      have HY12 := hz_
      clear hz_ hb
      refine hK.out _ _ ⟨(blk_cell YBC.out 0).trans rfl, (blk_cell YBC.out 1).trans rfl, (blk_cell YBC.out 2).trans rfl, (blk_cell YBS.out 0).trans rfl, (blk_cell YBS.out 1).trans rfl, (blk_cell YBS.out 2).trans rfl, (blk_cell YBS.out 3).trans rfl, (blk_cell YBS.out 4).trans rfl⟩ (fun hHeld => ?_)
      clear hK K
      refine norm_ (a' := ?_) ?_ ?_
      rotate_left
      · show Act.put _ (some 18) _ = _
        simp only [Act.put, List.setIfInBounds_toArray, List.set_cons_zero, List.set_cons_succ, i64_w, i32_w]
        rfl
      refine one_ (i := 4) (N := some 19) #[true, true, true, true, true, true, false] rfl rfl (by kernel_rfl) (by decide) (fun K hK => ?_)
      refine goes_ Try.func44 (by kernel_rfl) rfl #[.agg #[.int .i64 a, .int .i64 i, .int .i64 h], .agg #[.int .i64 s0, .int .i64 s1, .int .i64 s2, .int .i64 s3, .int .i64 s4]] (by rfl) rfl rfl (by (try simp only [List.map_toArray, List.map_cons, List.map_nil]); first | done | rfl) ?_
      with_reducible refine (HIM.out _).mono ?_
      rintro e wy13 ⟨v, rfl, ho, hb⟩
      refine ⟨_, rfl, ?_⟩
      have YR := Siw (base := wq7.heap.size) ho HX.out.size
      have hz_ := Aside0.mk (Below.size hb)
      replace HX : Aside0 (Below wq7.heap.size wq7 wy13) := ⟨below_step HX.out hb⟩
      replace YBC := blk_kb YBC hb
      replace YBS := blk_kb YBS hb
      replace YZ := blk_kb YZ hb
      have HY13 := hz_
      clear hz_ hb ho
      refine hK.out _ _ ⟨(blk_cell YBC.out 0).trans rfl, (blk_cell YBC.out 1).trans rfl, (blk_cell YBC.out 2).trans rfl, (blk_cell YBS.out 0).trans rfl, (blk_cell YBS.out 1).trans rfl, (blk_cell YBS.out 2).trans rfl, (blk_cell YBS.out 3).trans rfl, (blk_cell YBS.out 4).trans rfl⟩ (fun hHeld => ?_)
      clear hK K
      refine norm_ (a' := ?_) ?_ ?_
      rotate_left
      · show Act.put _ (some 19) _ = _
        simp only [Act.put, List.setIfInBounds_toArray, List.set_cons_zero, List.set_cons_succ, i64_w, i32_w]
        rfl
      exact norm_ (by simp only [putAll, Act.put, List.setIfInBounds_toArray, List.set_cons_zero, List.set_cons_succ]) (hCont (_, gy) _ ⟨HX.out, YE.out, YZ.out, Kd.S_mono YR.out (fun k_ hk_ => by have hk2_ : _ ∧ _ := hk_; have hl_ := YL.out; have o0_ := HY10.out; have o1_ := HY11.out; have o2_ := HY12.out; have o3_ := HY13.out; omega)⟩)
  rintro ⟨v, gBG⟩ wq8 ⟨hb, hge, hbx, ho⟩
  have HLBG := Aside0.mk (blk_lt hbx)
  have HGBG := Aside0.mk hge
  have HEBG : Aside0 (w.heap.size ≤ gBG) := ⟨Nat.le_trans HB.out.size hge⟩
  have XG := Nin ho HB.out.size
  have HS8 := Aside0.mk (Below.size hb)
  replace BC := blk_kb BC hb
  replace BS := blk_kb BS hb
  replace XW := Nkb XW hb
  replace BW := blk_kb BW hb
  replace HB := below_kb HB hb
  have BG := Aside0.mk hbx
  clear hb hge hbx ho
  obtain ⟨AXG, cXG, rfl⟩ := Kd.S_slice XG.out
  refine norm_ (a' := ?_) ?_ ?_
  rotate_left
  · simp only [putAll, Act.put, List.setIfInBounds_toArray, List.set_cons_zero, List.set_cons_succ]
    rfl
  refine last_ (i := 6) (N := none) #[true, true, true, true, true, true, true] rfl rfl (by kernel_rfl) (by decide) (fun K hK => ?_)
  obtain ⟨hczBG_0, hczBG_1, hczBG_2, hczBG_3, hczBG_4, hczBG_5, hczBG_6, hczBG_7, hczBG_8, hczBG_9, hfzBG_0, hfzBG_1, hfzBG_2, hfzBG_3, hfzBG_4, hfzBG_5, hfzBG_6, hfzBG_7, hfzBG_8, hfzBG_9⟩ := cf10_ BG
  refine skip_ (w1 := wq8.setCells gBG 0 [.int .i64 r1, .int .i64 r2, .int .i64 r3, .int .i64 r4, .int .i64 r5, .int .i64 r6, .slice AXG l.length cXG, .bool u, .bool d, .bool up]) ?_ ?_ ?_ ?_
  · first | kernel_rfl | rfl
  · rfl
  · first | (go_simp; done) | (go_simp; rfl)
  refine hK.out _ _ ?_
  clear hK K
  refine done_ (by kernel_rfl) ?_
  clear hczBG_0 hfzBG_0 hczBG_1 hfzBG_1 hczBG_2 hfzBG_2 hczBG_3 hfzBG_3 hczBG_4 hfzBG_4 hczBG_5 hfzBG_5 hczBG_6 hfzBG_6 hczBG_7 hfzBG_7 hczBG_8 hfzBG_8 hczBG_9 hfzBG_9
  generalize hw : wq8.setCells gBG 0 [.int .i64 r1, .int .i64 r2, .int .i64 r3, .int .i64 r4, .int .i64 r5, .int .i64 r6, .slice AXG l.length cXG, .bool u, .bool d, .bool up] = wn8
  have hk : Kept wq8 wn8 (fun k => k = gBG) := (by rw [← hw]; exact puts_kept [.int .i64 r1, .int .i64 r2, .int .i64 r3, .int .i64 r4, .int .i64 r5, .int .i64 r6, .slice AXG l.length cXG, .bool u, .bool d, .bool up] 0 _ _ (Kept.refl _ _))
  have hp_ := (show Aside0 (wn8.heap[gBG]? = some (.cells #[.int .i64 r1, .int .i64 r2, .int .i64 r3, .int .i64 r4, .int .i64 r5, .int .i64 r6, .slice AXG l.length cXG, .bool u, .bool d, .bool up] 45 (0, 0))) from by rw [← hw]; exact puts_blk BG [.int .i64 r1, .int .i64 r2, .int .i64 r3, .int .i64 r4, .int .i64 r5, .int .i64 r6, .slice AXG l.length cXG, .bool u, .bool d, .bool up] rfl)
  replace HB : Aside0 (Below w.heap.size w wn8) := ⟨by rw [← hw]; exact puts_below HEBG.out [.int .i64 r1, .int .i64 r2, .int .i64 r3, .int .i64 r4, .int .i64 r5, .int .i64 r6, .slice AXG l.length cXG, .bool u, .bool d, .bool up] 0 _ HB.out⟩
  have HK8 := Aside0.mk hk.1
  replace BC := blk_kk BC hk (fun h3 => by have o0_ := HS1.out; have o1_ := HGBC.out; have o2_ := HLBC.out; have o3_ := HS2.out; have o4_ := HGBS.out; have o5_ := HLBS.out; have o6_ := HS4.out; have o7_ := HS5.out; have o8_ := HLBW.out; have o9_ := HGBW.out; have o10_ := HK5.out; have o11_ := HS7.out; have o12_ := HS8.out; have o13_ := HLBG.out; have o14_ := HGBG.out; have h3_ := h3; omega)
  replace BS := blk_kk BS hk (fun h3 => by have o0_ := HS1.out; have o1_ := HGBC.out; have o2_ := HLBC.out; have o3_ := HS2.out; have o4_ := HGBS.out; have o5_ := HLBS.out; have o6_ := HS4.out; have o7_ := HS5.out; have o8_ := HLBW.out; have o9_ := HGBW.out; have o10_ := HK5.out; have o11_ := HS7.out; have o12_ := HS8.out; have o13_ := HLBG.out; have o14_ := HGBG.out; have h3_ := h3; omega)
  replace XW := Nkk XW hk (fun k h1 h2 hn h3 => by have o0_ := HS1.out; have o1_ := HGBC.out; have o2_ := HLBC.out; have o3_ := HS2.out; have o4_ := HGBS.out; have o5_ := HLBS.out; have o6_ := HS4.out; have o7_ := HS5.out; have o8_ := HLBW.out; have o9_ := HGBW.out; have o10_ := HK5.out; have o11_ := HS7.out; have o12_ := HS8.out; have o13_ := HLBG.out; have o14_ := HGBG.out; have h3_ := h3; omega)
  replace BW := blk_kk BW hk (fun h3 => by have o0_ := HS1.out; have o1_ := HGBC.out; have o2_ := HLBC.out; have o3_ := HS2.out; have o4_ := HGBS.out; have o5_ := HLBS.out; have o6_ := HS4.out; have o7_ := HS5.out; have o8_ := HLBW.out; have o9_ := HGBW.out; have o10_ := HK5.out; have o11_ := HS7.out; have o12_ := HS8.out; have o13_ := HLBG.out; have o14_ := HGBG.out; have h3_ := h3; omega)
  replace XG := Nkk XG hk (fun k h1 h2 hn h3 => by have o0_ := HS1.out; have o1_ := HGBC.out; have o2_ := HLBC.out; have o3_ := HS2.out; have o4_ := HGBS.out; have o5_ := HLBS.out; have o6_ := HS4.out; have o7_ := HS5.out; have o8_ := HLBW.out; have o9_ := HGBW.out; have o10_ := HK5.out; have o11_ := HS7.out; have o12_ := HS8.out; have o13_ := HLBG.out; have o14_ := HGBG.out; have h3_ := h3; omega)
  replace BG := hp_
  clear hw hk
  obtain ⟨hczBG_0, hczBG_1, hczBG_2, hczBG_3, hczBG_4, hczBG_5, hczBG_6, hczBG_7, hczBG_8, hczBG_9, hfzBG_0, hfzBG_1, hfzBG_2, hfzBG_3, hfzBG_4, hfzBG_5, hfzBG_6, hfzBG_7, hfzBG_8, hfzBG_9⟩ := cf10_ BG
  obtain ⟨hczBW_0, hczBW_1, hczBW_2, hczBW_3, hczBW_4, hczBW_5, hczBW_6, hczBW_7, hczBW_8, hczBW_9, hfzBW_0, hfzBW_1, hfzBW_2, hfzBW_3, hfzBW_4, hfzBW_5, hfzBW_6, hfzBW_7, hfzBW_8, hfzBW_9⟩ := cf10_ BW
  go_wp2_with (first
    | ((with_reducible refine gate_dst (N := 22) rfl ?_); refine goe_ (some 22) Try.func32 #[.agg #[.int .i64 r1, .int .i64 r2, .int .i64 r3, .int .i64 r4, .int .i64 r5, .int .i64 r6, .slice AXG l.length cXG, .bool u, .bool d, .bool up], .agg #[.int .i64 r1, .int .i64 r2, .int .i64 r3, .int .i64 r4, .int .i64 r5, .int .i64 r6, .slice AXW l.length cXW, .bool u, .bool d, .bool up]] ?_; (with_reducible refine (laws_eqSessionResult.calls k r1 r2 r3 r4 r5 r6 _ _ l u d up r1 r2 r3 r4 r5 r6 _ _ l u d up true _ ?side1 ?side2 ?side3 ?side4 HEQ.out).mono ?_); (case side1 => exact (Kd.S_reads' XG.out).2.2); (case side2 => exact (Kd.S_reads' XG.out).2.1); (case side3 => exact (Kd.S_reads' XW.out).2.2); (case side4 => exact (Kd.S_reads' XW.out).2.1); rintro e wq9 ⟨rfl, hb⟩; refine ⟨_, rfl, ?_⟩; have HS9 := Aside0.mk (Below.size hb); replace BC := blk_kb BC hb; replace BS := blk_kb BS hb; replace XW := Nkb XW hb; replace BW := blk_kb BW hb; replace XG := Nkb XG hb; replace BG := blk_kb BG hb; replace HB := below_kb HB hb; obtain ⟨hczBG_0, hczBG_1, hczBG_2, hczBG_3, hczBG_4, hczBG_5, hczBG_6, hczBG_7, hczBG_8, hczBG_9, hfzBG_0, hfzBG_1, hfzBG_2, hfzBG_3, hfzBG_4, hfzBG_5, hfzBG_6, hfzBG_7, hfzBG_8, hfzBG_9⟩ := cf10_ BG; (try clear hb); (try clear ho); (try clear hd))
    | ((with_reducible refine gate_dst (N := 26) rfl ?_); refine goe_ (some 26) Try.func33 #[.agg #[.int .i64 r1, .int .i64 r2, .int .i64 r3, .int .i64 r4, .int .i64 r5, .int .i64 r6, .slice AXG l.length cXG, .bool u, .bool d, .bool up], .int .i64 1] ?_; (with_reducible refine (laws_markSessionResult.calls k (Ivn wq7.heap.size wq8.heap.size gBG) _ _ l.length l r1 r2 r3 r4 r5 r6 u d up 1 m1 l4 w _ ?side1 ⟨rfl, HBA.out⟩ ?side2 HMF.out).mono ?_); (case side1 => exact HB.out); (case side2 => exact XG.out); rintro e wq10 ⟨rfl, ⟨hln, hy⟩, hb0, hkp⟩; refine ⟨_, rfl, ?_⟩; have hk := hkp; have HS10 := Aside0.mk hk.1; replace BC := blk_kk BC hk (fun h3 => by have o0_ := HS1.out; have o1_ := HGBC.out; have o2_ := HLBC.out; have o3_ := HS2.out; have o4_ := HGBS.out; have o5_ := HLBS.out; have o6_ := HS4.out; have o7_ := HS5.out; have o8_ := HLBW.out; have o9_ := HGBW.out; have o10_ := HK5.out; have o11_ := HS7.out; have o12_ := HS8.out; have o13_ := HLBG.out; have o14_ := HGBG.out; have o15_ := HK8.out; have o16_ := HS9.out; have h3_ : _ ∧ _ ∧ _ := h3; obtain ⟨h3a_, h3b_, h3c_⟩ := h3_; omega); replace BS := blk_kk BS hk (fun h3 => by have o0_ := HS1.out; have o1_ := HGBC.out; have o2_ := HLBC.out; have o3_ := HS2.out; have o4_ := HGBS.out; have o5_ := HLBS.out; have o6_ := HS4.out; have o7_ := HS5.out; have o8_ := HLBW.out; have o9_ := HGBW.out; have o10_ := HK5.out; have o11_ := HS7.out; have o12_ := HS8.out; have o13_ := HLBG.out; have o14_ := HGBG.out; have o15_ := HK8.out; have o16_ := HS9.out; have h3_ : _ ∧ _ ∧ _ := h3; obtain ⟨h3a_, h3b_, h3c_⟩ := h3_; omega); replace XW := Nkk XW hk (fun k h1 h2 hn h3 => by have o0_ := HS1.out; have o1_ := HGBC.out; have o2_ := HLBC.out; have o3_ := HS2.out; have o4_ := HGBS.out; have o5_ := HLBS.out; have o6_ := HS4.out; have o7_ := HS5.out; have o8_ := HLBW.out; have o9_ := HGBW.out; have o10_ := HK5.out; have o11_ := HS7.out; have o12_ := HS8.out; have o13_ := HLBG.out; have o14_ := HGBG.out; have o15_ := HK8.out; have o16_ := HS9.out; have h3_ : _ ∧ _ ∧ _ := h3; obtain ⟨h3a_, h3b_, h3c_⟩ := h3_; omega); replace BW := blk_kk BW hk (fun h3 => by have o0_ := HS1.out; have o1_ := HGBC.out; have o2_ := HLBC.out; have o3_ := HS2.out; have o4_ := HGBS.out; have o5_ := HLBS.out; have o6_ := HS4.out; have o7_ := HS5.out; have o8_ := HLBW.out; have o9_ := HGBW.out; have o10_ := HK5.out; have o11_ := HS7.out; have o12_ := HS8.out; have o13_ := HLBG.out; have o14_ := HGBG.out; have o15_ := HK8.out; have o16_ := HS9.out; have h3_ : _ ∧ _ ∧ _ := h3; obtain ⟨h3a_, h3b_, h3c_⟩ := h3_; omega); replace BG := blk_kk BG hk (fun h3 => by have o0_ := HS1.out; have o1_ := HGBC.out; have o2_ := HLBC.out; have o3_ := HS2.out; have o4_ := HGBS.out; have o5_ := HLBS.out; have o6_ := HS4.out; have o7_ := HS5.out; have o8_ := HLBW.out; have o9_ := HGBW.out; have o10_ := HK5.out; have o11_ := HS7.out; have o12_ := HS8.out; have o13_ := HLBG.out; have o14_ := HGBG.out; have o15_ := HK8.out; have o16_ := HS9.out; have h3_ : _ ∧ _ ∧ _ := h3; obtain ⟨h3a_, h3b_, h3c_⟩ := h3_; omega); replace XG := Aside0.mk hy; replace HB := Aside0.mk hb0; (try clear hln); obtain ⟨hczBG_0, hczBG_1, hczBG_2, hczBG_3, hczBG_4, hczBG_5, hczBG_6, hczBG_7, hczBG_8, hczBG_9, hfzBG_0, hfzBG_1, hfzBG_2, hfzBG_3, hfzBG_4, hfzBG_5, hfzBG_6, hfzBG_7, hfzBG_8, hfzBG_9⟩ := cf10_ BG; (try clear hk); (try clear hkp); (try clear hb0); (try clear hy))
    | ((with_reducible refine gate_dst (N := 29) rfl ?_); refine goe_ (some 29) Try.func34 #[.agg #[.int .i64 r1, .int .i64 r2, .int .i64 r3, .int .i64 r4, .int .i64 r5, .int .i64 r6, .slice AXG l.length cXG, .bool u, .bool d, .bool up], .int .i64 1] ?_; (with_reducible refine (laws_heldSessionResult.callsn k r1 r2 r3 r4 r5 r6 u d up _ _ l.length l4 1 m1 _ HLN.out ?side1 ?side2 HHE.out).mono ?_); (case side1 => exact (by have h_ := (Kd.S_reads' XG.out).2.2; rw [HLN.out] at h_; exact h_)); (case side2 => exact (by have h_ := Kd.S_reads' XG.out; exact h_.2.1)); rintro e wq11 ⟨rfl, hb⟩; refine ⟨_, rfl, ?_⟩; have HS11 := Aside0.mk (Below.size hb); replace BC := blk_kb BC hb; replace BS := blk_kb BS hb; replace XW := Nkb XW hb; replace BW := blk_kb BW hb; replace XG := Nkb XG hb; replace BG := blk_kb BG hb; replace HB := below_kb HB hb; (try clear hb); (try clear ho); (try clear hd)))
  have hb : Below wq11.heap.size wq11 wq11.drew := below_drew1 (Below.refl _ _)
  have HS13 := Aside0.mk (Below.size hb)
  replace BC := blk_kb BC hb
  replace BS := blk_kb BS hb
  replace XW := Nkb XW hb
  replace BW := blk_kb BW hb
  replace XG := Nkb XG hb
  replace BG := blk_kb BG hb
  replace HB := below_kb HB hb
  clear hb
  refine start_ (n := 7) (S := fun w' => w'.cell? ⟨gBC, 0, none⟩ = some (.int .i64 a) ∧ w'.cell? ⟨gBC, 1, none⟩ = some (.int .i64 i) ∧ w'.cell? ⟨gBC, 2, none⟩ = some (.int .i64 h) ∧ w'.cell? ⟨gBS, 0, none⟩ = some (.int .i64 s0) ∧ w'.cell? ⟨gBS, 1, none⟩ = some (.int .i64 s1) ∧ w'.cell? ⟨gBS, 2, none⟩ = some (.int .i64 s2) ∧ w'.cell? ⟨gBS, 3, none⟩ = some (.int .i64 s3) ∧ w'.cell? ⟨gBS, 4, none⟩ = some (.int .i64 s4)) (ds := [6]) #[false, false, false, false, false, false, false] (by kernel_rfl) rfl rfl ⟨(blk_cell BC.out 0).trans rfl, (blk_cell BC.out 1).trans rfl, (blk_cell BC.out 2).trans rfl, (blk_cell BS.out 0).trans rfl, (blk_cell BS.out 1).trans rfl, (blk_cell BS.out 2).trans rfl, (blk_cell BS.out 3).trans rfl, (blk_cell BS.out 4).trans rfl⟩ (fun hHeld => ?_)
  generalize wq11.drew = wq13 at BC BS XW BW XG BG HB HS13 hHeld ⊢
  refine take_ (i := 0) (N := some 35) (v := ?_) (a' := ?_) #[true, false, false, false, false, false, false] rfl rfl (by kernel_rfl) (fun _ _ _ h => h) (Or.inl ⟨by rfl, ?_⟩) hHeld ?_ ?_
  rotate_left
  · rintro w' ⟨t0, t1, t2, t3, t4, t5, t6, t7⟩
    go_simp
    with_reducible rfl
  rotate_left
  · simp only [Act.put, List.setIfInBounds_toArray, List.set_cons_zero, List.set_cons_succ, i64_w, i32_w]
    rfl
  refine take_ (i := 2) (N := some 37) (v := ?_) (a' := ?_) #[true, false, true, false, false, false, false] rfl rfl (by kernel_rfl) (fun _ _ _ h => h) (Or.inl ⟨by rfl, ?_⟩) hHeld ?_ ?_
  rotate_left
  · rintro w' ⟨t0, t1, t2, t3, t4, t5, t6, t7⟩
    go_simp
    with_reducible rfl
  rotate_left
  · simp only [Act.put, List.setIfInBounds_toArray, List.set_cons_zero, List.set_cons_succ, i64_w, i32_w]
    rfl
  refine join_ (σ := Value × Nat) 1 #[true, true, true, true, true, true, false] (fun s_ => [(36, .agg #[.int .i64 a, .int .i64 i, .int .i64 h]), (38, .agg #[.int .i64 s0, .int .i64 s1, .int .i64 s2, .int .i64 s3, .int .i64 s4]), (39, .agg #[.int .i64 r1, .int .i64 r2, .int .i64 r3, .int .i64 r4, .int .i64 r5, .int .i64 r6, s_.1, .bool u, .bool d, .bool up]), (9, .pointer (some ⟨s_.2, 0, none⟩))]) (fun s_ w' => (Below wq13.heap.size wq13 w') ∧ (wq13.heap.size ≤ s_.2) ∧ (w'.heap[s_.2]? = some (.cells #[.int .i64 0, .int .i64 0, .int .i64 0, .int .i64 0, .int .i64 0, .int .i64 0, .slice none 0 0, .bool false, .bool false, .bool false] 45 (0, 0))) ∧ (Kd.S k136 136 w' wq13.heap.size (fun k_ => k_ ≠ s_.2) s_.1 l)) ?_ ?_
  rotate_left
  · intro hCont
    have HX := Aside0.mk (Below.refl wq13.heap.size wq13)
    have YBC := BC
    have YBS := BS
    clear HB BC BS XW BW XG BG
    refine two_ (i := 1) (j := 5) (Ni := some 36) (Nj := some 9) #[true, true, true, false, false, false, false] #[true, false, true, false, false, true, false] rfl rfl rfl rfl (by kernel_rfl) (by decide) (by decide) (fun K hK => ?_) (fun K hK => ?_)
    · skip
      refine goes_ Try.func29 (by kernel_rfl) rfl #[.agg #[.int .i64 a, .int .i64 i, .int .i64 h]] (by rfl) rfl rfl (by (try simp only [List.map_toArray, List.map_cons, List.map_nil]); first | done | rfl) ?_
      with_reducible refine (laws_toConfig.calls a i h a i h _ HTC.out).mono ?_
      rintro e wy1 ⟨rfl, hb⟩
      refine ⟨_, rfl, ?_⟩
      have hz_ := Aside0.mk (Below.size hb)
      replace HX : Aside0 (Below wq13.heap.size wq13 wy1) := ⟨below_step HX.out hb⟩
      replace YBC := blk_kb YBC hb
      replace YBS := blk_kb YBS hb
      have HY1 := hz_
      clear hz_ hb
      refine hK.out _ _ ⟨(blk_cell YBC.out 0).trans rfl, (blk_cell YBC.out 1).trans rfl, (blk_cell YBC.out 2).trans rfl, (blk_cell YBS.out 0).trans rfl, (blk_cell YBS.out 1).trans rfl, (blk_cell YBS.out 2).trans rfl, (blk_cell YBS.out 3).trans rfl, (blk_cell YBS.out 4).trans rfl⟩ (fun hHeld => ?_)
      clear hK K
      refine norm_ (a' := ?_) ?_ ?_
      rotate_left
      · show Act.put _ (some 36) _ = _
        simp only [Act.put, List.setIfInBounds_toArray, List.set_cons_zero, List.set_cons_succ, i64_w, i32_w]
        rfl
      refine two_ (i := 3) (j := 5) (Ni := some 38) (Nj := some 9) #[true, true, true, true, false, false, false] #[true, true, true, false, false, true, false] rfl rfl rfl rfl (by kernel_rfl) (by decide) (by decide) (fun K hK => ?_) (fun K hK => ?_)
      · skip
        refine goes_ Try.func30 (by kernel_rfl) rfl #[.agg #[.int .i64 s0, .int .i64 s1, .int .i64 s2, .int .i64 s3, .int .i64 s4]] (by rfl) rfl rfl (by (try simp only [List.map_toArray, List.map_cons, List.map_nil]); first | done | rfl) ?_
        with_reducible refine (laws_toSession.calls s0 s1 s2 s3 s4 s0 s1 s2 s3 s4 _ HTS.out).mono ?_
        rintro e wy2 ⟨rfl, hb⟩
        refine ⟨_, rfl, ?_⟩
        have hz_ := Aside0.mk (Below.size hb)
        replace HX : Aside0 (Below wq13.heap.size wq13 wy2) := ⟨below_step HX.out hb⟩
        replace YBC := blk_kb YBC hb
        replace YBS := blk_kb YBS hb
        have HY2 := hz_
        clear hz_ hb
        refine hK.out _ _ ⟨(blk_cell YBC.out 0).trans rfl, (blk_cell YBC.out 1).trans rfl, (blk_cell YBC.out 2).trans rfl, (blk_cell YBS.out 0).trans rfl, (blk_cell YBS.out 1).trans rfl, (blk_cell YBS.out 2).trans rfl, (blk_cell YBS.out 3).trans rfl, (blk_cell YBS.out 4).trans rfl⟩ (fun hHeld => ?_)
        clear hK K
        refine norm_ (a' := ?_) ?_ ?_
        rotate_left
        · show Act.put _ (some 38) _ = _
          simp only [Act.put, List.setIfInBounds_toArray, List.set_cons_zero, List.set_cons_succ, i64_w, i32_w]
          rfl
        refine two_ (i := 4) (j := 5) (Ni := some 39) (Nj := some 9) #[true, true, true, true, true, false, false] #[true, true, true, true, false, true, false] rfl rfl rfl rfl (by kernel_rfl) (by decide) (by decide) (fun K hK => ?_) (fun K hK => ?_)
        · skip
          refine goes_ Try.func44 (by kernel_rfl) rfl #[.agg #[.int .i64 a, .int .i64 i, .int .i64 h], .agg #[.int .i64 s0, .int .i64 s1, .int .i64 s2, .int .i64 s3, .int .i64 s4]] (by rfl) rfl rfl (by (try simp only [List.map_toArray, List.map_cons, List.map_nil]); first | done | rfl) ?_
          with_reducible refine (HIM.out _).mono ?_
          rintro e wy3 ⟨v, rfl, ho, hb⟩
          refine ⟨_, rfl, ?_⟩
          have YR := Siw (base := wq13.heap.size) ho HX.out.size
          have hz_ := Aside0.mk (Below.size hb)
          replace HX : Aside0 (Below wq13.heap.size wq13 wy3) := ⟨below_step HX.out hb⟩
          replace YBC := blk_kb YBC hb
          replace YBS := blk_kb YBS hb
          have HY3 := hz_
          clear hz_ hb ho
          refine hK.out _ _ ⟨(blk_cell YBC.out 0).trans rfl, (blk_cell YBC.out 1).trans rfl, (blk_cell YBC.out 2).trans rfl, (blk_cell YBS.out 0).trans rfl, (blk_cell YBS.out 1).trans rfl, (blk_cell YBS.out 2).trans rfl, (blk_cell YBS.out 3).trans rfl, (blk_cell YBS.out 4).trans rfl⟩ (fun hHeld => ?_)
          clear hK K
          refine norm_ (a' := ?_) ?_ ?_
          rotate_left
          · show Act.put _ (some 39) _ = _
            simp only [Act.put, List.setIfInBounds_toArray, List.set_cons_zero, List.set_cons_succ, i64_w, i32_w]
            rfl
          refine one_ (i := 5) (N := some 9) #[true, true, true, true, true, true, false] rfl rfl (by kernel_rfl) (by decide) (fun K hK => ?_)
          refine box_step ?hg (N := 9) ?hd (cs := #[.int .i64 0, .int .i64 0, .int .i64 0, .int .i64 0, .int .i64 0, .int .i64 0, .slice none 0 0, .bool false, .bool false, .bool false]) (t := 45) ?hr ?_
          (case hd => rfl)
          (case hg => rfl)
          (case hr => first | (go_simp; done) | (go_simp; rfl))
          intro gy hg wy4 hbox hb
          have YG := Aside0.mk hg
          have YL := Aside0.mk (blk_lt hbox)
          have YE : Aside0 (wq13.heap.size ≤ gy) := ⟨by rw [hg]; exact HX.out.size⟩
          have hz_ := Aside0.mk (Below.size hb)
          replace HX : Aside0 (Below wq13.heap.size wq13 wy4) := ⟨below_step HX.out hb⟩
          replace YBC := blk_kb YBC hb
          replace YBS := blk_kb YBS hb
          replace YR := Skb_iv YR hb
          have YZ := Aside0.mk hbox
          have HY4 := hz_
          clear hz_ hb hbox hg
          refine hK.out _ _ ⟨(blk_cell YBC.out 0).trans rfl, (blk_cell YBC.out 1).trans rfl, (blk_cell YBC.out 2).trans rfl, (blk_cell YBS.out 0).trans rfl, (blk_cell YBS.out 1).trans rfl, (blk_cell YBS.out 2).trans rfl, (blk_cell YBS.out 3).trans rfl, (blk_cell YBS.out 4).trans rfl⟩ (fun hHeld => ?_)
          clear hK K
          refine norm_ (a' := ?_) ?_ ?_
          rotate_left
          · show Act.put _ (some 9) _ = _
            simp only [Act.put, List.setIfInBounds_toArray, List.set_cons_zero, List.set_cons_succ, i64_w, i32_w]
            rfl
          exact norm_ (by simp only [putAll, Act.put, List.setIfInBounds_toArray, List.set_cons_zero, List.set_cons_succ]) (hCont (_, gy) _ ⟨HX.out, YE.out, YZ.out, Kd.S_mono YR.out (fun k_ hk_ => by have hk2_ : _ ∧ _ := hk_; have hg_ := YG.out; have o0_ := HY1.out; have o1_ := HY2.out; have o2_ := HY3.out; have o3_ := HY4.out; omega)⟩)
        · skip
          refine box_step ?hg (N := 9) ?hd (cs := #[.int .i64 0, .int .i64 0, .int .i64 0, .int .i64 0, .int .i64 0, .int .i64 0, .slice none 0 0, .bool false, .bool false, .bool false]) (t := 45) ?hr ?_
          (case hd => rfl)
          (case hg => rfl)
          (case hr => first | (go_simp; done) | (go_simp; rfl))
          intro gy hg wy5 hbox hb
          have YG := Aside0.mk hg
          have YL := Aside0.mk (blk_lt hbox)
          have YE : Aside0 (wq13.heap.size ≤ gy) := ⟨by rw [hg]; exact HX.out.size⟩
          have hz_ := Aside0.mk (Below.size hb)
          replace HX : Aside0 (Below wq13.heap.size wq13 wy5) := ⟨below_step HX.out hb⟩
          replace YBC := blk_kb YBC hb
          replace YBS := blk_kb YBS hb
          have YZ := Aside0.mk hbox
          have HY5 := hz_
          clear hz_ hb hbox hg
          refine hK.out _ _ ⟨(blk_cell YBC.out 0).trans rfl, (blk_cell YBC.out 1).trans rfl, (blk_cell YBC.out 2).trans rfl, (blk_cell YBS.out 0).trans rfl, (blk_cell YBS.out 1).trans rfl, (blk_cell YBS.out 2).trans rfl, (blk_cell YBS.out 3).trans rfl, (blk_cell YBS.out 4).trans rfl⟩ (fun hHeld => ?_)
          clear hK K
          refine norm_ (a' := ?_) ?_ ?_
          rotate_left
          · show Act.put _ (some 9) _ = _
            simp only [Act.put, List.setIfInBounds_toArray, List.set_cons_zero, List.set_cons_succ, i64_w, i32_w]
            rfl
          refine one_ (i := 4) (N := some 39) #[true, true, true, true, true, true, false] rfl rfl (by kernel_rfl) (by decide) (fun K hK => ?_)
          refine goes_ Try.func44 (by kernel_rfl) rfl #[.agg #[.int .i64 a, .int .i64 i, .int .i64 h], .agg #[.int .i64 s0, .int .i64 s1, .int .i64 s2, .int .i64 s3, .int .i64 s4]] (by rfl) rfl rfl (by (try simp only [List.map_toArray, List.map_cons, List.map_nil]); first | done | rfl) ?_
          with_reducible refine (HIM.out _).mono ?_
          rintro e wy6 ⟨v, rfl, ho, hb⟩
          refine ⟨_, rfl, ?_⟩
          have YR := Siw (base := wq13.heap.size) ho HX.out.size
          have hz_ := Aside0.mk (Below.size hb)
          replace HX : Aside0 (Below wq13.heap.size wq13 wy6) := ⟨below_step HX.out hb⟩
          replace YBC := blk_kb YBC hb
          replace YBS := blk_kb YBS hb
          replace YZ := blk_kb YZ hb
          have HY6 := hz_
          clear hz_ hb ho
          refine hK.out _ _ ⟨(blk_cell YBC.out 0).trans rfl, (blk_cell YBC.out 1).trans rfl, (blk_cell YBC.out 2).trans rfl, (blk_cell YBS.out 0).trans rfl, (blk_cell YBS.out 1).trans rfl, (blk_cell YBS.out 2).trans rfl, (blk_cell YBS.out 3).trans rfl, (blk_cell YBS.out 4).trans rfl⟩ (fun hHeld => ?_)
          clear hK K
          refine norm_ (a' := ?_) ?_ ?_
          rotate_left
          · show Act.put _ (some 39) _ = _
            simp only [Act.put, List.setIfInBounds_toArray, List.set_cons_zero, List.set_cons_succ, i64_w, i32_w]
            rfl
          exact norm_ (by simp only [putAll, Act.put, List.setIfInBounds_toArray, List.set_cons_zero, List.set_cons_succ]) (hCont (_, gy) _ ⟨HX.out, YE.out, YZ.out, Kd.S_mono YR.out (fun k_ hk_ => by have hk2_ : _ ∧ _ := hk_; have hl_ := YL.out; have o0_ := HY1.out; have o1_ := HY2.out; have o2_ := HY5.out; have o3_ := HY6.out; omega)⟩)
      · skip
        refine box_step ?hg (N := 9) ?hd (cs := #[.int .i64 0, .int .i64 0, .int .i64 0, .int .i64 0, .int .i64 0, .int .i64 0, .slice none 0 0, .bool false, .bool false, .bool false]) (t := 45) ?hr ?_
        (case hd => rfl)
        (case hg => rfl)
        (case hr => first | (go_simp; done) | (go_simp; rfl))
        intro gy hg wy7 hbox hb
        have YG := Aside0.mk hg
        have YL := Aside0.mk (blk_lt hbox)
        have YE : Aside0 (wq13.heap.size ≤ gy) := ⟨by rw [hg]; exact HX.out.size⟩
        have hz_ := Aside0.mk (Below.size hb)
        replace HX : Aside0 (Below wq13.heap.size wq13 wy7) := ⟨below_step HX.out hb⟩
        replace YBC := blk_kb YBC hb
        replace YBS := blk_kb YBS hb
        have YZ := Aside0.mk hbox
        have HY7 := hz_
        clear hz_ hb hbox hg
        refine hK.out _ _ ⟨(blk_cell YBC.out 0).trans rfl, (blk_cell YBC.out 1).trans rfl, (blk_cell YBC.out 2).trans rfl, (blk_cell YBS.out 0).trans rfl, (blk_cell YBS.out 1).trans rfl, (blk_cell YBS.out 2).trans rfl, (blk_cell YBS.out 3).trans rfl, (blk_cell YBS.out 4).trans rfl⟩ (fun hHeld => ?_)
        clear hK K
        refine norm_ (a' := ?_) ?_ ?_
        rotate_left
        · show Act.put _ (some 9) _ = _
          simp only [Act.put, List.setIfInBounds_toArray, List.set_cons_zero, List.set_cons_succ, i64_w, i32_w]
          rfl
        refine one_ (i := 3) (N := some 38) #[true, true, true, true, false, true, false] rfl rfl (by kernel_rfl) (by decide) (fun K hK => ?_)
        refine goes_ Try.func30 (by kernel_rfl) rfl #[.agg #[.int .i64 s0, .int .i64 s1, .int .i64 s2, .int .i64 s3, .int .i64 s4]] (by rfl) rfl rfl (by (try simp only [List.map_toArray, List.map_cons, List.map_nil]); first | done | rfl) ?_
        with_reducible refine (laws_toSession.calls s0 s1 s2 s3 s4 s0 s1 s2 s3 s4 _ HTS.out).mono ?_
        rintro e wy8 ⟨rfl, hb⟩
        refine ⟨_, rfl, ?_⟩
        have hz_ := Aside0.mk (Below.size hb)
        replace HX : Aside0 (Below wq13.heap.size wq13 wy8) := ⟨below_step HX.out hb⟩
        replace YBC := blk_kb YBC hb
        replace YBS := blk_kb YBS hb
        replace YZ := blk_kb YZ hb
        have HY8 := hz_
        clear hz_ hb
        refine hK.out _ _ ⟨(blk_cell YBC.out 0).trans rfl, (blk_cell YBC.out 1).trans rfl, (blk_cell YBC.out 2).trans rfl, (blk_cell YBS.out 0).trans rfl, (blk_cell YBS.out 1).trans rfl, (blk_cell YBS.out 2).trans rfl, (blk_cell YBS.out 3).trans rfl, (blk_cell YBS.out 4).trans rfl⟩ (fun hHeld => ?_)
        clear hK K
        refine norm_ (a' := ?_) ?_ ?_
        rotate_left
        · show Act.put _ (some 38) _ = _
          simp only [Act.put, List.setIfInBounds_toArray, List.set_cons_zero, List.set_cons_succ, i64_w, i32_w]
          rfl
        refine one_ (i := 4) (N := some 39) #[true, true, true, true, true, true, false] rfl rfl (by kernel_rfl) (by decide) (fun K hK => ?_)
        refine goes_ Try.func44 (by kernel_rfl) rfl #[.agg #[.int .i64 a, .int .i64 i, .int .i64 h], .agg #[.int .i64 s0, .int .i64 s1, .int .i64 s2, .int .i64 s3, .int .i64 s4]] (by rfl) rfl rfl (by (try simp only [List.map_toArray, List.map_cons, List.map_nil]); first | done | rfl) ?_
        with_reducible refine (HIM.out _).mono ?_
        rintro e wy9 ⟨v, rfl, ho, hb⟩
        refine ⟨_, rfl, ?_⟩
        have YR := Siw (base := wq13.heap.size) ho HX.out.size
        have hz_ := Aside0.mk (Below.size hb)
        replace HX : Aside0 (Below wq13.heap.size wq13 wy9) := ⟨below_step HX.out hb⟩
        replace YBC := blk_kb YBC hb
        replace YBS := blk_kb YBS hb
        replace YZ := blk_kb YZ hb
        have HY9 := hz_
        clear hz_ hb ho
        refine hK.out _ _ ⟨(blk_cell YBC.out 0).trans rfl, (blk_cell YBC.out 1).trans rfl, (blk_cell YBC.out 2).trans rfl, (blk_cell YBS.out 0).trans rfl, (blk_cell YBS.out 1).trans rfl, (blk_cell YBS.out 2).trans rfl, (blk_cell YBS.out 3).trans rfl, (blk_cell YBS.out 4).trans rfl⟩ (fun hHeld => ?_)
        clear hK K
        refine norm_ (a' := ?_) ?_ ?_
        rotate_left
        · show Act.put _ (some 39) _ = _
          simp only [Act.put, List.setIfInBounds_toArray, List.set_cons_zero, List.set_cons_succ, i64_w, i32_w]
          rfl
        exact norm_ (by simp only [putAll, Act.put, List.setIfInBounds_toArray, List.set_cons_zero, List.set_cons_succ]) (hCont (_, gy) _ ⟨HX.out, YE.out, YZ.out, Kd.S_mono YR.out (fun k_ hk_ => by have hk2_ : _ ∧ _ := hk_; have hl_ := YL.out; have o0_ := HY1.out; have o1_ := HY7.out; have o2_ := HY8.out; have o3_ := HY9.out; omega)⟩)
    · skip
      refine box_step ?hg (N := 9) ?hd (cs := #[.int .i64 0, .int .i64 0, .int .i64 0, .int .i64 0, .int .i64 0, .int .i64 0, .slice none 0 0, .bool false, .bool false, .bool false]) (t := 45) ?hr ?_
      (case hd => rfl)
      (case hg => rfl)
      (case hr => first | (go_simp; done) | (go_simp; rfl))
      intro gy hg wy10 hbox hb
      have YG := Aside0.mk hg
      have YL := Aside0.mk (blk_lt hbox)
      have YE : Aside0 (wq13.heap.size ≤ gy) := ⟨by rw [hg]; exact HX.out.size⟩
      have hz_ := Aside0.mk (Below.size hb)
      replace HX : Aside0 (Below wq13.heap.size wq13 wy10) := ⟨below_step HX.out hb⟩
      replace YBC := blk_kb YBC hb
      replace YBS := blk_kb YBS hb
      have YZ := Aside0.mk hbox
      have HY10 := hz_
      clear hz_ hb hbox hg
      refine hK.out _ _ ⟨(blk_cell YBC.out 0).trans rfl, (blk_cell YBC.out 1).trans rfl, (blk_cell YBC.out 2).trans rfl, (blk_cell YBS.out 0).trans rfl, (blk_cell YBS.out 1).trans rfl, (blk_cell YBS.out 2).trans rfl, (blk_cell YBS.out 3).trans rfl, (blk_cell YBS.out 4).trans rfl⟩ (fun hHeld => ?_)
      clear hK K
      refine norm_ (a' := ?_) ?_ ?_
      rotate_left
      · show Act.put _ (some 9) _ = _
        simp only [Act.put, List.setIfInBounds_toArray, List.set_cons_zero, List.set_cons_succ, i64_w, i32_w]
        rfl
      refine one_ (i := 1) (N := some 36) #[true, true, true, false, false, true, false] rfl rfl (by kernel_rfl) (by decide) (fun K hK => ?_)
      refine goes_ Try.func29 (by kernel_rfl) rfl #[.agg #[.int .i64 a, .int .i64 i, .int .i64 h]] (by rfl) rfl rfl (by (try simp only [List.map_toArray, List.map_cons, List.map_nil]); first | done | rfl) ?_
      with_reducible refine (laws_toConfig.calls a i h a i h _ HTC.out).mono ?_
      rintro e wy11 ⟨rfl, hb⟩
      refine ⟨_, rfl, ?_⟩
      have hz_ := Aside0.mk (Below.size hb)
      replace HX : Aside0 (Below wq13.heap.size wq13 wy11) := ⟨below_step HX.out hb⟩
      replace YBC := blk_kb YBC hb
      replace YBS := blk_kb YBS hb
      replace YZ := blk_kb YZ hb
      have HY11 := hz_
      clear hz_ hb
      refine hK.out _ _ ⟨(blk_cell YBC.out 0).trans rfl, (blk_cell YBC.out 1).trans rfl, (blk_cell YBC.out 2).trans rfl, (blk_cell YBS.out 0).trans rfl, (blk_cell YBS.out 1).trans rfl, (blk_cell YBS.out 2).trans rfl, (blk_cell YBS.out 3).trans rfl, (blk_cell YBS.out 4).trans rfl⟩ (fun hHeld => ?_)
      clear hK K
      refine norm_ (a' := ?_) ?_ ?_
      rotate_left
      · show Act.put _ (some 36) _ = _
        simp only [Act.put, List.setIfInBounds_toArray, List.set_cons_zero, List.set_cons_succ, i64_w, i32_w]
        rfl
      refine one_ (i := 3) (N := some 38) #[true, true, true, true, false, true, false] rfl rfl (by kernel_rfl) (by decide) (fun K hK => ?_)
      refine goes_ Try.func30 (by kernel_rfl) rfl #[.agg #[.int .i64 s0, .int .i64 s1, .int .i64 s2, .int .i64 s3, .int .i64 s4]] (by rfl) rfl rfl (by (try simp only [List.map_toArray, List.map_cons, List.map_nil]); first | done | rfl) ?_
      with_reducible refine (laws_toSession.calls s0 s1 s2 s3 s4 s0 s1 s2 s3 s4 _ HTS.out).mono ?_
      rintro e wy12 ⟨rfl, hb⟩
      refine ⟨_, rfl, ?_⟩
      have hz_ := Aside0.mk (Below.size hb)
      replace HX : Aside0 (Below wq13.heap.size wq13 wy12) := ⟨below_step HX.out hb⟩
      replace YBC := blk_kb YBC hb
      replace YBS := blk_kb YBS hb
      replace YZ := blk_kb YZ hb
      have HY12 := hz_
      clear hz_ hb
      refine hK.out _ _ ⟨(blk_cell YBC.out 0).trans rfl, (blk_cell YBC.out 1).trans rfl, (blk_cell YBC.out 2).trans rfl, (blk_cell YBS.out 0).trans rfl, (blk_cell YBS.out 1).trans rfl, (blk_cell YBS.out 2).trans rfl, (blk_cell YBS.out 3).trans rfl, (blk_cell YBS.out 4).trans rfl⟩ (fun hHeld => ?_)
      clear hK K
      refine norm_ (a' := ?_) ?_ ?_
      rotate_left
      · show Act.put _ (some 38) _ = _
        simp only [Act.put, List.setIfInBounds_toArray, List.set_cons_zero, List.set_cons_succ, i64_w, i32_w]
        rfl
      refine one_ (i := 4) (N := some 39) #[true, true, true, true, true, true, false] rfl rfl (by kernel_rfl) (by decide) (fun K hK => ?_)
      refine goes_ Try.func44 (by kernel_rfl) rfl #[.agg #[.int .i64 a, .int .i64 i, .int .i64 h], .agg #[.int .i64 s0, .int .i64 s1, .int .i64 s2, .int .i64 s3, .int .i64 s4]] (by rfl) rfl rfl (by (try simp only [List.map_toArray, List.map_cons, List.map_nil]); first | done | rfl) ?_
      with_reducible refine (HIM.out _).mono ?_
      rintro e wy13 ⟨v, rfl, ho, hb⟩
      refine ⟨_, rfl, ?_⟩
      have YR := Siw (base := wq13.heap.size) ho HX.out.size
      have hz_ := Aside0.mk (Below.size hb)
      replace HX : Aside0 (Below wq13.heap.size wq13 wy13) := ⟨below_step HX.out hb⟩
      replace YBC := blk_kb YBC hb
      replace YBS := blk_kb YBS hb
      replace YZ := blk_kb YZ hb
      have HY13 := hz_
      clear hz_ hb ho
      refine hK.out _ _ ⟨(blk_cell YBC.out 0).trans rfl, (blk_cell YBC.out 1).trans rfl, (blk_cell YBC.out 2).trans rfl, (blk_cell YBS.out 0).trans rfl, (blk_cell YBS.out 1).trans rfl, (blk_cell YBS.out 2).trans rfl, (blk_cell YBS.out 3).trans rfl, (blk_cell YBS.out 4).trans rfl⟩ (fun hHeld => ?_)
      clear hK K
      refine norm_ (a' := ?_) ?_ ?_
      rotate_left
      · show Act.put _ (some 39) _ = _
        simp only [Act.put, List.setIfInBounds_toArray, List.set_cons_zero, List.set_cons_succ, i64_w, i32_w]
        rfl
      exact norm_ (by simp only [putAll, Act.put, List.setIfInBounds_toArray, List.set_cons_zero, List.set_cons_succ]) (hCont (_, gy) _ ⟨HX.out, YE.out, YZ.out, Kd.S_mono YR.out (fun k_ hk_ => by have hk2_ : _ ∧ _ := hk_; have hl_ := YL.out; have o0_ := HY10.out; have o1_ := HY11.out; have o2_ := HY12.out; have o3_ := HY13.out; omega)⟩)
  rintro ⟨v, gBH⟩ wq14 ⟨hb, hge, hbx, ho⟩
  have HLBH := Aside0.mk (blk_lt hbx)
  have HGBH := Aside0.mk hge
  have HEBH : Aside0 (w.heap.size ≤ gBH) := ⟨Nat.le_trans HB.out.size hge⟩
  have XH := Nin ho HB.out.size
  have HS14 := Aside0.mk (Below.size hb)
  replace BC := blk_kb BC hb
  replace BS := blk_kb BS hb
  replace XW := Nkb XW hb
  replace BW := blk_kb BW hb
  replace XG := Nkb XG hb
  replace BG := blk_kb BG hb
  replace HB := below_kb HB hb
  have BH := Aside0.mk hbx
  clear hb hge hbx ho
  obtain ⟨AXH, cXH, rfl⟩ := Kd.S_slice XH.out
  refine norm_ (a' := ?_) ?_ ?_
  rotate_left
  · simp only [putAll, Act.put, List.setIfInBounds_toArray, List.set_cons_zero, List.set_cons_succ]
    rfl
  refine last_ (i := 6) (N := none) #[true, true, true, true, true, true, true] rfl rfl (by kernel_rfl) (by decide) (fun K hK => ?_)
  obtain ⟨hczBH_0, hczBH_1, hczBH_2, hczBH_3, hczBH_4, hczBH_5, hczBH_6, hczBH_7, hczBH_8, hczBH_9, hfzBH_0, hfzBH_1, hfzBH_2, hfzBH_3, hfzBH_4, hfzBH_5, hfzBH_6, hfzBH_7, hfzBH_8, hfzBH_9⟩ := cf10_ BH
  refine skip_ (w1 := wq14.setCells gBH 0 [.int .i64 r1, .int .i64 r2, .int .i64 r3, .int .i64 r4, .int .i64 r5, .int .i64 r6, .slice AXH l.length cXH, .bool u, .bool d, .bool up]) ?_ ?_ ?_ ?_
  · first | kernel_rfl | rfl
  · rfl
  · first | (go_simp; done) | (go_simp; rfl)
  refine hK.out _ _ ?_
  clear hK K
  refine done_ (by kernel_rfl) ?_
  clear hczBH_0 hfzBH_0 hczBH_1 hfzBH_1 hczBH_2 hfzBH_2 hczBH_3 hfzBH_3 hczBH_4 hfzBH_4 hczBH_5 hfzBH_5 hczBH_6 hfzBH_6 hczBH_7 hfzBH_7 hczBH_8 hfzBH_8 hczBH_9 hfzBH_9
  generalize hw : wq14.setCells gBH 0 [.int .i64 r1, .int .i64 r2, .int .i64 r3, .int .i64 r4, .int .i64 r5, .int .i64 r6, .slice AXH l.length cXH, .bool u, .bool d, .bool up] = wn14
  have hk : Kept wq14 wn14 (fun k => k = gBH) := (by rw [← hw]; exact puts_kept [.int .i64 r1, .int .i64 r2, .int .i64 r3, .int .i64 r4, .int .i64 r5, .int .i64 r6, .slice AXH l.length cXH, .bool u, .bool d, .bool up] 0 _ _ (Kept.refl _ _))
  have hp_ := (show Aside0 (wn14.heap[gBH]? = some (.cells #[.int .i64 r1, .int .i64 r2, .int .i64 r3, .int .i64 r4, .int .i64 r5, .int .i64 r6, .slice AXH l.length cXH, .bool u, .bool d, .bool up] 45 (0, 0))) from by rw [← hw]; exact puts_blk BH [.int .i64 r1, .int .i64 r2, .int .i64 r3, .int .i64 r4, .int .i64 r5, .int .i64 r6, .slice AXH l.length cXH, .bool u, .bool d, .bool up] rfl)
  replace HB : Aside0 (Below w.heap.size w wn14) := ⟨by rw [← hw]; exact puts_below HEBH.out [.int .i64 r1, .int .i64 r2, .int .i64 r3, .int .i64 r4, .int .i64 r5, .int .i64 r6, .slice AXH l.length cXH, .bool u, .bool d, .bool up] 0 _ HB.out⟩
  have HK14 := Aside0.mk hk.1
  replace BC := blk_kk BC hk (fun h3 => by have o0_ := HS1.out; have o1_ := HGBC.out; have o2_ := HLBC.out; have o3_ := HS2.out; have o4_ := HGBS.out; have o5_ := HLBS.out; have o6_ := HS4.out; have o7_ := HS5.out; have o8_ := HLBW.out; have o9_ := HGBW.out; have o10_ := HK5.out; have o11_ := HS7.out; have o12_ := HS8.out; have o13_ := HLBG.out; have o14_ := HGBG.out; have o15_ := HK8.out; have o16_ := HS9.out; have o17_ := HS10.out; have o18_ := HS11.out; have o19_ := HS13.out; have o20_ := HS14.out; have o21_ := HLBH.out; have o22_ := HGBH.out; have h3_ := h3; omega)
  replace BS := blk_kk BS hk (fun h3 => by have o0_ := HS1.out; have o1_ := HGBC.out; have o2_ := HLBC.out; have o3_ := HS2.out; have o4_ := HGBS.out; have o5_ := HLBS.out; have o6_ := HS4.out; have o7_ := HS5.out; have o8_ := HLBW.out; have o9_ := HGBW.out; have o10_ := HK5.out; have o11_ := HS7.out; have o12_ := HS8.out; have o13_ := HLBG.out; have o14_ := HGBG.out; have o15_ := HK8.out; have o16_ := HS9.out; have o17_ := HS10.out; have o18_ := HS11.out; have o19_ := HS13.out; have o20_ := HS14.out; have o21_ := HLBH.out; have o22_ := HGBH.out; have h3_ := h3; omega)
  replace XW := Nkk XW hk (fun k h1 h2 hn h3 => by have o0_ := HS1.out; have o1_ := HGBC.out; have o2_ := HLBC.out; have o3_ := HS2.out; have o4_ := HGBS.out; have o5_ := HLBS.out; have o6_ := HS4.out; have o7_ := HS5.out; have o8_ := HLBW.out; have o9_ := HGBW.out; have o10_ := HK5.out; have o11_ := HS7.out; have o12_ := HS8.out; have o13_ := HLBG.out; have o14_ := HGBG.out; have o15_ := HK8.out; have o16_ := HS9.out; have o17_ := HS10.out; have o18_ := HS11.out; have o19_ := HS13.out; have o20_ := HS14.out; have o21_ := HLBH.out; have o22_ := HGBH.out; have h3_ := h3; omega)
  replace BW := blk_kk BW hk (fun h3 => by have o0_ := HS1.out; have o1_ := HGBC.out; have o2_ := HLBC.out; have o3_ := HS2.out; have o4_ := HGBS.out; have o5_ := HLBS.out; have o6_ := HS4.out; have o7_ := HS5.out; have o8_ := HLBW.out; have o9_ := HGBW.out; have o10_ := HK5.out; have o11_ := HS7.out; have o12_ := HS8.out; have o13_ := HLBG.out; have o14_ := HGBG.out; have o15_ := HK8.out; have o16_ := HS9.out; have o17_ := HS10.out; have o18_ := HS11.out; have o19_ := HS13.out; have o20_ := HS14.out; have o21_ := HLBH.out; have o22_ := HGBH.out; have h3_ := h3; omega)
  replace XG := Nkk XG hk (fun k h1 h2 hn h3 => by have o0_ := HS1.out; have o1_ := HGBC.out; have o2_ := HLBC.out; have o3_ := HS2.out; have o4_ := HGBS.out; have o5_ := HLBS.out; have o6_ := HS4.out; have o7_ := HS5.out; have o8_ := HLBW.out; have o9_ := HGBW.out; have o10_ := HK5.out; have o11_ := HS7.out; have o12_ := HS8.out; have o13_ := HLBG.out; have o14_ := HGBG.out; have o15_ := HK8.out; have o16_ := HS9.out; have o17_ := HS10.out; have o18_ := HS11.out; have o19_ := HS13.out; have o20_ := HS14.out; have o21_ := HLBH.out; have o22_ := HGBH.out; have h3_ := h3; omega)
  replace BG := blk_kk BG hk (fun h3 => by have o0_ := HS1.out; have o1_ := HGBC.out; have o2_ := HLBC.out; have o3_ := HS2.out; have o4_ := HGBS.out; have o5_ := HLBS.out; have o6_ := HS4.out; have o7_ := HS5.out; have o8_ := HLBW.out; have o9_ := HGBW.out; have o10_ := HK5.out; have o11_ := HS7.out; have o12_ := HS8.out; have o13_ := HLBG.out; have o14_ := HGBG.out; have o15_ := HK8.out; have o16_ := HS9.out; have o17_ := HS10.out; have o18_ := HS11.out; have o19_ := HS13.out; have o20_ := HS14.out; have o21_ := HLBH.out; have o22_ := HGBH.out; have h3_ := h3; omega)
  replace XH := Nkk XH hk (fun k h1 h2 hn h3 => by have o0_ := HS1.out; have o1_ := HGBC.out; have o2_ := HLBC.out; have o3_ := HS2.out; have o4_ := HGBS.out; have o5_ := HLBS.out; have o6_ := HS4.out; have o7_ := HS5.out; have o8_ := HLBW.out; have o9_ := HGBW.out; have o10_ := HK5.out; have o11_ := HS7.out; have o12_ := HS8.out; have o13_ := HLBG.out; have o14_ := HGBG.out; have o15_ := HK8.out; have o16_ := HS9.out; have o17_ := HS10.out; have o18_ := HS11.out; have o19_ := HS13.out; have o20_ := HS14.out; have o21_ := HLBH.out; have o22_ := HGBH.out; have h3_ := h3; omega)
  replace BH := hp_
  clear hw hk
  obtain ⟨hczBH_0, hczBH_1, hczBH_2, hczBH_3, hczBH_4, hczBH_5, hczBH_6, hczBH_7, hczBH_8, hczBH_9, hfzBH_0, hfzBH_1, hfzBH_2, hfzBH_3, hfzBH_4, hfzBH_5, hfzBH_6, hfzBH_7, hfzBH_8, hfzBH_9⟩ := cf10_ BH
  obtain ⟨hczBW_0, hczBW_1, hczBW_2, hczBW_3, hczBW_4, hczBW_5, hczBW_6, hczBW_7, hczBW_8, hczBW_9, hfzBW_0, hfzBW_1, hfzBW_2, hfzBW_3, hfzBW_4, hfzBW_5, hfzBW_6, hfzBW_7, hfzBW_8, hfzBW_9⟩ := cf10_ BW
  go_wp2_with (first
    | ((with_reducible refine gate_dst (N := 42) rfl ?_); refine goe_ (some 42) Try.func32 #[.agg #[.int .i64 r1, .int .i64 r2, .int .i64 r3, .int .i64 r4, .int .i64 r5, .int .i64 r6, .slice AXH l.length cXH, .bool u, .bool d, .bool up], .agg #[.int .i64 r1, .int .i64 r2, .int .i64 r3, .int .i64 r4, .int .i64 r5, .int .i64 r6, .slice AXW l.length cXW, .bool u, .bool d, .bool up]] ?_; (with_reducible refine (laws_eqSessionResult.calls k r1 r2 r3 r4 r5 r6 _ _ l u d up r1 r2 r3 r4 r5 r6 _ _ l u d up true _ ?side1 ?side2 ?side3 ?side4 HEQ.out).mono ?_); (case side1 => exact (Kd.S_reads' XH.out).2.2); (case side2 => exact (Kd.S_reads' XH.out).2.1); (case side3 => exact (Kd.S_reads' XW.out).2.2); (case side4 => exact (Kd.S_reads' XW.out).2.1); rintro e wq15 ⟨rfl, hb⟩; refine ⟨_, rfl, ?_⟩; have HS15 := Aside0.mk (Below.size hb); replace BC := blk_kb BC hb; replace BS := blk_kb BS hb; replace XW := Nkb XW hb; replace BW := blk_kb BW hb; replace XG := Nkb XG hb; replace BG := blk_kb BG hb; replace XH := Nkb XH hb; replace BH := blk_kb BH hb; replace HB := below_kb HB hb; obtain ⟨hczBG_0, hczBG_1, hczBG_2, hczBG_3, hczBG_4, hczBG_5, hczBG_6, hczBG_7, hczBG_8, hczBG_9, hfzBG_0, hfzBG_1, hfzBG_2, hfzBG_3, hfzBG_4, hfzBG_5, hfzBG_6, hfzBG_7, hfzBG_8, hfzBG_9⟩ := cf10_ BG; (try clear hb); (try clear ho); (try clear hd))
    | ((with_reducible refine gate_dst (N := 46) rfl ?_); refine goe_ (some 46) Try.func34 #[.agg #[.int .i64 r1, .int .i64 r2, .int .i64 r3, .int .i64 r4, .int .i64 r5, .int .i64 r6, .slice AXG l.length cXG, .bool u, .bool d, .bool up], .int .i64 1] ?_; (with_reducible refine (laws_heldSessionResult.callsn k r1 r2 r3 r4 r5 r6 u d up _ _ l.length l4 1 m1 _ HLN.out ?side1 ?side2 HHE.out).mono ?_); (case side1 => exact (by have h_ := (Kd.S_reads' XG.out).2.2; rw [HLN.out] at h_; exact h_)); (case side2 => exact (by have h_ := Kd.S_reads' XG.out; exact h_.2.1)); rintro e wq16 ⟨rfl, hb⟩; refine ⟨_, rfl, ?_⟩; have HS16 := Aside0.mk (Below.size hb); replace BC := blk_kb BC hb; replace BS := blk_kb BS hb; replace XW := Nkb XW hb; replace BW := blk_kb BW hb; replace XG := Nkb XG hb; replace BG := blk_kb BG hb; replace XH := Nkb XH hb; replace BH := blk_kb BH hb; replace HB := below_kb HB hb; (try clear hb); (try clear ho); (try clear hd)))
  go_ret
  exact ⟨er_, HB.out⟩
theorem markM_nil (k : Nat) : laws_markMessageS.f (k + 2) [] 1 = some (1, []) := rfl
theorem markM_one (k : Nat) (x : S136) : laws_markMessageS.f (k + 2) [x] 1 = some (12, [markMsg 1]) := by kernel_rfl
theorem heldM_nil (k : Nat) : laws_heldMessageS.f (k + 2) [] 1 = some 1 := rfl
theorem heldM_one (k : Nat) : laws_heldMessageS.f (k + 2) [markMsg 1] 1 = some 12 := by kernel_rfl
theorem eqM_nil (k : Nat) : laws_eqMessageS.f (k + 2) [] [] = some true := rfl
theorem eqM_one (k : Nat) (m0 m1 m2 m3 m4 m5 : Int) : laws_eqMessageS.f (k + 2) [msgOf m0 m1 m2 m3 m4 m5] [msgOf m0 m1 m2 m3 m4 m5] = some true := by
  have e : rd_T136 [msgOf m0 m1 m2 m3 m4 m5] 0 = msgOf m0 m1 m2 m3 m4 m5 := rfl
  have eu : laws_eqUpdate.f (k + 1) (msgOf m0 m1 m2 m3 m4 m5).f6.f0 (msgOf m0 m1 m2 m3 m4 m5).f6.f1 (msgOf m0 m1 m2 m3 m4 m5).f6.f2.f0 (msgOf m0 m1 m2 m3 m4 m5).f6.f2.f1 (msgOf m0 m1 m2 m3 m4 m5).f6.f2.f2 (msgOf m0 m1 m2 m3 m4 m5).f6.f2.f3 (msgOf m0 m1 m2 m3 m4 m5).f6.f2.f4 (msgOf m0 m1 m2 m3 m4 m5).f6.f3 (msgOf m0 m1 m2 m3 m4 m5).f6.f0 (msgOf m0 m1 m2 m3 m4 m5).f6.f1 (msgOf m0 m1 m2 m3 m4 m5).f6.f2.f0 (msgOf m0 m1 m2 m3 m4 m5).f6.f2.f1 (msgOf m0 m1 m2 m3 m4 m5).f6.f2.f2 (msgOf m0 m1 m2 m3 m4 m5).f6.f2.f3 (msgOf m0 m1 m2 m3 m4 m5).f6.f2.f4 (msgOf m0 m1 m2 m3 m4 m5).f6.f3 = some true := rfl
  have en : laws_eqMessageS.l0 (k + 1) [msgOf m0 m1 m2 m3 m4 m5] [msgOf m0 m1 m2 m3 m4 m5] (wrap64 (0 + 1)) = some true := by kernel_rfl
  have em : laws_eqMessageS.l0 (k + 2) [msgOf m0 m1 m2 m3 m4 m5] [msgOf m0 m1 m2 m3 m4 m5] 0 = some true := by
    rw [laws_eqMessageS.l0]
    simp only [e, laws_eqMessage.f, eu, en, if_true, Option.bind_some]
    rfl
  unfold laws_eqMessageS.f
  rw [if_pos rfl]
  exact em
theorem bare_nil : ∀ x ∈ ([] : List S136), bareMsg x := fun x hx => absurd hx (by simp)
theorem bare_one (m0 m1 m2 m3 m4 m5 : Int) : ∀ x ∈ [msgOf m0 m1 m2 m3 m4 m5], bareMsg x := fun x hx => by
  rw [List.mem_singleton] at hx
  subst hx
  exact ⟨rfl, rfl, rfl⟩
theorem eqS_refl {k : Nat} {l : List S136} (r1 r2 r3 r4 r5 r6 : Int) (u d up : Bool) (h : laws_eqMessageS.f k l l = some true) : laws_eqSessionResult.f k r1 r2 r3 r4 r5 r6 l u d up r1 r2 r3 r4 r5 r6 l u d up = some true := by
  have e : laws_eqSession.f r2 r3 r4 r5 r6 r2 r3 r4 r5 r6 = some true := by simp [laws_eqSession.f]
  unfold laws_eqSessionResult.f
  rw [if_pos rfl, e, Option.bind_some, if_pos rfl, h, Option.bind_some, if_pos rfl]
  cases u <;> cases d <;> cases up <;> rfl
theorem heldS_of {k : Nat} {l : List S136} (r1 r2 r3 r4 r5 r6 : Int) (u d up : Bool) {m : Int} (h : laws_heldMessageS.f k l 1 = some m) (h0 : ¬ m < 0) : laws_heldSessionResult.f k r1 r2 r3 r4 r5 r6 l u d up 1 = some m := by
  unfold laws_heldSessionResult.f
  rw [h, Option.bind_some, if_neg h0]
def codeOf (a i h s0 s1 s2 s3 s4 : Int) : Int := if configFault a i h = 0 then sessionFault s0 s1 s2 s3 s4 else configFault a i h
theorem code_eq (k : Nat) (a i h s0 s1 s2 s3 s4 : Int) : impl_sessionCode.f (k + 2) a i h s0 s1 s2 s3 s4 = some (codeOf a i h s0 s1 s2 s3 s4) := by
  unfold impl_sessionCode.f codeOf
  rw [impl_ConfigFault_eq, Option.bind_some, impl_SessionFault_eq (by omega), Option.bind_some]
  split <;> rfl
theorem asked_eq (k : Nat) (a i h s0 s1 s2 s3 s4 : Int) : spec_l5Asked.f (k + 2) a i h s0 s1 s2 s3 s4 = some (codeOf a i h s0 s1 s2 s3 s4) := by
  unfold spec_l5Asked.f codeOf
  rw [spec_ConfigFault_eq, Option.bind_some, spec_SessionFault_eq (by omega), Option.bind_some]
  split <;> rfl
def laws_FnExactStopSession.f (k : Nat) (a i h s0 s1 s2 s3 s4 : Int) : Option Bool := some true
theorem laws_FnExactStopSession.nil (a i h s0 s1 s2 s3 s4 : Int) (w : World) (r1 r2 r3 r4 r5 r6 : Int) (u d up : Bool) (hsp : spec_StopSession.f 2 a i h s0 s1 s2 s3 s4 = some (r1, r2, r3, r4, r5, r6, [], u, d, up)) (him : ∀ w, Calls Try.prog 44 #[.agg #[.int .i64 a, .int .i64 i, .int .i64 h], .agg #[.int .i64 s0, .int .i64 s1, .int .i64 s2, .int .i64 s3, .int .i64 s4]] w fun e w' => ∃ v : Value, e = .returned (.agg #[.int .i64 r1, .int .i64 r2, .int .i64 r3, .int .i64 r4, .int .i64 r5, .int .i64 r6, v, .bool u, .bool d, .bool up]) ∧ Kd.S k136 136 w' w.heap.size (fun _ => True) v [] ∧ Below w.heap.size w w') :
    Calls Try.prog 9 #[.agg #[.int .i64 a, .int .i64 i, .int .i64 h], .agg #[.int .i64 s0, .int .i64 s1, .int .i64 s2, .int .i64 s3, .int .i64 s4]] w fun e w' => e = .returned (.bool true) ∧ Below w.heap.size w w' :=
  laws_FnExactStopSession.walk 2 a i h s0 s1 s2 s3 s4 w r1 r2 r3 r4 r5 r6 u d up [] [] 1 (fun w => spec_StopSession.calls 2 a i h s0 s1 s2 s3 s4 r1 r2 r3 r4 r5 r6 [] u d up w hsp) him rfl rfl (eqS_refl _ _ _ _ _ _ _ _ _ (eqM_nil 0)) bare_nil (markM_nil 0) rfl (heldS_of _ _ _ _ _ _ _ _ _ (heldM_nil 0) (by decide)) (by decide)
theorem laws_FnExactStopSession.one (a i h s0 s1 s2 s3 s4 : Int) (w : World) (r1 r2 r3 r4 r5 r6 m0 m1 m2 m3 m4 m5 : Int) (u d up : Bool) (hsp : spec_StopSession.f 2 a i h s0 s1 s2 s3 s4 = some (r1, r2, r3, r4, r5, r6, [msgOf m0 m1 m2 m3 m4 m5], u, d, up)) (him : ∀ w, Calls Try.prog 44 #[.agg #[.int .i64 a, .int .i64 i, .int .i64 h], .agg #[.int .i64 s0, .int .i64 s1, .int .i64 s2, .int .i64 s3, .int .i64 s4]] w fun e w' => ∃ v : Value, e = .returned (.agg #[.int .i64 r1, .int .i64 r2, .int .i64 r3, .int .i64 r4, .int .i64 r5, .int .i64 r6, v, .bool u, .bool d, .bool up]) ∧ Kd.S k136 136 w' w.heap.size (fun _ => True) v [msgOf m0 m1 m2 m3 m4 m5] ∧ Below w.heap.size w w') :
    Calls Try.prog 9 #[.agg #[.int .i64 a, .int .i64 i, .int .i64 h], .agg #[.int .i64 s0, .int .i64 s1, .int .i64 s2, .int .i64 s3, .int .i64 s4]] w fun e w' => e = .returned (.bool true) ∧ Below w.heap.size w w' :=
  laws_FnExactStopSession.walk 2 a i h s0 s1 s2 s3 s4 w r1 r2 r3 r4 r5 r6 u d up [msgOf m0 m1 m2 m3 m4 m5] [markMsg 1] 12 (fun w => spec_StopSession.calls 2 a i h s0 s1 s2 s3 s4 r1 r2 r3 r4 r5 r6 _ u d up w hsp) him rfl rfl (eqS_refl _ _ _ _ _ _ _ _ _ (eqM_one 0 _ _ _ _ _ _)) (bare_one _ _ _ _ _ _) (markM_one 0 _) rfl (heldS_of _ _ _ _ _ _ _ _ _ (heldM_one 0) (by decide)) (by decide)
set_option maxHeartbeats 8000000 in
set_option maxRecDepth 100000 in
theorem laws_FnExactStopSession.calls (k : Nat) (a0_0 : Int) (a0_1 : Int) (a0_2 : Int) (a1_0 : Int) (a1_1 : Int) (a1_2 : Int) (a1_3 : Int) (a1_4 : Int) (w : World) (h : laws_FnExactStopSession.f k a0_0 a0_1 a0_2 a1_0 a1_1 a1_2 a1_3 a1_4 = some true) :
    Calls Try.prog 9 #[.agg #[.int .i64 a0_0, .int .i64 a0_1, .int .i64 a0_2], .agg #[.int .i64 a1_0, .int .i64 a1_1, .int .i64 a1_2, .int .i64 a1_3, .int .i64 a1_4]] w fun e w' => e = .returned (.bool true) ∧ Below w.heap.size w w' := by
  have hc := code_eq 0 a0_0 a0_1 a0_2 a1_0 a1_1 a1_2 a1_3 a1_4
  have hq := asked_eq 0 a0_0 a0_1 a0_2 a1_0 a1_1 a1_2 a1_3 a1_4
  have hr : impl_areReasons.f 6 2 = some true := by kernel_rfl
  generalize codeOf a0_0 a0_1 a0_2 a1_0 a1_1 a1_2 a1_3 a1_4 = c at hc hq
  by_cases h1 : c = 0
  · have hs : spec_FailSession.f 2 a0_0 a0_1 a0_2 a1_0 a1_1 a1_2 a1_3 a1_4 6 2 = spec_FailSession.j0 2 6 2 false a1_0 a1_1 a1_2 a1_3 a1_4 := by
      unfold spec_FailSession.f
      rw [hq, Option.bind_some, if_pos h1, spec_l1In_eq, Option.bind_some, if_pos (by decide), spec_l1In_eq, Option.bind_some]
      rfl
    by_cases h0 : a1_0 = 0
    · have hf : spec_FailSession.f 2 a0_0 a0_1 a0_2 a1_0 a1_1 a1_2 a1_3 a1_4 6 2 = some (0, a1_0, a1_1, a1_2, a1_3, a1_4, [], false, false, false) := by
        rw [hs, spec_FailSession.j0, if_neg (by decide)]
        unfold spec_l5Fail.f
        rw [if_pos h0]
        rfl
      refine laws_FnExactStopSession.nil a0_0 a0_1 a0_2 a1_0 a1_1 a1_2 a1_3 a1_4 w 0 a1_0 a1_1 a1_2 a1_3 a1_4 false false false ?_ (fun w => impl_StopSession.of a0_0 a0_1 a0_2 a1_0 a1_1 a1_2 a1_3 a1_4 0 a1_0 a1_1 a1_2 a1_3 a1_4 [] false false false (fun w => impl_FailSession.quiet 2 a0_0 a0_1 a0_2 a1_0 a1_1 a1_2 a1_3 a1_4 c 6 2 w hc hr h1 h0) w)
      unfold spec_StopSession.f
      rw [hf]
      rfl
    · have hf : spec_FailSession.f 2 a0_0 a0_1 a0_2 a1_0 a1_1 a1_2 a1_3 a1_4 6 2 = some (0, 0, 0, 0, 0, 0, [msgOf 3 0 0 0 6 2], false, (a1_0 == 3), false) := by
        rw [hs, spec_FailSession.j0, if_neg (by decide)]
        unfold spec_l5Fail.f
        rw [if_neg h0]
        rfl
      refine laws_FnExactStopSession.one a0_0 a0_1 a0_2 a1_0 a1_1 a1_2 a1_3 a1_4 w 0 0 0 0 0 0 3 0 0 0 6 2 false (a1_0 == 3) false ?_ (fun w => impl_StopSession.of a0_0 a0_1 a0_2 a1_0 a1_1 a1_2 a1_3 a1_4 0 0 0 0 0 0 [msgOf 3 0 0 0 6 2] false (a1_0 == 3) false (fun w => impl_FailSession.ok 2 a0_0 a0_1 a0_2 a1_0 a1_1 a1_2 a1_3 a1_4 c 6 2 w hc hr h1 h0) w)
      unfold spec_StopSession.f
      rw [hf]
      rfl
  · have hf : spec_FailSession.f 2 a0_0 a0_1 a0_2 a1_0 a1_1 a1_2 a1_3 a1_4 6 2 = some (c, 0, 0, 0, 0, 0, [], false, false, false) := by
      unfold spec_FailSession.f
      rw [hq, Option.bind_some, if_neg h1]
      rfl
    refine laws_FnExactStopSession.nil a0_0 a0_1 a0_2 a1_0 a1_1 a1_2 a1_3 a1_4 w c 0 0 0 0 0 false false false ?_ (fun w => impl_StopSession.of a0_0 a0_1 a0_2 a1_0 a1_1 a1_2 a1_3 a1_4 c 0 0 0 0 0 [] false false false (fun w => impl_FailSession.bad 2 a0_0 a0_1 a0_2 a1_0 a1_1 a1_2 a1_3 a1_4 c 6 2 w hc h1) w)
    unfold spec_StopSession.f
    rw [hf]
    rfl
end Go.Proofs.Ythmkjapmnlhflaa.PFnExactStopSession
