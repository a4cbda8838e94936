/- The contracts of what marks nested rows, and the walk of the law FnExactTickSession. -/
import Derived.Test.YthmkjapmnlhflaaSFnExactTickSessionza
import Derived.Test.YthmkjapmnlhflaaYFnExactTickSessionHandA
import Derived.Test.YthmkjapmnlhflaaYFnExactTickSessionFun
namespace Go.Proofs.Ythmkjapmnlhflaa.PFnExactTickSession
open Go.RowKit Go.Proofs.YthmkjapmnlhflaaW.PrintWords Go.Proofs.YthmkjapmnlhflaaW.PrintLast Go.Proofs.YthmkjapmnlhflaaW.PrintMore Go.Proofs.Ythmkjapmnlhflaa.B Go.Proofs.Ythmkjapmnlhflaa.Pure
attribute [local go_sem] max2_int min2_int max_two min_two max_three min_three max_four min_four
set_option linter.unusedVariables false
set_option linter.unusedSimpArgs false
set_option maxHeartbeats 8000000 in
set_option maxRecDepth 100000 in
theorem laws_markSessionResult.calls (k : Nat) (P0_ : Nat → Prop) (Au : Option Addr) (cu n : Nat) (l0 : List S136) (r1 r2 r3 r4 r5 r6 : Int) (u d up : Bool) (a1 q1 : Int) (q2 : List S136) (w0 w : World) (hB : Below w0.heap.size w0 w) (hn : l0.length = n ∧ ∀ x ∈ l0, bareMsg x) (ho0 : Kd.S k136 136 w w0.heap.size P0_ (.slice Au n cu) l0) (h : laws_markMessageS.f k l0 a1 = some (q1, q2)) :
    Calls Try.prog 33 #[.agg #[.int .i64 r1, .int .i64 r2, .int .i64 r3, .int .i64 r4, .int .i64 r5, .int .i64 r6, .slice Au n cu, .bool u, .bool d, .bool up], .int .i64 a1] w fun e w' => e = .returned (.int .i64 q1) ∧ (q2.length = n ∧ Kd.S k136 136 w' w0.heap.size P0_ (.slice Au n cu) q2) ∧ Below w0.heap.size w0 w' ∧ Kept w w' P0_ := by
  have HO := Aside0.mk ho0
  have HN := Aside0.mk hn
  have HM := Aside0.mk h
  have HB := Aside0.mk hB
  clear hB ho0 hn h
  go_enter Try.func33, Try.ntmps33
  go_wp2_with (first
    | ((with_reducible refine gate_dst (N := 2) rfl ?_); refine box_e_ 2 #[.int .i64 r1, .int .i64 r2, .int .i64 r3, .int .i64 r4, .int .i64 r5, .int .i64 r6, .slice Au n cu, .bool u, .bool d, .bool up] 45 ?_; intro g hg w1 hbox hb; have BK := Aside0.mk hbox; replace HO := Aside0.mk (Kd.S_below HO.out hb); replace HB := Aside0.mk (HB.out.trans (hb.mono HB.out.size)); have HK := Aside0.mk (Kept.of_below hb P0_); clear hb hbox hg; obtain ⟨hcz_0, hcz_1, hcz_2, hcz_3, hcz_4, hcz_5, hcz_6, hcz_7, hcz_8, hcz_9, hfz_0, hfz_1, hfz_2, hfz_3, hfz_4, hfz_5, hfz_6, hfz_7, hfz_8, hfz_9⟩ := cf10_ BK)
    | ((with_reducible refine gate_callee (f := 92) rfl ?_); refine goe_ (some 8) Try.func92 #[.slice Au n cu, .int .i64 a1] ?_; (with_reducible refine (laws_markMessageS.calls k P0_ Au cu n l0 a1 q1 q2 w0 _ ?side1 HN.out ?side2 HM.out).mono ?_); (case side1 => exact HB.out); (case side2 => exact HO.out); rintro e w2 ⟨rfl, hy, hb, hkp⟩; refine ⟨_, rfl, ?_⟩; have HY := Aside0.mk hy; replace HB := Aside0.mk hb; replace HK := Aside0.mk (Kept.then_ (S := P0_) HK.out hkp (fun k_ h_ => .inl h_)); clear hy hb hkp))
  go_ret
  exact ⟨er_, HY.out, HB.out, HK.out⟩
theorem laws_heldSessionResult.callsn (k : Nat) (r1 r2 r3 r4 r5 r6 : Int) (u d up : Bool) (A0 : Option Addr) (c0 n : Nat) (l0 : List S136) (a1 r : Int) (w : World) (hn : l0.length = n) (hr0 : Kd.C k136 w A0 n l0) (hc0 : n ≤ c0) (h : laws_heldSessionResult.f k r1 r2 r3 r4 r5 r6 l0 u d up a1 = some r) :
    Calls Try.prog 34 #[.agg #[.int .i64 r1, .int .i64 r2, .int .i64 r3, .int .i64 r4, .int .i64 r5, .int .i64 r6, .slice A0 n c0, .bool u, .bool d, .bool up], .int .i64 a1] w fun e w' => e = .returned (.int .i64 r) ∧ Below w.heap.size w w' := by
  subst hn
  exact laws_heldSessionResult.calls k r1 r2 r3 r4 r5 r6 A0 c0 l0 u d up a1 r w hr0 hc0 h
theorem Skb_iv {α : Type} {d : Kd α} {e a b base : Nat} {W W1 : World} {v : Value} {xs : List α} (h : Aside0 (Kd.S d e W base (Iv a b) v xs)) (hb : Below W.heap.size W W1) : Aside0 (Kd.S d e W1 base (Iv a b) v xs) := ⟨Kd.S_below h.out hb⟩
def Ivn (a b g : Nat) : Nat → Prop := fun k => a ≤ k ∧ k < b ∧ k ≠ g
section
variable {α : Type} {d : Kd α} {e a b g : Nat} {w W W1 : World} {v : Value} {xs : List α} {S : Nat → Prop}
theorem Siw {base : Nat} (h : Kd.S d e W1 W.heap.size (fun _ => True) v xs) (hle : base ≤ W.heap.size) : Aside0 (Kd.S d e W1 base (Iv W.heap.size W1.heap.size) v xs) := ⟨Kd.S_lower (Kd.S_mono (Kd.S_bound h) (fun k hk => ⟨hk.2.1, hk.2.2.1⟩)) hle⟩
theorem Nin (h : Kd.S d e W1 W.heap.size (fun k => k ≠ g) v xs) (hle : w.heap.size ≤ W.heap.size) : Aside0 (Kd.S d e W1 w.heap.size (Ivn W.heap.size W1.heap.size g) v xs) := ⟨Kd.S_lower (Kd.S_mono (Kd.S_bound h) (fun k hk => ⟨hk.2.1, hk.2.2.1, hk.1⟩)) hle⟩
theorem Nkb (h : Aside0 (Kd.S d e W w.heap.size (Ivn a b g) v xs)) (hb : Below W.heap.size W W1) : Aside0 (Kd.S d e W1 w.heap.size (Ivn a b g) v xs) := ⟨Kd.S_below h.out hb⟩
theorem Nkk (h : Aside0 (Kd.S d e W w.heap.size (Ivn a b g) v xs)) (hk : Kept W W1 S) (hd : ∀ k, a ≤ k → k < b → k ≠ g → ¬ S k) : Aside0 (Kd.S d e W1 w.heap.size (Ivn a b g) v xs) := ⟨Kd.S_kept h.out hk (fun k h => hd k h.1 h.2.1 h.2.2)⟩
end
theorem blk_kx {W W1 : World} {base g : Nat} (h : Aside0 (Below base W W1)) : Below base W W1 := h.out
set_option maxHeartbeats 16000000 in
set_option maxRecDepth 100000 in
theorem laws_FnExactTickSession.walk (k : Nat) (a i h s0 s1 s2 s3 s4 : Int) (w : World) (r1 r2 r3 r4 r5 r6 : Int) (u d up : Bool) (l l4 : List S136) (m1 : Int)
    (hsp : ∀ w, Calls Try.prog 45 #[.agg #[.int .i64 a, .int .i64 i, .int .i64 h], .agg #[.int .i64 s0, .int .i64 s1, .int .i64 s2, .int .i64 s3, .int .i64 s4]] w fun e w' => ∃ v : Value, e = .returned (.agg #[.int .i64 r1, .int .i64 r2, .int .i64 r3, .int .i64 r4, .int .i64 r5, .int .i64 r6, v, .bool u, .bool d, .bool up]) ∧ Kd.S k136 136 w' w.heap.size (fun _ => True) v l ∧ Below w.heap.size w w') (him : ∀ w, Calls Try.prog 46 #[.agg #[.int .i64 a, .int .i64 i, .int .i64 h], .agg #[.int .i64 s0, .int .i64 s1, .int .i64 s2, .int .i64 s3, .int .i64 s4]] w fun e w' => ∃ v : Value, e = .returned (.agg #[.int .i64 r1, .int .i64 r2, .int .i64 r3, .int .i64 r4, .int .i64 r5, .int .i64 r6, v, .bool u, .bool d, .bool up]) ∧ Kd.S k136 136 w' w.heap.size (fun _ => True) v l ∧ Below w.heap.size w w')
    (htc : laws_toConfig.f a i h = some (a, i, h)) (hts : laws_toSession.f s0 s1 s2 s3 s4 = some (s0, s1, s2, s3, s4))
    (heq : laws_eqSessionResult.f k r1 r2 r3 r4 r5 r6 l u d up r1 r2 r3 r4 r5 r6 l u d up = some true) (hba : ∀ x ∈ l, bareMsg x) (hmf : laws_markMessageS.f k l 1 = some (m1, l4)) (hln : l4.length = l.length) (hhe : laws_heldSessionResult.f k r1 r2 r3 r4 r5 r6 l4 u d up 1 = some m1) (hm1 : ¬ m1 < 0) :
    Calls Try.prog 10 #[.agg #[.int .i64 a, .int .i64 i, .int .i64 h], .agg #[.int .i64 s0, .int .i64 s1, .int .i64 s2, .int .i64 s3, .int .i64 s4]] w fun e w' => e = .returned (.bool true) ∧ Below w.heap.size w w' := by
  have HSP := Aside0.mk hsp
  have HIM := Aside0.mk him
  have HTC := Aside0.mk htc
  have HTS := Aside0.mk hts
  have HEQ := Aside0.mk heq
  have HBA := Aside0.mk hba
  have HMF := Aside0.mk hmf
  have HLN := Aside0.mk hln
  have HHE := Aside0.mk hhe
  have HB := Aside0.mk (Below.refl w.heap.size w)
  have t3 : decide (m1 < 0) = false := decide_eq_false hm1
  clear hsp him htc hts heq hba hmf hln hhe hm1
  go_enter Try.func10, Try.ntmps10
  go_wp2_with (first
    | ((with_reducible refine gate_dst (N := 2) rfl ?_); refine box_e_ 2 #[.int .i64 a, .int .i64 i, .int .i64 h] 39 ?_; intro gBC hg wq1 hbox hb; have HGBC := Aside0.mk hg; have HLBC := Aside0.mk (blk_lt hbox); have HEBC : Aside0 (w.heap.size ≤ gBC) := ⟨by rw [hg]; exact HB.out.size⟩; have HS1 := Aside0.mk (Below.size hb); replace HB := below_kb HB hb; have BC := Aside0.mk hbox; clear hbox hg hb)
    | ((with_reducible refine gate_dst (N := 3) rfl ?_); refine box_e_ 3 #[.int .i64 s0, .int .i64 s1, .int .i64 s2, .int .i64 s3, .int .i64 s4] 41 ?_; intro gBS hg wq2 hbox hb; have HGBS := Aside0.mk hg; have HLBS := Aside0.mk (blk_lt hbox); have HEBS : Aside0 (w.heap.size ≤ gBS) := ⟨by rw [hg]; exact HB.out.size⟩; have HS2 := Aside0.mk (Below.size hb); replace BC := blk_kb BC hb; replace HB := below_kb HB hb; have BS := Aside0.mk hbox; clear hbox hg hb; obtain ⟨hczBC_0, hczBC_1, hczBC_2, hfzBC_0, hfzBC_1, hfzBC_2⟩ := cf3_ BC; obtain ⟨hczBS_0, hczBS_1, hczBS_2, hczBS_3, hczBS_4, hfzBS_0, hfzBS_1, hfzBS_2, hfzBS_3, hfzBS_4⟩ := cf5_ BS))
  have hb : Below wq2.heap.size wq2 wq2.drew := below_drew1 (Below.refl _ _)
  have HS4 := Aside0.mk (Below.size hb)
  replace BC := blk_kb BC hb
  replace BS := blk_kb BS hb
  replace HB := below_kb HB hb
  clear hb
  refine start_ (n := 7) (S := fun w' => w'.cell? ⟨gBC, 0, none⟩ = some (.int .i64 a) ∧ w'.cell? ⟨gBC, 1, none⟩ = some (.int .i64 i) ∧ w'.cell? ⟨gBC, 2, none⟩ = some (.int .i64 h) ∧ w'.cell? ⟨gBS, 0, none⟩ = some (.int .i64 s0) ∧ w'.cell? ⟨gBS, 1, none⟩ = some (.int .i64 s1) ∧ w'.cell? ⟨gBS, 2, none⟩ = some (.int .i64 s2) ∧ w'.cell? ⟨gBS, 3, none⟩ = some (.int .i64 s3) ∧ w'.cell? ⟨gBS, 4, none⟩ = some (.int .i64 s4)) (ds := [6]) #[false, false, false, false, false, false, false] (by kernel_rfl) rfl rfl ⟨(blk_cell BC.out 0).trans rfl, (blk_cell BC.out 1).trans rfl, (blk_cell BC.out 2).trans rfl, (blk_cell BS.out 0).trans rfl, (blk_cell BS.out 1).trans rfl, (blk_cell BS.out 2).trans rfl, (blk_cell BS.out 3).trans rfl, (blk_cell BS.out 4).trans rfl⟩ (fun hHeld => ?_)
  generalize wq2.drew = wq4 at BC BS HB HS4 hHeld ⊢
  refine take_ (i := 0) (N := some 10) (v := ?_) (a' := ?_) #[true, false, false, false, false, false, false] rfl rfl (by kernel_rfl) (fun _ _ _ h => h) (Or.inl ⟨by rfl, ?_⟩) hHeld ?_ ?_
  rotate_left
  · rintro w' ⟨t0, t1, t2, t3, t4, t5, t6, t7⟩
    go_simp
    with_reducible rfl
  rotate_left
  · simp only [Act.put, List.setIfInBounds_toArray, List.set_cons_zero, List.set_cons_succ, i64_w, i32_w]
    rfl
  refine take_ (i := 2) (N := some 12) (v := ?_) (a' := ?_) #[true, false, true, false, false, false, false] rfl rfl (by kernel_rfl) (fun _ _ _ h => h) (Or.inl ⟨by rfl, ?_⟩) hHeld ?_ ?_
  rotate_left
  · rintro w' ⟨t0, t1, t2, t3, t4, t5, t6, t7⟩
    go_simp
    with_reducible rfl
  rotate_left
  · simp only [Act.put, List.setIfInBounds_toArray, List.set_cons_zero, List.set_cons_succ, i64_w, i32_w]
    rfl
  refine join_ (σ := Value × Nat) 1 #[true, true, true, true, true, true, false] (fun s_ => [(11, .agg #[.int .i64 a, .int .i64 i, .int .i64 h]), (13, .agg #[.int .i64 s0, .int .i64 s1, .int .i64 s2, .int .i64 s3, .int .i64 s4]), (14, .agg #[.int .i64 r1, .int .i64 r2, .int .i64 r3, .int .i64 r4, .int .i64 r5, .int .i64 r6, s_.1, .bool u, .bool d, .bool up]), (5, .pointer (some ⟨s_.2, 0, none⟩))]) (fun s_ w' => (Below wq4.heap.size wq4 w') ∧ (wq4.heap.size ≤ s_.2) ∧ (w'.heap[s_.2]? = some (.cells #[.int .i64 0, .int .i64 0, .int .i64 0, .int .i64 0, .int .i64 0, .int .i64 0, .slice none 0 0, .bool false, .bool false, .bool false] 45 (0, 0))) ∧ (Kd.S k136 136 w' wq4.heap.size (fun k_ => k_ ≠ s_.2) s_.1 l)) ?_ ?_
  rotate_left
  · intro hCont
    have HX := Aside0.mk (Below.refl wq4.heap.size wq4)
    have YBC := BC
    have YBS := BS
    clear HB BC BS
    refine two_ (i := 1) (j := 5) (Ni := some 11) (Nj := some 5) #[true, true, true, false, false, false, false] #[true, false, true, false, false, true, false] rfl rfl rfl rfl (by kernel_rfl) (by decide) (by decide) (fun K hK => ?_) (fun K hK => ?_)
    · skip
      refine goes_ Try.func29 (by kernel_rfl) rfl #[.agg #[.int .i64 a, .int .i64 i, .int .i64 h]] (by rfl) rfl rfl (by (try simp only [List.map_toArray, List.map_cons, List.map_nil]); first | done | rfl) ?_
      with_reducible refine (laws_toConfig.calls a i h a i h _ HTC.out).mono ?_
      rintro e wy1 ⟨rfl, hb⟩
      refine ⟨_, rfl, ?_⟩
      have hz_ := Aside0.mk (Below.size hb)
      replace HX : Aside0 (Below wq4.heap.size wq4 wy1) := ⟨below_step HX.out hb⟩
      replace YBC := blk_kb YBC hb
      replace YBS := blk_kb YBS hb
      have HY1 := hz_
      clear hz_ hb
      refine hK.out _ _ ⟨(blk_cell YBC.out 0).trans rfl, (blk_cell YBC.out 1).trans rfl, (blk_cell YBC.out 2).trans rfl, (blk_cell YBS.out 0).trans rfl, (blk_cell YBS.out 1).trans rfl, (blk_cell YBS.out 2).trans rfl, (blk_cell YBS.out 3).trans rfl, (blk_cell YBS.out 4).trans rfl⟩ (fun hHeld => ?_)
      clear hK K
      refine norm_ (a' := ?_) ?_ ?_
      rotate_left
      · show Act.put _ (some 11) _ = _
        simp only [Act.put, List.setIfInBounds_toArray, List.set_cons_zero, List.set_cons_succ, i64_w, i32_w]
        rfl
      refine two_ (i := 3) (j := 5) (Ni := some 13) (Nj := some 5) #[true, true, true, true, false, false, false] #[true, true, true, false, false, true, false] rfl rfl rfl rfl (by kernel_rfl) (by decide) (by decide) (fun K hK => ?_) (fun K hK => ?_)
      · skip
        refine goes_ Try.func30 (by kernel_rfl) rfl #[.agg #[.int .i64 s0, .int .i64 s1, .int .i64 s2, .int .i64 s3, .int .i64 s4]] (by rfl) rfl rfl (by (try simp only [List.map_toArray, List.map_cons, List.map_nil]); first | done | rfl) ?_
        with_reducible refine (laws_toSession.calls s0 s1 s2 s3 s4 s0 s1 s2 s3 s4 _ HTS.out).mono ?_
        rintro e wy2 ⟨rfl, hb⟩
        refine ⟨_, rfl, ?_⟩
        have hz_ := Aside0.mk (Below.size hb)
        replace HX : Aside0 (Below wq4.heap.size wq4 wy2) := ⟨below_step HX.out hb⟩
        replace YBC := blk_kb YBC hb
        replace YBS := blk_kb YBS hb
        have HY2 := hz_
        clear hz_ hb
        refine hK.out _ _ ⟨(blk_cell YBC.out 0).trans rfl, (blk_cell YBC.out 1).trans rfl, (blk_cell YBC.out 2).trans rfl, (blk_cell YBS.out 0).trans rfl, (blk_cell YBS.out 1).trans rfl, (blk_cell YBS.out 2).trans rfl, (blk_cell YBS.out 3).trans rfl, (blk_cell YBS.out 4).trans rfl⟩ (fun hHeld => ?_)
        clear hK K
        refine norm_ (a' := ?_) ?_ ?_
        rotate_left
        · show Act.put _ (some 13) _ = _
          simp only [Act.put, List.setIfInBounds_toArray, List.set_cons_zero, List.set_cons_succ, i64_w, i32_w]
          rfl
        refine two_ (i := 4) (j := 5) (Ni := some 14) (Nj := some 5) #[true, true, true, true, true, false, false] #[true, true, true, true, false, true, false] rfl rfl rfl rfl (by kernel_rfl) (by decide) (by decide) (fun K hK => ?_) (fun K hK => ?_)
        · skip
          refine goes_ Try.func45 (by kernel_rfl) rfl #[.agg #[.int .i64 a, .int .i64 i, .int .i64 h], .agg #[.int .i64 s0, .int .i64 s1, .int .i64 s2, .int .i64 s3, .int .i64 s4]] (by rfl) rfl rfl (by (try simp only [List.map_toArray, List.map_cons, List.map_nil]); first | done | rfl) ?_
          with_reducible refine (HSP.out _).mono ?_
          rintro e wy3 ⟨v, rfl, ho, hb⟩
          refine ⟨_, rfl, ?_⟩
          have YR := Siw (base := wq4.heap.size) ho HX.out.size
          have hz_ := Aside0.mk (Below.size hb)
          replace HX : Aside0 (Below wq4.heap.size wq4 wy3) := ⟨below_step HX.out hb⟩
          replace YBC := blk_kb YBC hb
          replace YBS := blk_kb YBS hb
          have HY3 := hz_
          clear hz_ hb ho
          refine hK.out _ _ ⟨(blk_cell YBC.out 0).trans rfl, (blk_cell YBC.out 1).trans rfl, (blk_cell YBC.out 2).trans rfl, (blk_cell YBS.out 0).trans rfl, (blk_cell YBS.out 1).trans rfl, (blk_cell YBS.out 2).trans rfl, (blk_cell YBS.out 3).trans rfl, (blk_cell YBS.out 4).trans rfl⟩ (fun hHeld => ?_)
          clear hK K
          refine norm_ (a' := ?_) ?_ ?_
          rotate_left
          · show Act.put _ (some 14) _ = _
            simp only [Act.put, List.setIfInBounds_toArray, List.set_cons_zero, List.set_cons_succ, i64_w, i32_w]
            rfl
          refine one_ (i := 5) (N := some 5) #[true, true, true, true, true, true, false] rfl rfl (by kernel_rfl) (by decide) (fun K hK => ?_)
          refine box_step ?hg (N := 5) ?hd (cs := #[.int .i64 0, .int .i64 0, .int .i64 0, .int .i64 0, .int .i64 0, .int .i64 0, .slice none 0 0, .bool false, .bool false, .bool false]) (t := 45) ?hr ?_
          (case hd => rfl)
          (case hg => rfl)
          (case hr => first | (go_simp; done) | (go_simp; rfl))
          intro gy hg wy4 hbox hb
          have YG := Aside0.mk hg
          have YL := Aside0.mk (blk_lt hbox)
          have YE : Aside0 (wq4.heap.size ≤ gy) := ⟨by rw [hg]; exact HX.out.size⟩
          have hz_ := Aside0.mk (Below.size hb)
          replace HX : Aside0 (Below wq4.heap.size wq4 wy4) := ⟨below_step HX.out hb⟩
          replace YBC := blk_kb YBC hb
          replace YBS := blk_kb YBS hb
          replace YR := Skb_iv YR hb
          have YZ := Aside0.mk hbox
          have HY4 := hz_
          clear hz_ hb hbox hg
          refine hK.out _ _ ⟨(blk_cell YBC.out 0).trans rfl, (blk_cell YBC.out 1).trans rfl, (blk_cell YBC.out 2).trans rfl, (blk_cell YBS.out 0).trans rfl, (blk_cell YBS.out 1).trans rfl, (blk_cell YBS.out 2).trans rfl, (blk_cell YBS.out 3).trans rfl, (blk_cell YBS.out 4).trans rfl⟩ (fun hHeld => ?_)
          clear hK K
          refine norm_ (a' := ?_) ?_ ?_
          rotate_left
          · show Act.put _ (some 5) _ = _
            simp only [Act.put, List.setIfInBounds_toArray, List.set_cons_zero, List.set_cons_succ, i64_w, i32_w]
            rfl
          exact norm_ (by simp only [putAll, Act.put, List.setIfInBounds_toArray, List.set_cons_zero, List.set_cons_succ]) (hCont (_, gy) _ ⟨HX.out, YE.out, YZ.out, Kd.S_mono YR.out (fun k_ hk_ => by have hk2_ : _ ∧ _ := hk_; have hg_ := YG.out; have o0_ := HY1.out; have o1_ := HY2.out; have o2_ := HY3.out; have o3_ := HY4.out; omega)⟩)
        · skip
          refine box_step ?hg (N := 5) ?hd (cs := #[.int .i64 0, .int .i64 0, .int .i64 0, .int .i64 0, .int .i64 0, .int .i64 0, .slice none 0 0, .bool false, .bool false, .bool false]) (t := 45) ?hr ?_
          (case hd => rfl)
          (case hg => rfl)
          (case hr => first | (go_simp; done) | (go_simp; rfl))
          intro gy hg wy5 hbox hb
          have YG := Aside0.mk hg
          have YL := Aside0.mk (blk_lt hbox)
          have YE : Aside0 (wq4.heap.size ≤ gy) := ⟨by rw [hg]; exact HX.out.size⟩
          have hz_ := Aside0.mk (Below.size hb)
          replace HX : Aside0 (Below wq4.heap.size wq4 wy5) := ⟨below_step HX.out hb⟩
          replace YBC := blk_kb YBC hb
          replace YBS := blk_kb YBS hb
          have YZ := Aside0.mk hbox
          have HY5 := hz_
          clear hz_ hb hbox hg
          refine hK.out _ _ ⟨(blk_cell YBC.out 0).trans rfl, (blk_cell YBC.out 1).trans rfl, (blk_cell YBC.out 2).trans rfl, (blk_cell YBS.out 0).trans rfl, (blk_cell YBS.out 1).trans rfl, (blk_cell YBS.out 2).trans rfl, (blk_cell YBS.out 3).trans rfl, (blk_cell YBS.out 4).trans rfl⟩ (fun hHeld => ?_)
          clear hK K
          refine norm_ (a' := ?_) ?_ ?_
          rotate_left
          · show Act.put _ (some 5) _ = _
            simp only [Act.put, List.setIfInBounds_toArray, List.set_cons_zero, List.set_cons_succ, i64_w, i32_w]
            rfl
          refine one_ (i := 4) (N := some 14) #[true, true, true, true, true, true, false] rfl rfl (by kernel_rfl) (by decide) (fun K hK => ?_)
          refine goes_ Try.func45 (by kernel_rfl) rfl #[.agg #[.int .i64 a, .int .i64 i, .int .i64 h], .agg #[.int .i64 s0, .int .i64 s1, .int .i64 s2, .int .i64 s3, .int .i64 s4]] (by rfl) rfl rfl (by (try simp only [List.map_toArray, List.map_cons, List.map_nil]); first | done | rfl) ?_
          with_reducible refine (HSP.out _).mono ?_
          rintro e wy6 ⟨v, rfl, ho, hb⟩
          refine ⟨_, rfl, ?_⟩
          have YR := Siw (base := wq4.heap.size) ho HX.out.size
          have hz_ := Aside0.mk (Below.size hb)
          replace HX : Aside0 (Below wq4.heap.size wq4 wy6) := ⟨below_step HX.out hb⟩
          replace YBC := blk_kb YBC hb
          replace YBS := blk_kb YBS hb
          replace YZ := blk_kb YZ hb
          have HY6 := hz_
          clear hz_ hb ho
          refine hK.out _ _ ⟨(blk_cell YBC.out 0).trans rfl, (blk_cell YBC.out 1).trans rfl, (blk_cell YBC.out 2).trans rfl, (blk_cell YBS.out 0).trans rfl, (blk_cell YBS.out 1).trans rfl, (blk_cell YBS.out 2).trans rfl, (blk_cell YBS.out 3).trans rfl, (blk_cell YBS.out 4).trans rfl⟩ (fun hHeld => ?_)
          clear hK K
          refine norm_ (a' := ?_) ?_ ?_
          rotate_left
          · show Act.put _ (some 14) _ = _
            simp only [Act.put, List.setIfInBounds_toArray, List.set_cons_zero, List.set_cons_succ, i64_w, i32_w]
            rfl
          exact norm_ (by simp only [putAll, Act.put, List.setIfInBounds_toArray, List.set_cons_zero, List.set_cons_succ]) (hCont (_, gy) _ ⟨HX.out, YE.out, YZ.out, Kd.S_mono YR.out (fun k_ hk_ => by have hk2_ : _ ∧ _ := hk_; have hl_ := YL.out; have o0_ := HY1.out; have o1_ := HY2.out; have o2_ := HY5.out; have o3_ := HY6.out; omega)⟩)
      · skip
        refine box_step ?hg (N := 5) ?hd (cs := #[.int .i64 0, .int .i64 0, .int .i64 0, .int .i64 0, .int .i64 0, .int .i64 0, .slice none 0 0, .bool false, .bool false, .bool false]) (t := 45) ?hr ?_
        (case hd => rfl)
        (case hg => rfl)
        (case hr => first | (go_simp; done) | (go_simp; rfl))
        intro gy hg wy7 hbox hb
        have YG := Aside0.mk hg
        have YL := Aside0.mk (blk_lt hbox)
        have YE : Aside0 (wq4.heap.size ≤ gy) := ⟨by rw [hg]; exact HX.out.size⟩
        have hz_ := Aside0.mk (Below.size hb)
        replace HX : Aside0 (Below wq4.heap.size wq4 wy7) := ⟨below_step HX.out hb⟩
        replace YBC := blk_kb YBC hb
        replace YBS := blk_kb YBS hb
        have YZ := Aside0.mk hbox
        have HY7 := hz_
        clear hz_ hb hbox hg
        refine hK.out _ _ ⟨(blk_cell YBC.out 0).trans rfl, (blk_cell YBC.out 1).trans rfl, (blk_cell YBC.out 2).trans rfl, (blk_cell YBS.out 0).trans rfl, (blk_cell YBS.out 1).trans rfl, (blk_cell YBS.out 2).trans rfl, (blk_cell YBS.out 3).trans rfl, (blk_cell YBS.out 4).trans rfl⟩ (fun hHeld => ?_)
        clear hK K
        refine norm_ (a' := ?_) ?_ ?_
        rotate_left
        · show Act.put _ (some 5) _ = _
          simp only [Act.put, List.setIfInBounds_toArray, List.set_cons_zero, List.set_cons_succ, i64_w, i32_w]
          rfl
        refine one_ (i := 3) (N := some 13) #[true, true, true, true, false, true, false] rfl rfl (by kernel_rfl) (by decide) (fun K hK => ?_)
        refine goes_ Try.func30 (by kernel_rfl) rfl #[.agg #[.int .i64 s0, .int .i64 s1, .int .i64 s2, .int .i64 s3, .int .i64 s4]] (by rfl) rfl rfl (by (try simp only [List.map_toArray, List.map_cons, List.map_nil]); first | done | rfl) ?_
        with_reducible refine (laws_toSession.calls s0 s1 s2 s3 s4 s0 s1 s2 s3 s4 _ HTS.out).mono ?_
        rintro e wy8 ⟨rfl, hb⟩
        refine ⟨_, rfl, ?_⟩
        have hz_ := Aside0.mk (Below.size hb)
        replace HX : Aside0 (Below wq4.heap.size wq4 wy8) := ⟨below_step HX.out hb⟩
        replace YBC := blk_kb YBC hb
        replace YBS := blk_kb YBS hb
        replace YZ := blk_kb YZ hb
        have HY8 := hz_
        clear hz_ hb
        refine hK.out _ _ ⟨(blk_cell YBC.out 0).trans rfl, (blk_cell YBC.out 1).trans rfl, (blk_cell YBC.out 2).trans rfl, (blk_cell YBS.out 0).trans rfl, (blk_cell YBS.out 1).trans rfl, (blk_cell YBS.out 2).trans rfl, (blk_cell YBS.out 3).trans rfl, (blk_cell YBS.out 4).trans rfl⟩ (fun hHeld => ?_)
        clear hK K
        refine norm_ (a' := ?_) ?_ ?_
        rotate_left
        · show Act.put _ (some 13) _ = _
          simp only [Act.put, List.setIfInBounds_toArray, List.set_cons_zero, List.set_cons_succ, i64_w, i32_w]
          rfl
        refine one_ (i := 4) (N := some 14) #[true, true, true, true, true, true, false] rfl rfl (by kernel_rfl) (by decide) (fun K hK => ?_)
        refine goes_ Try.func45 (by kernel_rfl) rfl #[.agg #[.int .i64 a, .int .i64 i, .int .i64 h], .agg #[.int .i64 s0, .int .i64 s1, .int .i64 s2, .int .i64 s3, .int .i64 s4]] (by rfl) rfl rfl (by (try simp only [List.map_toArray, List.map_cons, List.map_nil]); first | done | rfl) ?_
        with_reducible refine (HSP.out _).mono ?_
        rintro e wy9 ⟨v, rfl, ho, hb⟩
        refine ⟨_, rfl, ?_⟩
        have YR := Siw (base := wq4.heap.size) ho HX.out.size
        have hz_ := Aside0.mk (Below.size hb)
        replace HX : Aside0 (Below wq4.heap.size wq4 wy9) := ⟨below_step HX.out hb⟩
        replace YBC := blk_kb YBC hb
        replace YBS := blk_kb YBS hb
        replace YZ := blk_kb YZ hb
        have HY9 := hz_
        clear hz_ hb ho
        refine hK.out _ _ ⟨(blk_cell YBC.out 0).trans rfl, (blk_cell YBC.out 1).trans rfl, (blk_cell YBC.out 2).trans rfl, (blk_cell YBS.out 0).trans rfl, (blk_cell YBS.out 1).trans rfl, (blk_cell YBS.out 2).trans rfl, (blk_cell YBS.out 3).trans rfl, (blk_cell YBS.out 4).trans rfl⟩ (fun hHeld => ?_)
        clear hK K
        refine norm_ (a' := ?_) ?_ ?_
        rotate_left
        · show Act.put _ (some 14) _ = _
          simp only [Act.put, List.setIfInBounds_toArray, List.set_cons_zero, List.set_cons_succ, i64_w, i32_w]
          rfl
        exact norm_ (by simp only [putAll, Act.put, List.setIfInBounds_toArray, List.set_cons_zero, List.set_cons_succ]) (hCont (_, gy) _ ⟨HX.out, YE.out, YZ.out, Kd.S_mono YR.out (fun k_ hk_ => by have hk2_ : _ ∧ _ := hk_; have hl_ := YL.out; have o0_ := HY1.out; have o1_ := HY7.out; have o2_ := HY8.out; have o3_ := HY9.out; omega)⟩)
    · skip
      refine box_step ?hg (N := 5) ?hd (cs := #[.int .i64 0, .int .i64 0, .int .i64 0, .int .i64 0, .int .i64 0, .int .i64 0, .slice none 0 0, .bool false, .bool false, .bool false]) (t := 45) ?hr ?_
      (case hd => rfl)
      (case hg => rfl)
      (case hr => first | (go_simp; done) | (go_simp; rfl))
      intro gy hg wy10 hbox hb
      have YG := Aside0.mk hg
      have YL := Aside0.mk (blk_lt hbox)
      have YE : Aside0 (wq4.heap.size ≤ gy) := ⟨by rw [hg]; exact HX.out.size⟩
      have hz_ := Aside0.mk (Below.size hb)
      replace HX : Aside0 (Below wq4.heap.size wq4 wy10) := ⟨below_step HX.out hb⟩
      replace YBC := blk_kb YBC hb
      replace YBS := blk_kb YBS hb
      have YZ := Aside0.mk hbox
      have HY10 := hz_
      clear hz_ hb hbox hg
      refine hK.out _ _ ⟨(blk_cell YBC.out 0).trans rfl, (blk_cell YBC.out 1).trans rfl, (blk_cell YBC.out 2).trans rfl, (blk_cell YBS.out 0).trans rfl, (blk_cell YBS.out 1).trans rfl, (blk_cell YBS.out 2).trans rfl, (blk_cell YBS.out 3).trans rfl, (blk_cell YBS.out 4).trans rfl⟩ (fun hHeld => ?_)
      clear hK K
      refine norm_ (a' := ?_) ?_ ?_
      rotate_left
      · show Act.put _ (some 5) _ = _
        simp only [Act.put, List.setIfInBounds_toArray, List.set_cons_zero, List.set_cons_succ, i64_w, i32_w]
        rfl
      refine one_ (i := 1) (N := some 11) #[true, true, true, false, false, true, false] rfl rfl (by kernel_rfl) (by decide) (fun K hK => ?_)
      refine goes_ Try.func29 (by kernel_rfl) rfl #[.agg #[.int .i64 a, .int .i64 i, .int .i64 h]] (by rfl) rfl rfl (by (try simp only [List.map_toArray, List.map_cons, List.map_nil]); first | done | rfl) ?_
      with_reducible refine (laws_toConfig.calls a i h a i h _ HTC.out).mono ?_
      rintro e wy11 ⟨rfl, hb⟩
      refine ⟨_, rfl, ?_⟩
      have hz_ := Aside0.mk (Below.size hb)
      replace HX : Aside0 (Below wq4.heap.size wq4 wy11) := ⟨below_step HX.out hb⟩
      replace YBC := blk_kb YBC hb
      replace YBS := blk_kb YBS hb
      replace YZ := blk_kb YZ hb
      have HY11 := hz_
      clear hz_ hb
      refine hK.out _ _ ⟨(blk_cell YBC.out 0).trans rfl, (blk_cell YBC.out 1).trans rfl, (blk_cell YBC.out 2).trans rfl, (blk_cell YBS.out 0).trans rfl, (blk_cell YBS.out 1).trans rfl, (blk_cell YBS.out 2).trans rfl, (blk_cell YBS.out 3).trans rfl, (blk_cell YBS.out 4).trans rfl⟩ (fun hHeld => ?_)
      clear hK K
      refine norm_ (a' := ?_) ?_ ?_
      rotate_left
      · show Act.put _ (some 11) _ = _
        simp only [Act.put, List.setIfInBounds_toArray, List.set_cons_zero, List.set_cons_succ, i64_w, i32_w]
        rfl
      refine one_ (i := 3) (N := some 13) #[true, true, true, true, false, true, false] rfl rfl (by kernel_rfl) (by decide) (fun K hK => ?_)
      refine goes_ Try.func30 (by kernel_rfl) rfl #[.agg #[.int .i64 s0, .int .i64 s1, .int .i64 s2, .int .i64 s3, .int .i64 s4]] (by rfl) rfl rfl (by (try simp only [List.map_toArray, List.map_cons, List.map_nil]); first | done | rfl) ?_
      with_reducible refine (laws_toSession.calls s0 s1 s2 s3 s4 s0 s1 s2 s3 s4 _ HTS.out).mono ?_
      rintro e wy12 ⟨rfl, hb⟩
      refine ⟨_, rfl, ?_⟩
      have hz_ := Aside0.mk (Below.size hb)
      replace HX : Aside0 (Below wq4.heap.size wq4 wy12) := ⟨below_step HX.out hb⟩
      replace YBC := blk_kb YBC hb
      replace YBS := blk_kb YBS hb
      replace YZ := blk_kb YZ hb
      have HY12 := hz_
      clear hz_ hb
      refine hK.out _ _ ⟨(blk_cell YBC.out 0).trans rfl, (blk_cell YBC.out 1).trans rfl, (blk_cell YBC.out 2).trans rfl, (blk_cell YBS.out 0).trans rfl, (blk_cell YBS.out 1).trans rfl, (blk_cell YBS.out 2).trans rfl, (blk_cell YBS.out 3).trans rfl, (blk_cell YBS.out 4).trans rfl⟩ (fun hHeld => ?_)
      clear hK K
      refine norm_ (a' := ?_) ?_ ?_
      rotate_left
      · show Act.put _ (some 13) _ = _
        simp only [Act.put, List.setIfInBounds_toArray, List.set_cons_zero, List.set_cons_succ, i64_w, i32_w]
        rfl
      refine one_ (i := 4) (N := some 14) #[true, true, true, true, true, true, false] rfl rfl (by kernel_rfl) (by decide) (fun K hK => ?_)
      refine goes_ Try.func45 (by kernel_rfl) rfl #[.agg #[.int .i64 a, .int .i64 i, .int .i64 h], .agg #[.int .i64 s0, .int .i64 s1, .int .i64 s2, .int .i64 s3, .int .i64 s4]] (by rfl) rfl rfl (by (try simp only [List.map_toArray, List.map_cons, List.map_nil]); first | done | rfl) ?_
      with_reducible refine (HSP.out _).mono ?_
      rintro e wy13 ⟨v, rfl, ho, hb⟩
      refine ⟨_, rfl, ?_⟩
      have YR := Siw (base := wq4.heap.size) ho HX.out.size
      have hz_ := Aside0.mk (Below.size hb)
      replace HX : Aside0 (Below wq4.heap.size wq4 wy13) := ⟨below_step HX.out hb⟩
      replace YBC := blk_kb YBC hb
      replace YBS := blk_kb YBS hb
      replace YZ := blk_kb YZ hb
      have HY13 := hz_
      clear hz_ hb ho
      refine hK.out _ _ ⟨(blk_cell YBC.out 0).trans rfl, (blk_cell YBC.out 1).trans rfl, (blk_cell YBC.out 2).trans rfl, (blk_cell YBS.out 0).trans rfl, (blk_cell YBS.out 1).trans rfl, (blk_cell YBS.out 2).trans rfl, (blk_cell YBS.out 3).trans rfl, (blk_cell YBS.out 4).trans rfl⟩ (fun hHeld => ?_)
      clear hK K
      refine norm_ (a' := ?_) ?_ ?_
      rotate_left
      · show Act.put _ (some 14) _ = _
        simp only [Act.put, List.setIfInBounds_toArray, List.set_cons_zero, List.set_cons_succ, i64_w, i32_w]
        rfl
      exact norm_ (by simp only [putAll, Act.put, List.setIfInBounds_toArray, List.set_cons_zero, List.set_cons_succ]) (hCont (_, gy) _ ⟨HX.out, YE.out, YZ.out, Kd.S_mono YR.out (fun k_ hk_ => by have hk2_ : _ ∧ _ := hk_; have hl_ := YL.out; have o0_ := HY10.out; have o1_ := HY11.out; have o2_ := HY12.out; have o3_ := HY13.out; omega)⟩)
  rintro ⟨v, gBW⟩ wq5 ⟨hb, hge, hbx, ho⟩
  have HLBW := Aside0.mk (blk_lt hbx)
  have HGBW := Aside0.mk hge
  have HEBW : Aside0 (w.heap.size ≤ gBW) := ⟨Nat.le_trans HB.out.size hge⟩
  have XW := Nin ho HB.out.size
  have HS5 := Aside0.mk (Below.size hb)
  replace BC := blk_kb BC hb
  replace BS := blk_kb BS hb
  replace HB := below_kb HB hb
  have BW := Aside0.mk hbx
  clear hb hge hbx ho
  obtain ⟨AXW, cXW, rfl⟩ := Kd.S_slice XW.out
  refine norm_ (a' := ?_) ?_ ?_
  rotate_left
  · simp only [putAll, Act.put, List.setIfInBounds_toArray, List.set_cons_zero, List.set_cons_succ]
    rfl
  refine last_ (i := 6) (N := none) #[true, true, true, true, true, true, true] rfl rfl (by kernel_rfl) (by decide) (fun K hK => ?_)
  (try clear hczBC_0 hczBC_1 hczBC_2 hfzBC_0 hfzBC_1 hfzBC_2 hczBS_0 hczBS_1 hczBS_2 hczBS_3 hczBS_4 hfzBS_0 hfzBS_1 hfzBS_2 hfzBS_3 hfzBS_4)
  obtain ⟨hczBW_0, hczBW_1, hczBW_2, hczBW_3, hczBW_4, hczBW_5, hczBW_6, hczBW_7, hczBW_8, hczBW_9, hfzBW_0, hfzBW_1, hfzBW_2, hfzBW_3, hfzBW_4, hfzBW_5, hfzBW_6, hfzBW_7, hfzBW_8, hfzBW_9⟩ := cf10_ BW
  refine skip_ (w1 := wq5.setCells gBW 0 [.int .i64 r1, .int .i64 r2, .int .i64 r3, .int .i64 r4, .int .i64 r5, .int .i64 r6, .slice AXW l.length cXW, .bool u, .bool d, .bool up]) ?_ ?_ ?_ ?_
  · first | kernel_rfl | rfl
  · rfl
  · first | (go_simp; done) | (go_simp; rfl)
  refine hK.out _ _ ?_
  clear hK K
  refine done_ (by kernel_rfl) ?_
  clear hczBW_0 hfzBW_0 hczBW_1 hfzBW_1 hczBW_2 hfzBW_2 hczBW_3 hfzBW_3 hczBW_4 hfzBW_4 hczBW_5 hfzBW_5 hczBW_6 hfzBW_6 hczBW_7 hfzBW_7 hczBW_8 hfzBW_8 hczBW_9 hfzBW_9
  generalize hw : wq5.setCells gBW 0 [.int .i64 r1, .int .i64 r2, .int .i64 r3, .int .i64 r4, .int .i64 r5, .int .i64 r6, .slice AXW l.length cXW, .bool u, .bool d, .bool up] = wn5
  have hk : Kept wq5 wn5 (fun k => k = gBW) := (by rw [← hw]; exact puts_kept [.int .i64 r1, .int .i64 r2, .int .i64 r3, .int .i64 r4, .int .i64 r5, .int .i64 r6, .slice AXW l.length cXW, .bool u, .bool d, .bool up] 0 _ _ (Kept.refl _ _))
  have hp_ := (show Aside0 (wn5.heap[gBW]? = some (.cells #[.int .i64 r1, .int .i64 r2, .int .i64 r3, .int .i64 r4, .int .i64 r5, .int .i64 r6, .slice AXW l.length cXW, .bool u, .bool d, .bool up] 45 (0, 0))) from by rw [← hw]; exact puts_blk BW [.int .i64 r1, .int .i64 r2, .int .i64 r3, .int .i64 r4, .int .i64 r5, .int .i64 r6, .slice AXW l.length cXW, .bool u, .bool d, .bool up] rfl)
  replace HB : Aside0 (Below w.heap.size w wn5) := ⟨by rw [← hw]; exact puts_below HEBW.out [.int .i64 r1, .int .i64 r2, .int .i64 r3, .int .i64 r4, .int .i64 r5, .int .i64 r6, .slice AXW l.length cXW, .bool u, .bool d, .bool up] 0 _ HB.out⟩
  have HK5 := Aside0.mk hk.1
  replace BC := blk_kk BC hk (fun h3 => by have o0_ := HS1.out; have o1_ := HGBC.out; have o2_ := HLBC.out; have o3_ := HS2.out; have o4_ := HGBS.out; have o5_ := HLBS.out; have o6_ := HS4.out; have o7_ := HS5.out; have o8_ := HLBW.out; have o9_ := HGBW.out; have h3_ := h3; omega)
  replace BS := blk_kk BS hk (fun h3 => by have o0_ := HS1.out; have o1_ := HGBC.out; have o2_ := HLBC.out; have o3_ := HS2.out; have o4_ := HGBS.out; have o5_ := HLBS.out; have o6_ := HS4.out; have o7_ := HS5.out; have o8_ := HLBW.out; have o9_ := HGBW.out; have h3_ := h3; omega)
  replace XW := Nkk XW hk (fun k h1 h2 hn h3 => by have o0_ := HS1.out; have o1_ := HGBC.out; have o2_ := HLBC.out; have o3_ := HS2.out; have o4_ := HGBS.out; have o5_ := HLBS.out; have o6_ := HS4.out; have o7_ := HS5.out; have o8_ := HLBW.out; have o9_ := HGBW.out; have h3_ := h3; omega)
  replace BW := hp_
  clear hw hk
  go_wp2
  have hb : Below wn5.heap.size wn5 wn5.drew := below_drew1 (Below.refl _ _)
  have HS7 := Aside0.mk (Below.size hb)
  replace BC := blk_kb BC hb
  replace BS := blk_kb BS hb
  replace XW := Nkb XW hb
  replace BW := blk_kb BW hb
  replace HB := below_kb HB hb
  clear hb
  refine start_ (n := 7) (S := fun w' => w'.cell? ⟨gBC, 0, none⟩ = some (.int .i64 a) ∧ w'.cell? ⟨gBC, 1, none⟩ = some (.int .i64 i) ∧ w'.cell? ⟨gBC, 2, none⟩ = some (.int .i64 h) ∧ w'.cell? ⟨gBS, 0, none⟩ = some (.int .i64 s0) ∧ w'.cell? ⟨gBS, 1, none⟩ = some (.int .i64 s1) ∧ w'.cell? ⟨gBS, 2, none⟩ = some (.int .i64 s2) ∧ w'.cell? ⟨gBS, 3, none⟩ = some (.int .i64 s3) ∧ w'.cell? ⟨gBS, 4, none⟩ = some (.int .i64 s4)) (ds := [6]) #[false, false, false, false, false, false, false] (by kernel_rfl) rfl rfl ⟨(blk_cell BC.out 0).trans rfl, (blk_cell BC.out 1).trans rfl, (blk_cell BC.out 2).trans rfl, (blk_cell BS.out 0).trans rfl, (blk_cell BS.out 1).trans rfl, (blk_cell BS.out 2).trans rfl, (blk_cell BS.out 3).trans rfl, (blk_cell BS.out 4).trans rfl⟩ (fun hHeld => ?_)
  generalize wn5.drew = wq7 at BC BS XW BW HB HS7 hHeld ⊢
  refine take_ (i := 0) (N := some 15) (v := ?_) (a' := ?_) #[true, false, false, false, false, false, false] rfl rfl (by kernel_rfl) (fun _ _ _ h => h) (Or.inl ⟨by rfl, ?_⟩) hHeld ?_ ?_
  rotate_left
  · rintro w' ⟨t0, t1, t2, t3, t4, t5, t6, t7⟩
    go_simp
    with_reducible rfl
  rotate_left
  · simp only [Act.put, List.setIfInBounds_toArray, List.set_cons_zero, List.set_cons_succ, i64_w, i32_w]
    rfl
  refine take_ (i := 2) (N := some 17) (v := ?_) (a' := ?_) #[true, false, true, false, false, false, false] rfl rfl (by kernel_rfl) (fun _ _ _ h => h) (Or.inl ⟨by rfl, ?_⟩) hHeld ?_ ?_
  rotate_left
  · rintro w' ⟨t0, t1, t2, t3, t4, t5, t6, t7⟩
    go_simp
    with_reducible rfl
  rotate_left
  · simp only [Act.put, List.setIfInBounds_toArray, List.set_cons_zero, List.set_cons_succ, i64_w, i32_w]
    rfl
  refine join_ (σ := Value × Nat) 1 #[true, true, true, true, true, true, false] (fun s_ => [(16, .agg #[.int .i64 a, .int .i64 i, .int .i64 h]), (18, .agg #[.int .i64 s0, .int .i64 s1, .int .i64 s2, .int .i64 s3, .int .i64 s4]), (19, .agg #[.int .i64 r1, .int .i64 r2, .int .i64 r3, .int .i64 r4, .int .i64 r5, .int .i64 r6, s_.1, .bool u, .bool d, .bool up]), (6, .pointer (some ⟨s_.2, 0, none⟩))]) (fun s_ w' => (Below wq7.heap.size wq7 w') ∧ (wq7.heap.size ≤ s_.2) ∧ (w'.heap[s_.2]? = some (.cells #[.int .i64 0, .int .i64 0, .int .i64 0, .int .i64 0, .int .i64 0, .int .i64 0, .slice none 0 0, .bool false, .bool false, .bool false] 45 (0, 0))) ∧ (Kd.S k136 136 w' wq7.heap.size (fun k_ => k_ ≠ s_.2) s_.1 l)) ?_ ?_
  rotate_left
  · intro hCont
    have HX := Aside0.mk (Below.refl wq7.heap.size wq7)
    have YBC := BC
    have YBS := BS
    clear HB BC BS XW BW
    refine two_ (i := 1) (j := 5) (Ni := some 16) (Nj := some 6) #[true, true, true, false, false, false, false] #[true, false, true, false, false, true, false] rfl rfl rfl rfl (by kernel_rfl) (by decide) (by decide) (fun K hK => ?_) (fun K hK => ?_)
    · skip
      refine goes_ Try.func29 (by kernel_rfl) rfl #[.agg #[.int .i64 a, .int .i64 i, .int .i64 h]] (by rfl) rfl rfl (by (try simp only [List.map_toArray, List.map_cons, List.map_nil]); first | done | rfl) ?_
      with_reducible refine (laws_toConfig.calls a i h a i h _ HTC.out).mono ?_
      rintro e wy1 ⟨rfl, hb⟩
      refine ⟨_, rfl, ?_⟩
      have hz_ := Aside0.mk (Below.size hb)
      replace HX : Aside0 (Below wq7.heap.size wq7 wy1) := ⟨below_step HX.out hb⟩
      replace YBC := blk_kb YBC hb
      replace YBS := blk_kb YBS hb
      have HY1 := hz_
      clear hz_ hb
      refine hK.out _ _ ⟨(blk_cell YBC.out 0).trans rfl, (blk_cell YBC.out 1).trans rfl, (blk_cell YBC.out 2).trans rfl, (blk_cell YBS.out 0).trans rfl, (blk_cell YBS.out 1).trans rfl, (blk_cell YBS.out 2).trans rfl, (blk_cell YBS.out 3).trans rfl, (blk_cell YBS.out 4).trans rfl⟩ (fun hHeld => ?_)
      clear hK K
      refine norm_ (a' := ?_) ?_ ?_
      rotate_left
      · show Act.put _ (some 16) _ = _
        simp only [Act.put, List.setIfInBounds_toArray, List.set_cons_zero, List.set_cons_succ, i64_w, i32_w]
        rfl
      refine two_ (i := 3) (j := 5) (Ni := some 18) (Nj := some 6) #[true, true, true, true, false, false, false] #[true, true, true, false, false, true, false] rfl rfl rfl rfl (by kernel_rfl) (by decide) (by decide) (fun K hK => ?_) (fun K hK => ?_)
      · skip
        refine goes_ Try.func30 (by kernel_rfl) rfl #[.agg #[.int .i64 s0, .int .i64 s1, .int .i64 s2, .int .i64 s3, .int .i64 s4]] (by rfl) rfl rfl (by (try simp only [List.map_toArray, List.map_cons, List.map_nil]); first | done | rfl) ?_
        with_reducible refine (laws_toSession.calls s0 s1 s2 s3 s4 s0 s1 s2 s3 s4 _ HTS.out).mono ?_
        rintro e wy2 ⟨rfl, hb⟩
        refine ⟨_, rfl, ?_⟩
        have hz_ := Aside0.mk (Below.size hb)
        replace HX : Aside0 (Below wq7.heap.size wq7 wy2) := ⟨below_step HX.out hb⟩
        replace YBC := blk_kb YBC hb
        replace YBS := blk_kb YBS hb
        have HY2 := hz_
        clear hz_ hb
        refine hK.out _ _ ⟨(blk_cell YBC.out 0).trans rfl, (blk_cell YBC.out 1).trans rfl, (blk_cell YBC.out 2).trans rfl, (blk_cell YBS.out 0).trans rfl, (blk_cell YBS.out 1).trans rfl, (blk_cell YBS.out 2).trans rfl, (blk_cell YBS.out 3).trans rfl, (blk_cell YBS.out 4).trans rfl⟩ (fun hHeld => ?_)
        clear hK K
        refine norm_ (a' := ?_) ?_ ?_
        rotate_left
        · show Act.put _ (some 18) _ = _
          simp only [Act.put, List.setIfInBounds_toArray, List.set_cons_zero, List.set_cons_succ, i64_w, i32_w]
          rfl
        refine two_ (i := 4) (j := 5) (Ni := some 19) (Nj := some 6) #[true, true, true, true, true, false, false] #[true, true, true, true, false, true, false] rfl rfl rfl rfl (by kernel_rfl) (by decide) (by decide) (fun K hK => ?_) (fun K hK => ?_)
        · skip
          refine goes_ Try.func46 (by kernel_rfl) rfl #[.agg #[.int .i64 a, .int .i64 i, .int .i64 h], .agg #[.int .i64 s0, .int .i64 s1, .int .i64 s2, .int .i64 s3, .int .i64 s4]] (by rfl) rfl rfl (by (try simp only [List.map_toArray, List.map_cons, List.map_nil]); first | done | rfl) ?_
          with_reducible refine (HIM.out _).mono ?_
          rintro e wy3 ⟨v, rfl, ho, hb⟩
          refine ⟨_, rfl, ?_⟩
          have YR := Siw (base := wq7.heap.size) ho HX.out.size
          have hz_ := Aside0.mk (Below.size hb)
          replace HX : Aside0 (Below wq7.heap.size wq7 wy3) := ⟨below_step HX.out hb⟩
          replace YBC := blk_kb YBC hb
          replace YBS := blk_kb YBS hb
          have HY3 := hz_
          clear hz_ hb ho
          refine hK.out _ _ ⟨(blk_cell YBC.out 0).trans rfl, (blk_cell YBC.out 1).trans rfl, (blk_cell YBC.out 2).trans rfl, (blk_cell YBS.out 0).trans rfl, (blk_cell YBS.out 1).trans rfl, (blk_cell YBS.out 2).trans rfl, (blk_cell YBS.out 3).trans rfl, (blk_cell YBS.out 4).trans rfl⟩ (fun hHeld => ?_)
          clear hK K
          refine norm_ (a' := ?_) ?_ ?_
          rotate_left
          · show Act.put _ (some 19) _ = _
            simp only [Act.put, List.setIfInBounds_toArray, List.set_cons_zero, List.set_cons_succ, i64_w, i32_w]
            rfl
          refine one_ (i := 5) (N := some 6) #[true, true, true, true, true, true, false] rfl rfl (by kernel_rfl) (by decide) (fun K hK => ?_)
          refine box_step ?hg (N := 6) ?hd (cs := #[.int .i64 0, .int .i64 0, .int .i64 0, .int .i64 0, .int .i64 0, .int .i64 0, .slice none 0 0, .bool false, .bool false, .bool false]) (t := 45) ?hr ?_
          (case hd => rfl)
          (case hg => rfl)
          (case hr => first | (go_simp; done) | (go_simp; rfl))
          intro gy hg wy4 hbox hb
          have YG := Aside0.mk hg
          have YL := Aside0.mk (blk_lt hbox)
          have YE : Aside0 (wq7.heap.size ≤ gy) := ⟨by rw [hg]; exact HX.out.size⟩
          have hz_ := Aside0.mk (Below.size hb)
          replace HX : Aside0 (Below wq7.heap.size wq7 wy4) := ⟨below_step HX.out hb⟩
          replace YBC := blk_kb YBC hb
          replace YBS := blk_kb YBS hb
          replace YR := Skb_iv YR hb
          have YZ := Aside0.mk hbox
          have HY4 := hz_
          clear hz_ hb hbox hg
          refine hK.out _ _ ⟨(blk_cell YBC.out 0).trans rfl, (blk_cell YBC.out 1).trans rfl, (blk_cell YBC.out 2).trans rfl, (blk_cell YBS.out 0).trans rfl, (blk_cell YBS.out 1).trans rfl, (blk_cell YBS.out 2).trans rfl, (blk_cell YBS.out 3).trans rfl, (blk_cell YBS.out 4).trans rfl⟩ (fun hHeld => ?_)
          clear hK K
          refine norm_ (a' := ?_) ?_ ?_
          rotate_left
          · show Act.put _ (some 6) _ = _
            simp only [Act.put, List.setIfInBounds_toArray, List.set_cons_zero, List.set_cons_succ, i64_w, i32_w]
            rfl
          exact norm_ (by simp only [putAll, Act.put, List.setIfInBounds_toArray, List.set_cons_zero, List.set_cons_succ]) (hCont (_, gy) _ ⟨HX.out, YE.out, YZ.out, Kd.S_mono YR.out (fun k_ hk_ => by have hk2_ : _ ∧ _ := hk_; have hg_ := YG.out; have o0_ := HY1.out; have o1_ := HY2.out; have o2_ := HY3.out; have o3_ := HY4.out; omega)⟩)
        · skip
          refine box_step ?hg (N := 6) ?hd (cs := #[.int .i64 0, .int .i64 0, .int .i64 0, .int .i64 0, .int .i64 0, .int .i64 0, .slice none 0 0, .bool false, .bool false, .bool false]) (t := 45) ?hr ?_
          (case hd => rfl)
          (case hg => rfl)
          (case hr => first | (go_simp; done) | (go_simp; rfl))
          intro gy hg wy5 hbox hb
          have YG := Aside0.mk hg
          have YL := Aside0.mk (blk_lt hbox)
          have YE : Aside0 (wq7.heap.size ≤ gy) := ⟨by rw [hg]; exact HX.out.size⟩
          have hz_ := Aside0.mk (Below.size hb)
          replace HX : Aside0 (Below wq7.heap.size wq7 wy5) := ⟨below_step HX.out hb⟩
          replace YBC := blk_kb YBC hb
          replace YBS := blk_kb YBS hb
          have YZ := Aside0.mk hbox
          have HY5 := hz_
          clear hz_ hb hbox hg
          refine hK.out _ _ ⟨(blk_cell YBC.out 0).trans rfl, (blk_cell YBC.out 1).trans rfl, (blk_cell YBC.out 2).trans rfl, (blk_cell YBS.out 0).trans rfl, (blk_cell YBS.out 1).trans rfl, (blk_cell YBS.out 2).trans rfl, (blk_cell YBS.out 3).trans rfl, (blk_cell YBS.out 4).trans rfl⟩ (fun hHeld => ?_)
          clear hK K
          refine norm_ (a' := ?_) ?_ ?_
          rotate_left
          · show Act.put _ (some 6) _ = _
            simp only [Act.put, List.setIfInBounds_toArray, List.set_cons_zero, List.set_cons_succ, i64_w, i32_w]
            rfl
          refine one_ (i := 4) (N := some 19) #[true, true, true, true, true, true, false] rfl rfl (by kernel_rfl) (by decide) (fun K hK => ?_)
          refine goes_ Try.func46 (by kernel_rfl) rfl #[.agg #[.int .i64 a, .int .i64 i, .int .i64 h], .agg #[.int .i64 s0, .int .i64 s1, .int .i64 s2, .int .i64 s3, .int .i64 s4]] (by rfl) rfl rfl (by (try simp only [List.map_toArray, List.map_cons, List.map_nil]); first | done | rfl) ?_
          with_reducible refine (HIM.out _).mono ?_
          rintro e wy6 ⟨v, rfl, ho, hb⟩
          refine ⟨_, rfl, ?_⟩
          have YR := Siw (base := wq7.heap.size) ho HX.out.size
          have hz_ := Aside0.mk (Below.size hb)
          replace HX : Aside0 (Below wq7.heap.size wq7 wy6) := ⟨below_step HX.out hb⟩
          replace YBC := blk_kb YBC hb
          replace YBS := blk_kb YBS hb
          replace YZ := blk_kb YZ hb
          have HY6 := hz_
          clear hz_ hb ho
          refine hK.out _ _ ⟨(blk_cell YBC.out 0).trans rfl, (blk_cell YBC.out 1).trans rfl, (blk_cell YBC.out 2).trans rfl, (blk_cell YBS.out 0).trans rfl, (blk_cell YBS.out 1).trans rfl, (blk_cell YBS.out 2).trans rfl, (blk_cell YBS.out 3).trans rfl, (blk_cell YBS.out 4).trans rfl⟩ (fun hHeld => ?_)
          clear hK K
          refine norm_ (a' := ?_) ?_ ?_
          rotate_left
          · show Act.put _ (some 19) _ = _
            simp only [Act.put, List.setIfInBounds_toArray, List.set_cons_zero, List.set_cons_succ, i64_w, i32_w]
            rfl
          exact norm_ (by simp only [putAll, Act.put, List.setIfInBounds_toArray, List.set_cons_zero, List.set_cons_succ]) (hCont (_, gy) _ ⟨HX.out, YE.out, YZ.out, Kd.S_mono YR.out (fun k_ hk_ => by have hk2_ : _ ∧ _ := hk_; have hl_ := YL.out; have o0_ := HY1.out; have o1_ := HY2.out; have o2_ := HY5.out; have o3_ := HY6.out; omega)⟩)
      · skip
        refine box_step ?hg (N := 6) ?hd (cs := #[.int .i64 0, .int .i64 0, .int .i64 0, .int .i64 0, .int .i64 0, .int .i64 0, .slice none 0 0, .bool false, .bool false, .bool false]) (t := 45) ?hr ?_
        (case hd => rfl)
        (case hg => rfl)
        (case hr => first | (go_simp; done) | (go_simp; rfl))
        intro gy hg wy7 hbox hb
        have YG := Aside0.mk hg
        have YL := Aside0.mk (blk_lt hbox)
        have YE : Aside0 (wq7.heap.size ≤ gy) := ⟨by rw [hg]; exact HX.out.size⟩
        have hz_ := Aside0.mk (Below.size hb)
        replace HX : Aside0 (Below wq7.heap.size wq7 wy7) := ⟨below_step HX.out hb⟩
        replace YBC := blk_kb YBC hb
        replace YBS := blk_kb YBS hb
        have YZ := Aside0.mk hbox
        have HY7 := hz_
        clear hz_ hb hbox hg
        refine hK.out _ _ ⟨(blk_cell YBC.out 0).trans rfl, (blk_cell YBC.out 1).trans rfl, (blk_cell YBC.out 2).trans rfl, (blk_cell YBS.out 0).trans rfl, (blk_cell YBS.out 1).trans rfl, (blk_cell YBS.out 2).trans rfl, (blk_cell YBS.out 3).trans rfl, (blk_cell YBS.out 4).trans rfl⟩ (fun hHeld => ?_)
        clear hK K
        refine norm_ (a' := ?_) ?_ ?_
        rotate_left
        · show Act.put _ (some 6) _ = _
          simp only [Act.put, List.setIfInBounds_toArray, List.set_cons_zero, List.set_cons_succ, i64_w, i32_w]
          rfl
        refine one_ (i := 3) (N := some 18) #[true, true, true, true, false, true, false] rfl rfl (by kernel_rfl) (by decide) (fun K hK => ?_)
        refine goes_ Try.func30 (by kernel_rfl) rfl #[.agg #[.int .i64 s0, .int .i64 s1, .int .i64 s2, .int .i64 s3, .int .i64 s4]] (by rfl) rfl rfl (by (try simp only [List.map_toArray, List.map_cons, List.map_nil]); first | done | rfl) ?_
        with_reducible refine (laws_toSession.calls s0 s1 s2 s3 s4 s0 s1 s2 s3 s4 _ HTS.out).mono ?_
        rintro e wy8 ⟨rfl, hb⟩
        refine ⟨_, rfl, ?_⟩
        have hz_ := Aside0.mk (Below.size hb)
        replace HX : Aside0 (Below wq7.heap.size wq7 wy8) := ⟨below_step HX.out hb⟩
        replace YBC := blk_kb YBC hb
        replace YBS := blk_kb YBS hb
        replace YZ := blk_kb YZ hb
        have HY8 := hz_
        clear hz_ hb
        refine hK.out _ _ ⟨(blk_cell YBC.out 0).trans rfl, (blk_cell YBC.out 1).trans rfl, (blk_cell YBC.out 2).trans rfl, (blk_cell YBS.out 0).trans rfl, (blk_cell YBS.out 1).trans rfl, (blk_cell YBS.out 2).trans rfl, (blk_cell YBS.out 3).trans rfl, (blk_cell YBS.out 4).trans rfl⟩ (fun hHeld => ?_)
        clear hK K
        refine norm_ (a' := ?_) ?_ ?_
        rotate_left
        · show Act.put _ (some 18) _ = _
          simp only [Act.put, List.setIfInBounds_toArray, List.set_cons_zero, List.set_cons_succ, i64_w, i32_w]
          rfl
        refine one_ (i := 4) (N := some 19) #[true, true, true, true, true, true, false] rfl rfl (by kernel_rfl) (by decide) (fun K hK => ?_)
        refine goes_ Try.func46 (by kernel_rfl) rfl #[.agg #[.int .i64 a, .int .i64 i, .int .i64 h], .agg #[.int .i64 s0, .int .i64 s1, .int .i64 s2, .int .i64 s3, .int .i64 s4]] (by rfl) rfl rfl (by (try simp only [List.map_toArray, List.map_cons, List.map_nil]); first | done | rfl) ?_
        with_reducible refine (HIM.out _).mono ?_
        rintro e wy9 ⟨v, rfl, ho, hb⟩
        refine ⟨_, rfl, ?_⟩
        have YR := Siw (base := wq7.heap.size) ho HX.out.size
        have hz_ := Aside0.mk (Below.size hb)
        replace HX : Aside0 (Below wq7.heap.size wq7 wy9) := ⟨below_step HX.out hb⟩
        replace YBC := blk_kb YBC hb
        replace YBS := blk_kb YBS hb
        replace YZ := blk_kb YZ hb
        have HY9 := hz_
        clear hz_ hb ho
        refine hK.out _ _ ⟨(blk_cell YBC.out 0).trans rfl, (blk_cell YBC.out 1).trans rfl, (blk_cell YBC.out 2).trans rfl, (blk_cell YBS.out 0).trans rfl, (blk_cell YBS.out 1).trans rfl, (blk_cell YBS.out 2).trans rfl, (blk_cell YBS.out 3).trans rfl, (blk_cell YBS.out 4).trans rfl⟩ (fun hHeld => ?_)
        clear hK K
        refine norm_ (a' := ?_) ?_ ?_
        rotate_left
        · show Act.put _ (some 19) _ = _
          simp only [Act.put, List.setIfInBounds_toArray, List.set_cons_zero, List.set_cons_succ, i64_w, i32_w]
          rfl
        exact norm_ (by simp only [putAll, Act.put, List.setIfInBounds_toArray, List.set_cons_zero, List.set_cons_succ]) (hCont (_, gy) _ ⟨HX.out, YE.out, YZ.out, Kd.S_mono YR.out (fun k_ hk_ => by have hk2_ : _ ∧ _ := hk_; have hl_ := YL.out; have o0_ := HY1.out; have o1_ := HY7.out; have o2_ := HY8.out; have o3_ := HY9.out; omega)⟩)
    · skip
      refine box_step ?hg (N := 6) ?hd (cs := #[.int .i64 0, .int .i64 0, .int .i64 0, .int .i64 0, .int .i64 0, .int .i64 0, .slice none 0 0, .bool false, .bool false, .bool false]) (t := 45) ?hr ?_
      (case hd => rfl)
      (case hg => rfl)
      (case hr => first | (go_simp; done) | (go_simp; rfl))
      intro gy hg wy10 hbox hb
      have YG := Aside0.mk hg
      have YL := Aside0.mk (blk_lt hbox)
      have YE : Aside0 (wq7.heap.size ≤ gy) := ⟨by rw [hg]; exact HX.out.size⟩
      have hz_ := Aside0.mk (Below.size hb)
      replace HX : Aside0 (Below wq7.heap.size wq7 wy10) := ⟨below_step HX.out hb⟩
      replace YBC := blk_kb YBC hb
      replace YBS := blk_kb YBS hb
      have YZ := Aside0.mk hbox
      have HY10 := hz_
      clear hz_ hb hbox hg
      refine hK.out _ _ ⟨(blk_cell YBC.out 0).trans rfl, (blk_cell YBC.out 1).trans rfl, (blk_cell YBC.out 2).trans rfl, (blk_cell YBS.out 0).trans rfl, (blk_cell YBS.out 1).trans rfl, (blk_cell YBS.out 2).trans rfl, (blk_cell YBS.out 3).trans rfl, (blk_cell YBS.out 4).trans rfl⟩ (fun hHeld => ?_)
      clear hK K
      refine norm_ (a' := ?_) ?_ ?_
      rotate_left
      · show Act.put _ (some 6) _ = _
        simp only [Act.put, List.setIfInBounds_toArray, List.set_cons_zero, List.set_cons_succ, i64_w, i32_w]
        rfl
      refine one_ (i := 1) (N := some 16) #[true, true, true, false, false, true, false] rfl rfl (by kernel_rfl) (by decide) (fun K hK => ?_)
      refine goes_ Try.func29 (by kernel_rfl) rfl #[.agg #[.int .i64 a, .int .i64 i, .int .i64 h]] (by rfl) rfl rfl (by (try simp only [List.map_toArray, List.map_cons, List.map_nil]); first | done | rfl) ?_
      with_reducible refine (laws_toConfig.calls a i h a i h _ HTC.out).mono ?_
      rintro e wy11 ⟨rfl, hb⟩
      refine ⟨_, rfl, ?_⟩
      have hz_ := Aside0.mk (Below.size hb)
      replace HX : Aside0 (Below wq7.heap.size wq7 wy11) := ⟨below_step HX.out hb⟩
      replace YBC := blk_kb YBC hb
      replace YBS := blk_kb YBS hb
      replace YZ := blk_kb YZ hb
      have HY11 := hz_
      clear hz_ hb
      refine hK.out _ _ ⟨(blk_cell YBC.out 0).trans rfl, (blk_cell YBC.out 1).trans rfl, (blk_cell YBC.out 2).trans rfl, (blk_cell YBS.out 0).trans rfl, (blk_cell YBS.out 1).trans rfl, (blk_cell YBS.out 2).trans rfl, (blk_cell YBS.out 3).trans rfl, (blk_cell YBS.out 4).trans rfl⟩ (fun hHeld => ?_)
      clear hK K
      refine norm_ (a' := ?_) ?_ ?_
      rotate_left
      · show Act.put _ (some 16) _ = _
        simp only [Act.put, List.setIfInBounds_toArray, List.set_cons_zero, List.set_cons_succ, i64_w, i32_w]
        rfl
      refine one_ (i := 3) (N := some 18) #[true, true, true, true, false, true, false] rfl rfl (by kernel_rfl) (by decide) (fun K hK => ?_)
      refine goes_ Try.func30 (by kernel_rfl) rfl #[.agg #[.int .i64 s0, .int .i64 s1, .int .i64 s2, .int .i64 s3, .int .i64 s4]] (by rfl) rfl rfl (by (try simp only [List.map_toArray, List.map_cons, List.map_nil]); first | done | rfl) ?_
      with_reducible refine (laws_toSession.calls s0 s1 s2 s3 s4 s0 s1 s2 s3 s4 _ HTS.out).mono ?_
      rintro e wy12 ⟨rfl, hb⟩
      refine ⟨_, rfl, ?_⟩
      have hz_ := Aside0.mk (Below.size hb)
      replace HX : Aside0 (Below wq7.heap.size wq7 wy12) := ⟨below_step HX.out hb⟩
      replace YBC := blk_kb YBC hb
      replace YBS := blk_kb YBS hb
      replace YZ := blk_kb YZ hb
      have HY12 := hz_
      clear hz_ hb
      refine hK.out _ _ ⟨(blk_cell YBC.out 0).trans rfl, (blk_cell YBC.out 1).trans rfl, (blk_cell YBC.out 2).trans rfl, (blk_cell YBS.out 0).trans rfl, (blk_cell YBS.out 1).trans rfl, (blk_cell YBS.out 2).trans rfl, (blk_cell YBS.out 3).trans rfl, (blk_cell YBS.out 4).trans rfl⟩ (fun hHeld => ?_)
      clear hK K
      refine norm_ (a' := ?_) ?_ ?_
      rotate_left
      · show Act.put _ (some 18) _ = _
        simp only [Act.put, List.setIfInBounds_toArray, List.set_cons_zero, List.set_cons_succ, i64_w, i32_w]
        rfl
      refine one_ (i := 4) (N := some 19) #[true, true, true, true, true, true, false] rfl rfl (by kernel_rfl) (by decide) (fun K hK => ?_)
      refine goes_ Try.func46 (by kernel_rfl) rfl #[.agg #[.int .i64 a, .int .i64 i, .int .i64 h], .agg #[.int .i64 s0, .int .i64 s1, .int .i64 s2, .int .i64 s3, .int .i64 s4]] (by rfl) rfl rfl (by (try simp only [List.map_toArray, List.map_cons, List.map_nil]); first | done | rfl) ?_
      with_reducible refine (HIM.out _).mono ?_
      rintro e wy13 ⟨v, rfl, ho, hb⟩
      refine ⟨_, rfl, ?_⟩
      have YR := Siw (base := wq7.heap.size) ho HX.out.size
      have hz_ := Aside0.mk (Below.size hb)
      replace HX : Aside0 (Below wq7.heap.size wq7 wy13) := ⟨below_step HX.out hb⟩
      replace YBC := blk_kb YBC hb
      replace YBS := blk_kb YBS hb
      replace YZ := blk_kb YZ hb
      have HY13 := hz_
      clear hz_ hb ho
      refine hK.out _ _ ⟨(blk_cell YBC.out 0).trans rfl, (blk_cell YBC.out 1).trans rfl, (blk_cell YBC.out 2).trans rfl, (blk_cell YBS.out 0).trans rfl, (blk_cell YBS.out 1).trans rfl, (blk_cell YBS.out 2).trans rfl, (blk_cell YBS.out 3).trans rfl, (blk_cell YBS.out 4).trans rfl⟩ (fun hHeld => ?_)
      clear hK K
      refine norm_ (a' := ?_) ?_ ?_
      rotate_left
      · show Act.put _ (some 19) _ = _
        simp only [Act.put, List.setIfInBounds_toArray, List.set_cons_zero, List.set_cons_succ, i64_w, i32_w]
        rfl
      exact norm_ (by simp only [putAll, Act.put, List.setIfInBounds_toArray, List.set_cons_zero, List.set_cons_succ]) (hCont (_, gy) _ ⟨HX.out, YE.out, YZ.out, Kd.S_mono YR.out (fun k_ hk_ => by have hk2_ : _ ∧ _ := hk_; have hl_ := YL.out; have o0_ := HY10.out; have o1_ := HY11.out; have o2_ := HY12.out; have o3_ := HY13.out; omega)⟩)
  rintro ⟨v, gBG⟩ wq8 ⟨hb, hge, hbx, ho⟩
  have HLBG := Aside0.mk (blk_lt hbx)
  have HGBG := Aside0.mk hge
  have HEBG : Aside0 (w.heap.size ≤ gBG) := ⟨Nat.le_trans HB.out.size hge⟩
  have XG := Nin ho HB.out.size
  have HS8 := Aside0.mk (Below.size hb)
  replace BC := blk_kb BC hb
  replace BS := blk_kb BS hb
  replace XW := Nkb XW hb
  replace BW := blk_kb BW hb
  replace HB := below_kb HB hb
  have BG := Aside0.mk hbx
  clear hb hge hbx ho
  obtain ⟨AXG, cXG, rfl⟩ := Kd.S_slice XG.out
  refine norm_ (a' := ?_) ?_ ?_
  rotate_left
  · simp only [putAll, Act.put, List.setIfInBounds_toArray, List.set_cons_zero, List.set_cons_succ]
    rfl
  refine last_ (i := 6) (N := none) #[true, true, true, true, true, true, true] rfl rfl (by kernel_rfl) (by decide) (fun K hK => ?_)
  obtain ⟨hczBG_0, hczBG_1, hczBG_2, hczBG_3, hczBG_4, hczBG_5, hczBG_6, hczBG_7, hczBG_8, hczBG_9, hfzBG_0, hfzBG_1, hfzBG_2, hfzBG_3, hfzBG_4, hfzBG_5, hfzBG_6, hfzBG_7, hfzBG_8, hfzBG_9⟩ := cf10_ BG
  refine skip_ (w1 := wq8.setCells gBG 0 [.int .i64 r1, .int .i64 r2, .int .i64 r3, .int .i64 r4, .int .i64 r5, .int .i64 r6, .slice AXG l.length cXG, .bool u, .bool d, .bool up]) ?_ ?_ ?_ ?_
  · first | kernel_rfl | rfl
  · rfl
  · first | (go_simp; done) | (go_simp; rfl)
  refine hK.out _ _ ?_
  clear hK K
  refine done_ (by kernel_rfl) ?_
  clear hczBG_0 hfzBG_0 hczBG_1 hfzBG_1 hczBG_2 hfzBG_2 hczBG_3 hfzBG_3 hczBG_4 hfzBG_4 hczBG_5 hfzBG_5 hczBG_6 hfzBG_6 hczBG_7 hfzBG_7 hczBG_8 hfzBG_8 hczBG_9 hfzBG_9
  generalize hw : wq8.setCells gBG 0 [.int .i64 r1, .int .i64 r2, .int .i64 r3, .int .i64 r4, .int .i64 r5, .int .i64 r6, .slice AXG l.length cXG, .bool u, .bool d, .bool up] = wn8
  have hk : Kept wq8 wn8 (fun k => k = gBG) := (by rw [← hw]; exact puts_kept [.int .i64 r1, .int .i64 r2, .int .i64 r3, .int .i64 r4, .int .i64 r5, .int .i64 r6, .slice AXG l.length cXG, .bool u, .bool d, .bool up] 0 _ _ (Kept.refl _ _))
  have hp_ := (show Aside0 (wn8.heap[gBG]? = some (.cells #[.int .i64 r1, .int .i64 r2, .int .i64 r3, .int .i64 r4, .int .i64 r5, .int .i64 r6, .slice AXG l.length cXG, .bool u, .bool d, .bool up] 45 (0, 0))) from by rw [← hw]; exact puts_blk BG [.int .i64 r1, .int .i64 r2, .int .i64 r3, .int .i64 r4, .int .i64 r5, .int .i64 r6, .slice AXG l.length cXG, .bool u, .bool d, .bool up] rfl)
  replace HB : Aside0 (Below w.heap.size w wn8) := ⟨by rw [← hw]; exact puts_below HEBG.out [.int .i64 r1, .int .i64 r2, .int .i64 r3, .int .i64 r4, .int .i64 r5, .int .i64 r6, .slice AXG l.length cXG, .bool u, .bool d, .bool up] 0 _ HB.out⟩
  have HK8 := Aside0.mk hk.1
  replace BC := blk_kk BC hk (fun h3 => by have o0_ := HS1.out; have o1_ := HGBC.out; have o2_ := HLBC.out; have o3_ := HS2.out; have o4_ := HGBS.out; have o5_ := HLBS.out; have o6_ := HS4.out; have o7_ := HS5.out; have o8_ := HLBW.out; have o9_ := HGBW.out; have o10_ := HK5.out; have o11_ := HS7.out; have o12_ := HS8.out; have o13_ := HLBG.out; have o14_ := HGBG.out; have h3_ := h3; omega)
  replace BS := blk_kk BS hk (fun h3 => by have o0_ := HS1.out; have o1_ := HGBC.out; have o2_ := HLBC.out; have o3_ := HS2.out; have o4_ := HGBS.out; have o5_ := HLBS.out; have o6_ := HS4.out; have o7_ := HS5.out; have o8_ := HLBW.out; have o9_ := HGBW.out; have o10_ := HK5.out; have o11_ := HS7.out; have o12_ := HS8.out; have o13_ := HLBG.out; have o14_ := HGBG.out; have h3_ := h3; omega)
  replace XW := Nkk XW hk (fun k h1 h2 hn h3 => by have o0_ := HS1.out; have o1_ := HGBC.out; have o2_ := HLBC.out; have o3_ := HS2.out; have o4_ := HGBS.out; have o5_ := HLBS.out; have o6_ := HS4.out; have o7_ := HS5.out; have o8_ := HLBW.out; have o9_ := HGBW.out; have o10_ := HK5.out; have o11_ := HS7.out; have o12_ := HS8.out; have o13_ := HLBG.out; have o14_ := HGBG.out; have h3_ := h3; omega)
  replace BW := blk_kk BW hk (fun h3 => by have o0_ := HS1.out; have o1_ := HGBC.out; have o2_ := HLBC.out; have o3_ := HS2.out; have o4_ := HGBS.out; have o5_ := HLBS.out; have o6_ := HS4.out; have o7_ := HS5.out; have o8_ := HLBW.out; have o9_ := HGBW.out; have o10_ := HK5.out; have o11_ := HS7.out; have o12_ := HS8.out; have o13_ := HLBG.out; have o14_ := HGBG.out; have h3_ := h3; omega)
  replace XG := Nkk XG hk (fun k h1 h2 hn h3 => by have o0_ := HS1.out; have o1_ := HGBC.out; have o2_ := HLBC.out; have o3_ := HS2.out; have o4_ := HGBS.out; have o5_ := HLBS.out; have o6_ := HS4.out; have o7_ := HS5.out; have o8_ := HLBW.out; have o9_ := HGBW.out; have o10_ := HK5.out; have o11_ := HS7.out; have o12_ := HS8.out; have o13_ := HLBG.out; have o14_ := HGBG.out; have h3_ := h3; omega)
  replace BG := hp_
  clear hw hk
  obtain ⟨hczBG_0, hczBG_1, hczBG_2, hczBG_3, hczBG_4, hczBG_5, hczBG_6, hczBG_7, hczBG_8, hczBG_9, hfzBG_0, hfzBG_1, hfzBG_2, hfzBG_3, hfzBG_4, hfzBG_5, hfzBG_6, hfzBG_7, hfzBG_8, hfzBG_9⟩ := cf10_ BG
  obtain ⟨hczBW_0, hczBW_1, hczBW_2, hczBW_3, hczBW_4, hczBW_5, hczBW_6, hczBW_7, hczBW_8, hczBW_9, hfzBW_0, hfzBW_1, hfzBW_2, hfzBW_3, hfzBW_4, hfzBW_5, hfzBW_6, hfzBW_7, hfzBW_8, hfzBW_9⟩ := cf10_ BW
  go_wp2_with (first
    | ((with_reducible refine gate_dst (N := 22) rfl ?_); refine goe_ (some 22) Try.func32 #[.agg #[.int .i64 r1, .int .i64 r2, .int .i64 r3, .int .i64 r4, .int .i64 r5, .int .i64 r6, .slice AXG l.length cXG, .bool u, .bool d, .bool up], .agg #[.int .i64 r1, .int .i64 r2, .int .i64 r3, .int .i64 r4, .int .i64 r5, .int .i64 r6, .slice AXW l.length cXW, .bool u, .bool d, .bool up]] ?_; (with_reducible refine (laws_eqSessionResult.calls k r1 r2 r3 r4 r5 r6 _ _ l u d up r1 r2 r3 r4 r5 r6 _ _ l u d up true _ ?side1 ?side2 ?side3 ?side4 HEQ.out).mono ?_); (case side1 => exact (Kd.S_reads' XG.out).2.2); (case side2 => exact (Kd.S_reads' XG.out).2.1); (case side3 => exact (Kd.S_reads' XW.out).2.2); (case side4 => exact (Kd.S_reads' XW.out).2.1); rintro e wq9 ⟨rfl, hb⟩; refine ⟨_, rfl, ?_⟩; have HS9 := Aside0.mk (Below.size hb); replace BC := blk_kb BC hb; replace BS := blk_kb BS hb; replace XW := Nkb XW hb; replace BW := blk_kb BW hb; replace XG := Nkb XG hb; replace BG := blk_kb BG hb; replace HB := below_kb HB hb; (try clear hczBG_0 hczBG_1 hczBG_2 hczBG_3 hczBG_4 hczBG_5 hczBG_6 hczBG_7 hczBG_8 hczBG_9 hfzBG_0 hfzBG_1 hfzBG_2 hfzBG_3 hfzBG_4 hfzBG_5 hfzBG_6 hfzBG_7 hfzBG_8 hfzBG_9 hczBW_0 hczBW_1 hczBW_2 hczBW_3 hczBW_4 hczBW_5 hczBW_6 hczBW_7 hczBW_8 hczBW_9 hfzBW_0 hfzBW_1 hfzBW_2 hfzBW_3 hfzBW_4 hfzBW_5 hfzBW_6 hfzBW_7 hfzBW_8 hfzBW_9); obtain ⟨hczBG_0, hczBG_1, hczBG_2, hczBG_3, hczBG_4, hczBG_5, hczBG_6, hczBG_7, hczBG_8, hczBG_9, hfzBG_0, hfzBG_1, hfzBG_2, hfzBG_3, hfzBG_4, hfzBG_5, hfzBG_6, hfzBG_7, hfzBG_8, hfzBG_9⟩ := cf10_ BG; (try clear hb); (try clear ho); (try clear hd))
    | ((with_reducible refine gate_dst (N := 26) rfl ?_); refine goe_ (some 26) Try.func33 #[.agg #[.int .i64 r1, .int .i64 r2, .int .i64 r3, .int .i64 r4, .int .i64 r5, .int .i64 r6, .slice AXG l.length cXG, .bool u, .bool d, .bool up], .int .i64 1] ?_; (with_reducible refine (laws_markSessionResult.calls k (Ivn wq7.heap.size wq8.heap.size gBG) _ _ l.length l r1 r2 r3 r4 r5 r6 u d up 1 m1 l4 w _ ?side1 ⟨rfl, HBA.out⟩ ?side2 HMF.out).mono ?_); (case side1 => exact HB.out); (case side2 => exact XG.out); rintro e wq10 ⟨rfl, ⟨hln, hy⟩, hb0, hkp⟩; refine ⟨_, rfl, ?_⟩; have hk := hkp; have HS10 := Aside0.mk hk.1; replace BC := blk_kk BC hk (fun h3 => by have o0_ := HS1.out; have o1_ := HGBC.out; have o2_ := HLBC.out; have o3_ := HS2.out; have o4_ := HGBS.out; have o5_ := HLBS.out; have o6_ := HS4.out; have o7_ := HS5.out; have o8_ := HLBW.out; have o9_ := HGBW.out; have o10_ := HK5.out; have o11_ := HS7.out; have o12_ := HS8.out; have o13_ := HLBG.out; have o14_ := HGBG.out; have o15_ := HK8.out; have o16_ := HS9.out; have h3_ : _ ∧ _ ∧ _ := h3; obtain ⟨h3a_, h3b_, h3c_⟩ := h3_; omega); replace BS := blk_kk BS hk (fun h3 => by have o0_ := HS1.out; have o1_ := HGBC.out; have o2_ := HLBC.out; have o3_ := HS2.out; have o4_ := HGBS.out; have o5_ := HLBS.out; have o6_ := HS4.out; have o7_ := HS5.out; have o8_ := HLBW.out; have o9_ := HGBW.out; have o10_ := HK5.out; have o11_ := HS7.out; have o12_ := HS8.out; have o13_ := HLBG.out; have o14_ := HGBG.out; have o15_ := HK8.out; have o16_ := HS9.out; have h3_ : _ ∧ _ ∧ _ := h3; obtain ⟨h3a_, h3b_, h3c_⟩ := h3_; omega); replace XW := Nkk XW hk (fun k h1 h2 hn h3 => by have o0_ := HS1.out; have o1_ := HGBC.out; have o2_ := HLBC.out; have o3_ := HS2.out; have o4_ := HGBS.out; have o5_ := HLBS.out; have o6_ := HS4.out; have o7_ := HS5.out; have o8_ := HLBW.out; have o9_ := HGBW.out; have o10_ := HK5.out; have o11_ := HS7.out; have o12_ := HS8.out; have o13_ := HLBG.out; have o14_ := HGBG.out; have o15_ := HK8.out; have o16_ := HS9.out; have h3_ : _ ∧ _ ∧ _ := h3; obtain ⟨h3a_, h3b_, h3c_⟩ := h3_; omega); replace BW := blk_kk BW hk (fun h3 => by have o0_ := HS1.out; have o1_ := HGBC.out; have o2_ := HLBC.out; have o3_ := HS2.out; have o4_ := HGBS.out; have o5_ := HLBS.out; have o6_ := HS4.out; have o7_ := HS5.out; have o8_ := HLBW.out; have o9_ := HGBW.out; have o10_ := HK5.out; have o11_ := HS7.out; have o12_ := HS8.out; have o13_ := HLBG.out; have o14_ := HGBG.out; have o15_ := HK8.out; have o16_ := HS9.out; have h3_ : _ ∧ _ ∧ _ := h3; obtain ⟨h3a_, h3b_, h3c_⟩ := h3_; omega); replace BG := blk_kk BG hk (fun h3 => by have o0_ := HS1.out; have o1_ := HGBC.out; have o2_ := HLBC.out; have o3_ := HS2.out; have o4_ := HGBS.out; have o5_ := HLBS.out; have o6_ := HS4.out; have o7_ := HS5.out; have o8_ := HLBW.out; have o9_ := HGBW.out; have o10_ := HK5.out; have o11_ := HS7.out; have o12_ := HS8.out; have o13_ := HLBG.out; have o14_ := HGBG.out; have o15_ := HK8.out; have o16_ := HS9.out; have h3_ : _ ∧ _ ∧ _ := h3; obtain ⟨h3a_, h3b_, h3c_⟩ := h3_; omega); replace XG := Aside0.mk hy; replace HB := Aside0.mk hb0; (try clear hln); (try clear hczBG_0 hczBG_1 hczBG_2 hczBG_3 hczBG_4 hczBG_5 hczBG_6 hczBG_7 hczBG_8 hczBG_9 hfzBG_0 hfzBG_1 hfzBG_2 hfzBG_3 hfzBG_4 hfzBG_5 hfzBG_6 hfzBG_7 hfzBG_8 hfzBG_9); obtain ⟨hczBG_0, hczBG_1, hczBG_2, hczBG_3, hczBG_4, hczBG_5, hczBG_6, hczBG_7, hczBG_8, hczBG_9, hfzBG_0, hfzBG_1, hfzBG_2, hfzBG_3, hfzBG_4, hfzBG_5, hfzBG_6, hfzBG_7, hfzBG_8, hfzBG_9⟩ := cf10_ BG; (try clear hk); (try clear hkp); (try clear hb0); (try clear hy))
    | ((with_reducible refine gate_dst (N := 29) rfl ?_); refine goe_ (some 29) Try.func34 #[.agg #[.int .i64 r1, .int .i64 r2, .int .i64 r3, .int .i64 r4, .int .i64 r5, .int .i64 r6, .slice AXG l.length cXG, .bool u, .bool d, .bool up], .int .i64 1] ?_; (with_reducible refine (laws_heldSessionResult.callsn k r1 r2 r3 r4 r5 r6 u d up _ _ l.length l4 1 m1 _ HLN.out ?side1 ?side2 HHE.out).mono ?_); (case side1 => exact (by have h_ := (Kd.S_reads' XG.out).2.2; rw [HLN.out] at h_; exact h_)); (case side2 => exact (by have h_ := Kd.S_reads' XG.out; exact h_.2.1)); rintro e wq11 ⟨rfl, hb⟩; refine ⟨_, rfl, ?_⟩; have HS11 := Aside0.mk (Below.size hb); replace BC := blk_kb BC hb; replace BS := blk_kb BS hb; replace XW := Nkb XW hb; replace BW := blk_kb BW hb; replace XG := Nkb XG hb; replace BG := blk_kb BG hb; replace HB := below_kb HB hb; (try clear hczBG_0 hczBG_1 hczBG_2 hczBG_3 hczBG_4 hczBG_5 hczBG_6 hczBG_7 hczBG_8 hczBG_9 hfzBG_0 hfzBG_1 hfzBG_2 hfzBG_3 hfzBG_4 hfzBG_5 hfzBG_6 hfzBG_7 hfzBG_8 hfzBG_9); (try clear hb); (try clear ho); (try clear hd)))
  have hb : Below wq11.heap.size wq11 wq11.drew := below_drew1 (Below.refl _ _)
  have HS13 := Aside0.mk (Below.size hb)
  replace BC := blk_kb BC hb
  replace BS := blk_kb BS hb
  replace XW := Nkb XW hb
  replace BW := blk_kb BW hb
  replace XG := Nkb XG hb
  replace BG := blk_kb BG hb
  replace HB := below_kb HB hb
  clear hb
  refine start_ (n := 7) (S := fun w' => w'.cell? ⟨gBC, 0, none⟩ = some (.int .i64 a) ∧ w'.cell? ⟨gBC, 1, none⟩ = some (.int .i64 i) ∧ w'.cell? ⟨gBC, 2, none⟩ = some (.int .i64 h) ∧ w'.cell? ⟨gBS, 0, none⟩ = some (.int .i64 s0) ∧ w'.cell? ⟨gBS, 1, none⟩ = some (.int .i64 s1) ∧ w'.cell? ⟨gBS, 2, none⟩ = some (.int .i64 s2) ∧ w'.cell? ⟨gBS, 3, none⟩ = some (.int .i64 s3) ∧ w'.cell? ⟨gBS, 4, none⟩ = some (.int .i64 s4)) (ds := [6]) #[false, false, false, false, false, false, false] (by kernel_rfl) rfl rfl ⟨(blk_cell BC.out 0).trans rfl, (blk_cell BC.out 1).trans rfl, (blk_cell BC.out 2).trans rfl, (blk_cell BS.out 0).trans rfl, (blk_cell BS.out 1).trans rfl, (blk_cell BS.out 2).trans rfl, (blk_cell BS.out 3).trans rfl, (blk_cell BS.out 4).trans rfl⟩ (fun hHeld => ?_)
  generalize wq11.drew = wq13 at BC BS XW BW XG BG HB HS13 hHeld ⊢
  refine take_ (i := 0) (N := some 35) (v := ?_) (a' := ?_) #[true, false, false, false, false, false, false] rfl rfl (by kernel_rfl) (fun _ _ _ h => h) (Or.inl ⟨by rfl, ?_⟩) hHeld ?_ ?_
  rotate_left
  · rintro w' ⟨t0, t1, t2, t3, t4, t5, t6, t7⟩
    go_simp
    with_reducible rfl
  rotate_left
  · simp only [Act.put, List.setIfInBounds_toArray, List.set_cons_zero, List.set_cons_succ, i64_w, i32_w]
    rfl
  refine take_ (i := 2) (N := some 37) (v := ?_) (a' := ?_) #[true, false, true, false, false, false, false] rfl rfl (by kernel_rfl) (fun _ _ _ h => h) (Or.inl ⟨by rfl, ?_⟩) hHeld ?_ ?_
  rotate_left
  · rintro w' ⟨t0, t1, t2, t3, t4, t5, t6, t7⟩
    go_simp
    with_reducible rfl
  rotate_left
  · simp only [Act.put, List.setIfInBounds_toArray, List.set_cons_zero, List.set_cons_succ, i64_w, i32_w]
    rfl
  refine join_ (σ := Value × Nat) 1 #[true, true, true, true, true, true, false] (fun s_ => [(36, .agg #[.int .i64 a, .int .i64 i, .int .i64 h]), (38, .agg #[.int .i64 s0, .int .i64 s1, .int .i64 s2, .int .i64 s3, .int .i64 s4]), (39, .agg #[.int .i64 r1, .int .i64 r2, .int .i64 r3, .int .i64 r4, .int .i64 r5, .int .i64 r6, s_.1, .bool u, .bool d, .bool up]), (9, .pointer (some ⟨s_.2, 0, none⟩))]) (fun s_ w' => (Below wq13.heap.size wq13 w') ∧ (wq13.heap.size ≤ s_.2) ∧ (w'.heap[s_.2]? = some (.cells #[.int .i64 0, .int .i64 0, .int .i64 0, .int .i64 0, .int .i64 0, .int .i64 0, .slice none 0 0, .bool false, .bool false, .bool false] 45 (0, 0))) ∧ (Kd.S k136 136 w' wq13.heap.size (fun k_ => k_ ≠ s_.2) s_.1 l)) ?_ ?_
  rotate_left
  · intro hCont
    have HX := Aside0.mk (Below.refl wq13.heap.size wq13)
    have YBC := BC
    have YBS := BS
    clear HB BC BS XW BW XG BG
    refine two_ (i := 1) (j := 5) (Ni := some 36) (Nj := some 9) #[true, true, true, false, false, false, false] #[true, false, true, false, false, true, false] rfl rfl rfl rfl (by kernel_rfl) (by decide) (by decide) (fun K hK => ?_) (fun K hK => ?_)
    · skip
      refine goes_ Try.func29 (by kernel_rfl) rfl #[.agg #[.int .i64 a, .int .i64 i, .int .i64 h]] (by rfl) rfl rfl (by (try simp only [List.map_toArray, List.map_cons, List.map_nil]); first | done | rfl) ?_
      with_reducible refine (laws_toConfig.calls a i h a i h _ HTC.out).mono ?_
      rintro e wy1 ⟨rfl, hb⟩
      refine ⟨_, rfl, ?_⟩
      have hz_ := Aside0.mk (Below.size hb)
      replace HX : Aside0 (Below wq13.heap.size wq13 wy1) := ⟨below_step HX.out hb⟩
      replace YBC := blk_kb YBC hb
      replace YBS := blk_kb YBS hb
      have HY1 := hz_
      clear hz_ hb
      refine hK.out _ _ ⟨(blk_cell YBC.out 0).trans rfl, (blk_cell YBC.out 1).trans rfl, (blk_cell YBC.out 2).trans rfl, (blk_cell YBS.out 0).trans rfl, (blk_cell YBS.out 1).trans rfl, (blk_cell YBS.out 2).trans rfl, (blk_cell YBS.out 3).trans rfl, (blk_cell YBS.out 4).trans rfl⟩ (fun hHeld => ?_)
      clear hK K
      refine norm_ (a' := ?_) ?_ ?_
      rotate_left
      · show Act.put _ (some 36) _ = _
        simp only [Act.put, List.setIfInBounds_toArray, List.set_cons_zero, List.set_cons_succ, i64_w, i32_w]
        rfl
      refine two_ (i := 3) (j := 5) (Ni := some 38) (Nj := some 9) #[true, true, true, true, false, false, false] #[true, true, true, false, false, true, false] rfl rfl rfl rfl (by kernel_rfl) (by decide) (by decide) (fun K hK => ?_) (fun K hK => ?_)
      · skip
        refine goes_ Try.func30 (by kernel_rfl) rfl #[.agg #[.int .i64 s0, .int .i64 s1, .int .i64 s2, .int .i64 s3, .int .i64 s4]] (by rfl) rfl rfl (by (try simp only [List.map_toArray, List.map_cons, List.map_nil]); first | done | rfl) ?_
        with_reducible refine (laws_toSession.calls s0 s1 s2 s3 s4 s0 s1 s2 s3 s4 _ HTS.out).mono ?_
        rintro e wy2 ⟨rfl, hb⟩
        refine ⟨_, rfl, ?_⟩
        have hz_ := Aside0.mk (Below.size hb)
        replace HX : Aside0 (Below wq13.heap.size wq13 wy2) := ⟨below_step HX.out hb⟩
        replace YBC := blk_kb YBC hb
        replace YBS := blk_kb YBS hb
        have HY2 := hz_
        clear hz_ hb
        refine hK.out _ _ ⟨(blk_cell YBC.out 0).trans rfl, (blk_cell YBC.out 1).trans rfl, (blk_cell YBC.out 2).trans rfl, (blk_cell YBS.out 0).trans rfl, (blk_cell YBS.out 1).trans rfl, (blk_cell YBS.out 2).trans rfl, (blk_cell YBS.out 3).trans rfl, (blk_cell YBS.out 4).trans rfl⟩ (fun hHeld => ?_)
        clear hK K
        refine norm_ (a' := ?_) ?_ ?_
        rotate_left
        · show Act.put _ (some 38) _ = _
          simp only [Act.put, List.setIfInBounds_toArray, List.set_cons_zero, List.set_cons_succ, i64_w, i32_w]
          rfl
        refine two_ (i := 4) (j := 5) (Ni := some 39) (Nj := some 9) #[true, true, true, true, true, false, false] #[true, true, true, true, false, true, false] rfl rfl rfl rfl (by kernel_rfl) (by decide) (by decide) (fun K hK => ?_) (fun K hK => ?_)
        · skip
          refine goes_ Try.func46 (by kernel_rfl) rfl #[.agg #[.int .i64 a, .int .i64 i, .int .i64 h], .agg #[.int .i64 s0, .int .i64 s1, .int .i64 s2, .int .i64 s3, .int .i64 s4]] (by rfl) rfl rfl (by (try simp only [List.map_toArray, List.map_cons, List.map_nil]); first | done | rfl) ?_
          with_reducible refine (HIM.out _).mono ?_
          rintro e wy3 ⟨v, rfl, ho, hb⟩
          refine ⟨_, rfl, ?_⟩
          have YR := Siw (base := wq13.heap.size) ho HX.out.size
          have hz_ := Aside0.mk (Below.size hb)
          replace HX : Aside0 (Below wq13.heap.size wq13 wy3) := ⟨below_step HX.out hb⟩
          replace YBC := blk_kb YBC hb
          replace YBS := blk_kb YBS hb
          have HY3 := hz_
          clear hz_ hb ho
          refine hK.out _ _ ⟨(blk_cell YBC.out 0).trans rfl, (blk_cell YBC.out 1).trans rfl, (blk_cell YBC.out 2).trans rfl, (blk_cell YBS.out 0).trans rfl, (blk_cell YBS.out 1).trans rfl, (blk_cell YBS.out 2).trans rfl, (blk_cell YBS.out 3).trans rfl, (blk_cell YBS.out 4).trans rfl⟩ (fun hHeld => ?_)
          clear hK K
          refine norm_ (a' := ?_) ?_ ?_
          rotate_left
          · show Act.put _ (some 39) _ = _
            simp only [Act.put, List.setIfInBounds_toArray, List.set_cons_zero, List.set_cons_succ, i64_w, i32_w]
            rfl
          refine one_ (i := 5) (N := some 9) #[true, true, true, true, true, true, false] rfl rfl (by kernel_rfl) (by decide) (fun K hK => ?_)
          refine box_step ?hg (N := 9) ?hd (cs := #[.int .i64 0, .int .i64 0, .int .i64 0, .int .i64 0, .int .i64 0, .int .i64 0, .slice none 0 0, .bool false, .bool false, .bool false]) (t := 45) ?hr ?_
          (case hd => rfl)
          (case hg => rfl)
          (case hr => first | (go_simp; done) | (go_simp; rfl))
          intro gy hg wy4 hbox hb
          have YG := Aside0.mk hg
          have YL := Aside0.mk (blk_lt hbox)
          have YE : Aside0 (wq13.heap.size ≤ gy) := ⟨by rw [hg]; exact HX.out.size⟩
          have hz_ := Aside0.mk (Below.size hb)
          replace HX : Aside0 (Below wq13.heap.size wq13 wy4) := ⟨below_step HX.out hb⟩
          replace YBC := blk_kb YBC hb
          replace YBS := blk_kb YBS hb
          replace YR := Skb_iv YR hb
          have YZ := Aside0.mk hbox
          have HY4 := hz_
          clear hz_ hb hbox hg
          refine hK.out _ _ ⟨(blk_cell YBC.out 0).trans rfl, (blk_cell YBC.out 1).trans rfl, (blk_cell YBC.out 2).trans rfl, (blk_cell YBS.out 0).trans rfl, (blk_cell YBS.out 1).trans rfl, (blk_cell YBS.out 2).trans rfl, (blk_cell YBS.out 3).trans rfl, (blk_cell YBS.out 4).trans rfl⟩ (fun hHeld => ?_)
          clear hK K
          refine norm_ (a' := ?_) ?_ ?_
          rotate_left
          · show Act.put _ (some 9) _ = _
            simp only [Act.put, List.setIfInBounds_toArray, List.set_cons_zero, List.set_cons_succ, i64_w, i32_w]
            rfl
          exact norm_ (by simp only [putAll, Act.put, List.setIfInBounds_toArray, List.set_cons_zero, List.set_cons_succ]) (hCont (_, gy) _ ⟨HX.out, YE.out, YZ.out, Kd.S_mono YR.out (fun k_ hk_ => by have hk2_ : _ ∧ _ := hk_; have hg_ := YG.out; have o0_ := HY1.out; have o1_ := HY2.out; have o2_ := HY3.out; have o3_ := HY4.out; omega)⟩)
        · skip
          refine box_step ?hg (N := 9) ?hd (cs := #[.int .i64 0, .int .i64 0, .int .i64 0, .int .i64 0, .int .i64 0, .int .i64 0, .slice none 0 0, .bool false, .bool false, .bool false]) (t := 45) ?hr ?_
          (case hd => rfl)
          (case hg => rfl)
          (case hr => first | (go_simp; done) | (go_simp; rfl))
          intro gy hg wy5 hbox hb
          have YG := Aside0.mk hg
          have YL := Aside0.mk (blk_lt hbox)
          have YE : Aside0 (wq13.heap.size ≤ gy) := ⟨by rw [hg]; exact HX.out.size⟩
          have hz_ := Aside0.mk (Below.size hb)
          replace HX : Aside0 (Below wq13.heap.size wq13 wy5) := ⟨below_step HX.out hb⟩
          replace YBC := blk_kb YBC hb
          replace YBS := blk_kb YBS hb
          have YZ := Aside0.mk hbox
          have HY5 := hz_
          clear hz_ hb hbox hg
          refine hK.out _ _ ⟨(blk_cell YBC.out 0).trans rfl, (blk_cell YBC.out 1).trans rfl, (blk_cell YBC.out 2).trans rfl, (blk_cell YBS.out 0).trans rfl, (blk_cell YBS.out 1).trans rfl, (blk_cell YBS.out 2).trans rfl, (blk_cell YBS.out 3).trans rfl, (blk_cell YBS.out 4).trans rfl⟩ (fun hHeld => ?_)
          clear hK K
          refine norm_ (a' := ?_) ?_ ?_
          rotate_left
          · show Act.put _ (some 9) _ = _
            simp only [Act.put, List.setIfInBounds_toArray, List.set_cons_zero, List.set_cons_succ, i64_w, i32_w]
            rfl
          refine one_ (i := 4) (N := some 39) #[true, true, true, true, true, true, false] rfl rfl (by kernel_rfl) (by decide) (fun K hK => ?_)
          refine goes_ Try.func46 (by kernel_rfl) rfl #[.agg #[.int .i64 a, .int .i64 i, .int .i64 h], .agg #[.int .i64 s0, .int .i64 s1, .int .i64 s2, .int .i64 s3, .int .i64 s4]] (by rfl) rfl rfl (by (try simp only [List.map_toArray, List.map_cons, List.map_nil]); first | done | rfl) ?_
          with_reducible refine (HIM.out _).mono ?_
          rintro e wy6 ⟨v, rfl, ho, hb⟩
          refine ⟨_, rfl, ?_⟩
          have YR := Siw (base := wq13.heap.size) ho HX.out.size
          have hz_ := Aside0.mk (Below.size hb)
          replace HX : Aside0 (Below wq13.heap.size wq13 wy6) := ⟨below_step HX.out hb⟩
          replace YBC := blk_kb YBC hb
          replace YBS := blk_kb YBS hb
          replace YZ := blk_kb YZ hb
          have HY6 := hz_
          clear hz_ hb ho
          refine hK.out _ _ ⟨(blk_cell YBC.out 0).trans rfl, (blk_cell YBC.out 1).trans rfl, (blk_cell YBC.out 2).trans rfl, (blk_cell YBS.out 0).trans rfl, (blk_cell YBS.out 1).trans rfl, (blk_cell YBS.out 2).trans rfl, (blk_cell YBS.out 3).trans rfl, (blk_cell YBS.out 4).trans rfl⟩ (fun hHeld => ?_)
          clear hK K
          refine norm_ (a' := ?_) ?_ ?_
          rotate_left
          · show Act.put _ (some 39) _ = _
            simp only [Act.put, List.setIfInBounds_toArray, List.set_cons_zero, List.set_cons_succ, i64_w, i32_w]
            rfl
          exact norm_ (by simp only [putAll, Act.put, List.setIfInBounds_toArray, List.set_cons_zero, List.set_cons_succ]) (hCont (_, gy) _ ⟨HX.out, YE.out, YZ.out, Kd.S_mono YR.out (fun k_ hk_ => by have hk2_ : _ ∧ _ := hk_; have hl_ := YL.out; have o0_ := HY1.out; have o1_ := HY2.out; have o2_ := HY5.out; have o3_ := HY6.out; omega)⟩)
      · skip
        refine box_step ?hg (N := 9) ?hd (cs := #[.int .i64 0, .int .i64 0, .int .i64 0, .int .i64 0, .int .i64 0, .int .i64 0, .slice none 0 0, .bool false, .bool false, .bool false]) (t := 45) ?hr ?_
        (case hd => rfl)
        (case hg => rfl)
        (case hr => first | (go_simp; done) | (go_simp; rfl))
        intro gy hg wy7 hbox hb
        have YG := Aside0.mk hg
        have YL := Aside0.mk (blk_lt hbox)
        have YE : Aside0 (wq13.heap.size ≤ gy) := ⟨by rw [hg]; exact HX.out.size⟩
        have hz_ := Aside0.mk (Below.size hb)
        replace HX : Aside0 (Below wq13.heap.size wq13 wy7) := ⟨below_step HX.out hb⟩
        replace YBC := blk_kb YBC hb
        replace YBS := blk_kb YBS hb
        have YZ := Aside0.mk hbox
        have HY7 := hz_
        clear hz_ hb hbox hg
        refine hK.out _ _ ⟨(blk_cell YBC.out 0).trans rfl, (blk_cell YBC.out 1).trans rfl, (blk_cell YBC.out 2).trans rfl, (blk_cell YBS.out 0).trans rfl, (blk_cell YBS.out 1).trans rfl, (blk_cell YBS.out 2).trans rfl, (blk_cell YBS.out 3).trans rfl, (blk_cell YBS.out 4).trans rfl⟩ (fun hHeld => ?_)
        clear hK K
        refine norm_ (a' := ?_) ?_ ?_
        rotate_left
        · show Act.put _ (some 9) _ = _
          simp only [Act.put, List.setIfInBounds_toArray, List.set_cons_zero, List.set_cons_succ, i64_w, i32_w]
          rfl
        refine one_ (i := 3) (N := some 38) #[true, true, true, true, false, true, false] rfl rfl (by kernel_rfl) (by decide) (fun K hK => ?_)
        refine goes_ Try.func30 (by kernel_rfl) rfl #[.agg #[.int .i64 s0, .int .i64 s1, .int .i64 s2, .int .i64 s3, .int .i64 s4]] (by rfl) rfl rfl (by (try simp only [List.map_toArray, List.map_cons, List.map_nil]); first | done | rfl) ?_
        with_reducible refine (laws_toSession.calls s0 s1 s2 s3 s4 s0 s1 s2 s3 s4 _ HTS.out).mono ?_
        rintro e wy8 ⟨rfl, hb⟩
        refine ⟨_, rfl, ?_⟩
        have hz_ := Aside0.mk (Below.size hb)
        replace HX : Aside0 (Below wq13.heap.size wq13 wy8) := ⟨below_step HX.out hb⟩
        replace YBC := blk_kb YBC hb
        replace YBS := blk_kb YBS hb
        replace YZ := blk_kb YZ hb
        have HY8 := hz_
        clear hz_ hb
        refine hK.out _ _ ⟨(blk_cell YBC.out 0).trans rfl, (blk_cell YBC.out 1).trans rfl, (blk_cell YBC.out 2).trans rfl, (blk_cell YBS.out 0).trans rfl, (blk_cell YBS.out 1).trans rfl, (blk_cell YBS.out 2).trans rfl, (blk_cell YBS.out 3).trans rfl, (blk_cell YBS.out 4).trans rfl⟩ (fun hHeld => ?_)
        clear hK K
        refine norm_ (a' := ?_) ?_ ?_
        rotate_left
        · show Act.put _ (some 38) _ = _
          simp only [Act.put, List.setIfInBounds_toArray, List.set_cons_zero, List.set_cons_succ, i64_w, i32_w]
          rfl
        refine one_ (i := 4) (N := some 39) #[true, true, true, true, true, true, false] rfl rfl (by kernel_rfl) (by decide) (fun K hK => ?_)
        refine goes_ Try.func46 (by kernel_rfl) rfl #[.agg #[.int .i64 a, .int .i64 i, .int .i64 h], .agg #[.int .i64 s0, .int .i64 s1, .int .i64 s2, .int .i64 s3, .int .i64 s4]] (by rfl) rfl rfl (by (try simp only [List.map_toArray, List.map_cons, List.map_nil]); first | done | rfl) ?_
        with_reducible refine (HIM.out _).mono ?_
        rintro e wy9 ⟨v, rfl, ho, hb⟩
        refine ⟨_, rfl, ?_⟩
        have YR := Siw (base := wq13.heap.size) ho HX.out.size
        have hz_ := Aside0.mk (Below.size hb)
        replace HX : Aside0 (Below wq13.heap.size wq13 wy9) := ⟨below_step HX.out hb⟩
        replace YBC := blk_kb YBC hb
        replace YBS := blk_kb YBS hb
        replace YZ := blk_kb YZ hb
        have HY9 := hz_
        clear hz_ hb ho
        refine hK.out _ _ ⟨(blk_cell YBC.out 0).trans rfl, (blk_cell YBC.out 1).trans rfl, (blk_cell YBC.out 2).trans rfl, (blk_cell YBS.out 0).trans rfl, (blk_cell YBS.out 1).trans rfl, (blk_cell YBS.out 2).trans rfl, (blk_cell YBS.out 3).trans rfl, (blk_cell YBS.out 4).trans rfl⟩ (fun hHeld => ?_)
        clear hK K
        refine norm_ (a' := ?_) ?_ ?_
        rotate_left
        · show Act.put _ (some 39) _ = _
          simp only [Act.put, List.setIfInBounds_toArray, List.set_cons_zero, List.set_cons_succ, i64_w, i32_w]
          rfl
        exact norm_ (by simp only [putAll, Act.put, List.setIfInBounds_toArray, List.set_cons_zero, List.set_cons_succ]) (hCont (_, gy) _ ⟨HX.out, YE.out, YZ.out, Kd.S_mono YR.out (fun k_ hk_ => by have hk2_ : _ ∧ _ := hk_; have hl_ := YL.out; have o0_ := HY1.out; have o1_ := HY7.out; have o2_ := HY8.out; have o3_ := HY9.out; omega)⟩)
    · skip
      refine box_step ?hg (N := 9) ?hd (cs := #[.int .i64 0, .int .i64 0, .int .i64 0, .int .i64 0, .int .i64 0, .int .i64 0, .slice none 0 0, .bool false, .bool false, .bool false]) (t := 45) ?hr ?_
      (case hd => rfl)
      (case hg => rfl)
      (case hr => first | (go_simp; done) | (go_simp; rfl))
      intro gy hg wy10 hbox hb
      have YG := Aside0.mk hg
      have YL := Aside0.mk (blk_lt hbox)
      have YE : Aside0 (wq13.heap.size ≤ gy) := ⟨by rw [hg]; exact HX.out.size⟩
      have hz_ := Aside0.mk (Below.size hb)
      replace HX : Aside0 (Below wq13.heap.size wq13 wy10) := ⟨below_step HX.out hb⟩
      replace YBC := blk_kb YBC hb
      replace YBS := blk_kb YBS hb
      have YZ := Aside0.mk hbox
      have HY10 := hz_
      clear hz_ hb hbox hg
      refine hK.out _ _ ⟨(blk_cell YBC.out 0).trans rfl, (blk_cell YBC.out 1).trans rfl, (blk_cell YBC.out 2).trans rfl, (blk_cell YBS.out 0).trans rfl, (blk_cell YBS.out 1).trans rfl, (blk_cell YBS.out 2).trans rfl, (blk_cell YBS.out 3).trans rfl, (blk_cell YBS.out 4).trans rfl⟩ (fun hHeld => ?_)
      clear hK K
      refine norm_ (a' := ?_) ?_ ?_
      rotate_left
      · show Act.put _ (some 9) _ = _
        simp only [Act.put, List.setIfInBounds_toArray, List.set_cons_zero, List.set_cons_succ, i64_w, i32_w]
        rfl
      refine one_ (i := 1) (N := some 36) #[true, true, true, false, false, true, false] rfl rfl (by kernel_rfl) (by decide) (fun K hK => ?_)
      refine goes_ Try.func29 (by kernel_rfl) rfl #[.agg #[.int .i64 a, .int .i64 i, .int .i64 h]] (by rfl) rfl rfl (by (try simp only [List.map_toArray, List.map_cons, List.map_nil]); first | done | rfl) ?_
      with_reducible refine (laws_toConfig.calls a i h a i h _ HTC.out).mono ?_
      rintro e wy11 ⟨rfl, hb⟩
      refine ⟨_, rfl, ?_⟩
      have hz_ := Aside0.mk (Below.size hb)
      replace HX : Aside0 (Below wq13.heap.size wq13 wy11) := ⟨below_step HX.out hb⟩
      replace YBC := blk_kb YBC hb
      replace YBS := blk_kb YBS hb
      replace YZ := blk_kb YZ hb
      have HY11 := hz_
      clear hz_ hb
      refine hK.out _ _ ⟨(blk_cell YBC.out 0).trans rfl, (blk_cell YBC.out 1).trans rfl, (blk_cell YBC.out 2).trans rfl, (blk_cell YBS.out 0).trans rfl, (blk_cell YBS.out 1).trans rfl, (blk_cell YBS.out 2).trans rfl, (blk_cell YBS.out 3).trans rfl, (blk_cell YBS.out 4).trans rfl⟩ (fun hHeld => ?_)
      clear hK K
      refine norm_ (a' := ?_) ?_ ?_
      rotate_left
      · show Act.put _ (some 36) _ = _
        simp only [Act.put, List.setIfInBounds_toArray, List.set_cons_zero, List.set_cons_succ, i64_w, i32_w]
        rfl
      refine one_ (i := 3) (N := some 38) #[true, true, true, true, false, true, false] rfl rfl (by kernel_rfl) (by decide) (fun K hK => ?_)
      refine goes_ Try.func30 (by kernel_rfl) rfl #[.agg #[.int .i64 s0, .int .i64 s1, .int .i64 s2, .int .i64 s3, .int .i64 s4]] (by rfl) rfl rfl (by (try simp only [List.map_toArray, List.map_cons, List.map_nil]); first | done | rfl) ?_
      with_reducible refine (laws_toSession.calls s0 s1 s2 s3 s4 s0 s1 s2 s3 s4 _ HTS.out).mono ?_
      rintro e wy12 ⟨rfl, hb⟩
      refine ⟨_, rfl, ?_⟩
      have hz_ := Aside0.mk (Below.size hb)
      replace HX : Aside0 (Below wq13.heap.size wq13 wy12) := ⟨below_step HX.out hb⟩
      replace YBC := blk_kb YBC hb
      replace YBS := blk_kb YBS hb
      replace YZ := blk_kb YZ hb
      have HY12 := hz_
      clear hz_ hb
      refine hK.out _ _ ⟨(blk_cell YBC.out 0).trans rfl, (blk_cell YBC.out 1).trans rfl, (blk_cell YBC.out 2).trans rfl, (blk_cell YBS.out 0).trans rfl, (blk_cell YBS.out 1).trans rfl, (blk_cell YBS.out 2).trans rfl, (blk_cell YBS.out 3).trans rfl, (blk_cell YBS.out 4).trans rfl⟩ (fun hHeld => ?_)
      clear hK K
      refine norm_ (a' := ?_) ?_ ?_
      rotate_left
      · show Act.put _ (some 38) _ = _
        simp only [Act.put, List.setIfInBounds_toArray, List.set_cons_zero, List.set_cons_succ, i64_w, i32_w]
        rfl
      refine one_ (i := 4) (N := some 39) #[true, true, true, true, true, true, false] rfl rfl (by kernel_rfl) (by decide) (fun K hK => ?_)
      refine goes_ Try.func46 (by kernel_rfl) rfl #[.agg #[.int .i64 a, .int .i64 i, .int .i64 h], .agg #[.int .i64 s0, .int .i64 s1, .int .i64 s2, .int .i64 s3, .int .i64 s4]] (by rfl) rfl rfl (by (try simp only [List.map_toArray, List.map_cons, List.map_nil]); first | done | rfl) ?_
      with_reducible refine (HIM.out _).mono ?_
      rintro e wy13 ⟨v, rfl, ho, hb⟩
      refine ⟨_, rfl, ?_⟩
      have YR := Siw (base := wq13.heap.size) ho HX.out.size
      have hz_ := Aside0.mk (Below.size hb)
      replace HX : Aside0 (Below wq13.heap.size wq13 wy13) := ⟨below_step HX.out hb⟩
      replace YBC := blk_kb YBC hb
      replace YBS := blk_kb YBS hb
      replace YZ := blk_kb YZ hb
      have HY13 := hz_
      clear hz_ hb ho
      refine hK.out _ _ ⟨(blk_cell YBC.out 0).trans rfl, (blk_cell YBC.out 1).trans rfl, (blk_cell YBC.out 2).trans rfl, (blk_cell YBS.out 0).trans rfl, (blk_cell YBS.out 1).trans rfl, (blk_cell YBS.out 2).trans rfl, (blk_cell YBS.out 3).trans rfl, (blk_cell YBS.out 4).trans rfl⟩ (fun hHeld => ?_)
      clear hK K
      refine norm_ (a' := ?_) ?_ ?_
      rotate_left
      · show Act.put _ (some 39) _ = _
        simp only [Act.put, List.setIfInBounds_toArray, List.set_cons_zero, List.set_cons_succ, i64_w, i32_w]
        rfl
      exact norm_ (by simp only [putAll, Act.put, List.setIfInBounds_toArray, List.set_cons_zero, List.set_cons_succ]) (hCont (_, gy) _ ⟨HX.out, YE.out, YZ.out, Kd.S_mono YR.out (fun k_ hk_ => by have hk2_ : _ ∧ _ := hk_; have hl_ := YL.out; have o0_ := HY10.out; have o1_ := HY11.out; have o2_ := HY12.out; have o3_ := HY13.out; omega)⟩)
  rintro ⟨v, gBH⟩ wq14 ⟨hb, hge, hbx, ho⟩
  have HLBH := Aside0.mk (blk_lt hbx)
  have HGBH := Aside0.mk hge
  have HEBH : Aside0 (w.heap.size ≤ gBH) := ⟨Nat.le_trans HB.out.size hge⟩
  have XH := Nin ho HB.out.size
  have HS14 := Aside0.mk (Below.size hb)
  replace BC := blk_kb BC hb
  replace BS := blk_kb BS hb
  replace XW := Nkb XW hb
  replace BW := blk_kb BW hb
  replace XG := Nkb XG hb
  replace BG := blk_kb BG hb
  replace HB := below_kb HB hb
  have BH := Aside0.mk hbx
  clear hb hge hbx ho
  obtain ⟨AXH, cXH, rfl⟩ := Kd.S_slice XH.out
  refine norm_ (a' := ?_) ?_ ?_
  rotate_left
  · simp only [putAll, Act.put, List.setIfInBounds_toArray, List.set_cons_zero, List.set_cons_succ]
    rfl
  refine last_ (i := 6) (N := none) #[true, true, true, true, true, true, true] rfl rfl (by kernel_rfl) (by decide) (fun K hK => ?_)
  obtain ⟨hczBH_0, hczBH_1, hczBH_2, hczBH_3, hczBH_4, hczBH_5, hczBH_6, hczBH_7, hczBH_8, hczBH_9, hfzBH_0, hfzBH_1, hfzBH_2, hfzBH_3, hfzBH_4, hfzBH_5, hfzBH_6, hfzBH_7, hfzBH_8, hfzBH_9⟩ := cf10_ BH
  refine skip_ (w1 := wq14.setCells gBH 0 [.int .i64 r1, .int .i64 r2, .int .i64 r3, .int .i64 r4, .int .i64 r5, .int .i64 r6, .slice AXH l.length cXH, .bool u, .bool d, .bool up]) ?_ ?_ ?_ ?_
  · first | kernel_rfl | rfl
  · rfl
  · first | (go_simp; done) | (go_simp; rfl)
  refine hK.out _ _ ?_
  clear hK K
  refine done_ (by kernel_rfl) ?_
  clear hczBH_0 hfzBH_0 hczBH_1 hfzBH_1 hczBH_2 hfzBH_2 hczBH_3 hfzBH_3 hczBH_4 hfzBH_4 hczBH_5 hfzBH_5 hczBH_6 hfzBH_6 hczBH_7 hfzBH_7 hczBH_8 hfzBH_8 hczBH_9 hfzBH_9
  generalize hw : wq14.setCells gBH 0 [.int .i64 r1, .int .i64 r2, .int .i64 r3, .int .i64 r4, .int .i64 r5, .int .i64 r6, .slice AXH l.length cXH, .bool u, .bool d, .bool up] = wn14
  have hk : Kept wq14 wn14 (fun k => k = gBH) := (by rw [← hw]; exact puts_kept [.int .i64 r1, .int .i64 r2, .int .i64 r3, .int .i64 r4, .int .i64 r5, .int .i64 r6, .slice AXH l.length cXH, .bool u, .bool d, .bool up] 0 _ _ (Kept.refl _ _))
  have hp_ := (show Aside0 (wn14.heap[gBH]? = some (.cells #[.int .i64 r1, .int .i64 r2, .int .i64 r3, .int .i64 r4, .int .i64 r5, .int .i64 r6, .slice AXH l.length cXH, .bool u, .bool d, .bool up] 45 (0, 0))) from by rw [← hw]; exact puts_blk BH [.int .i64 r1, .int .i64 r2, .int .i64 r3, .int .i64 r4, .int .i64 r5, .int .i64 r6, .slice AXH l.length cXH, .bool u, .bool d, .bool up] rfl)
  replace HB : Aside0 (Below w.heap.size w wn14) := ⟨by rw [← hw]; exact puts_below HEBH.out [.int .i64 r1, .int .i64 r2, .int .i64 r3, .int .i64 r4, .int .i64 r5, .int .i64 r6, .slice AXH l.length cXH, .bool u, .bool d, .bool up] 0 _ HB.out⟩
  have HK14 := Aside0.mk hk.1
  replace BC := blk_kk BC hk (fun h3 => by have o0_ := HS1.out; have o1_ := HGBC.out; have o2_ := HLBC.out; have o3_ := HS2.out; have o4_ := HGBS.out; have o5_ := HLBS.out; have o6_ := HS4.out; have o7_ := HS5.out; have o8_ := HLBW.out; have o9_ := HGBW.out; have o10_ := HK5.out; have o11_ := HS7.out; have o12_ := HS8.out; have o13_ := HLBG.out; have o14_ := HGBG.out; have o15_ := HK8.out; have o16_ := HS9.out; have o17_ := HS10.out; have o18_ := HS11.out; have o19_ := HS13.out; have o20_ := HS14.out; have o21_ := HLBH.out; have o22_ := HGBH.out; have h3_ := h3; omega)
  replace BS := blk_kk BS hk (fun h3 => by have o0_ := HS1.out; have o1_ := HGBC.out; have o2_ := HLBC.out; have o3_ := HS2.out; have o4_ := HGBS.out; have o5_ := HLBS.out; have o6_ := HS4.out; have o7_ := HS5.out; have o8_ := HLBW.out; have o9_ := HGBW.out; have o10_ := HK5.out; have o11_ := HS7.out; have o12_ := HS8.out; have o13_ := HLBG.out; have o14_ := HGBG.out; have o15_ := HK8.out; have o16_ := HS9.out; have o17_ := HS10.out; have o18_ := HS11.out; have o19_ := HS13.out; have o20_ := HS14.out; have o21_ := HLBH.out; have o22_ := HGBH.out; have h3_ := h3; omega)
  replace XW := Nkk XW hk (fun k h1 h2 hn h3 => by have o0_ := HS1.out; have o1_ := HGBC.out; have o2_ := HLBC.out; have o3_ := HS2.out; have o4_ := HGBS.out; have o5_ := HLBS.out; have o6_ := HS4.out; have o7_ := HS5.out; have o8_ := HLBW.out; have o9_ := HGBW.out; have o10_ := HK5.out; have o11_ := HS7.out; have o12_ := HS8.out; have o13_ := HLBG.out; have o14_ := HGBG.out; have o15_ := HK8.out; have o16_ := HS9.out; have o17_ := HS10.out; have o18_ := HS11.out; have o19_ := HS13.out; have o20_ := HS14.out; have o21_ := HLBH.out; have o22_ := HGBH.out; have h3_ := h3; omega)
  replace BW := blk_kk BW hk (fun h3 => by have o0_ := HS1.out; have o1_ := HGBC.out; have o2_ := HLBC.out; have o3_ := HS2.out; have o4_ := HGBS.out; have o5_ := HLBS.out; have o6_ := HS4.out; have o7_ := HS5.out; have o8_ := HLBW.out; have o9_ := HGBW.out; have o10_ := HK5.out; have o11_ := HS7.out; have o12_ := HS8.out; have o13_ := HLBG.out; have o14_ := HGBG.out; have o15_ := HK8.out; have o16_ := HS9.out; have o17_ := HS10.out; have o18_ := HS11.out; have o19_ := HS13.out; have o20_ := HS14.out; have o21_ := HLBH.out; have o22_ := HGBH.out; have h3_ := h3; omega)
  replace XG := Nkk XG hk (fun k h1 h2 hn h3 => by have o0_ := HS1.out; have o1_ := HGBC.out; have o2_ := HLBC.out; have o3_ := HS2.out; have o4_ := HGBS.out; have o5_ := HLBS.out; have o6_ := HS4.out; have o7_ := HS5.out; have o8_ := HLBW.out; have o9_ := HGBW.out; have o10_ := HK5.out; have o11_ := HS7.out; have o12_ := HS8.out; have o13_ := HLBG.out; have o14_ := HGBG.out; have o15_ := HK8.out; have o16_ := HS9.out; have o17_ := HS10.out; have o18_ := HS11.out; have o19_ := HS13.out; have o20_ := HS14.out; have o21_ := HLBH.out; have o22_ := HGBH.out; have h3_ := h3; omega)
  replace BG := blk_kk BG hk (fun h3 => by have o0_ := HS1.out; have o1_ := HGBC.out; have o2_ := HLBC.out; have o3_ := HS2.out; have o4_ := HGBS.out; have o5_ := HLBS.out; have o6_ := HS4.out; have o7_ := HS5.out; have o8_ := HLBW.out; have o9_ := HGBW.out; have o10_ := HK5.out; have o11_ := HS7.out; have o12_ := HS8.out; have o13_ := HLBG.out; have o14_ := HGBG.out; have o15_ := HK8.out; have o16_ := HS9.out; have o17_ := HS10.out; have o18_ := HS11.out; have o19_ := HS13.out; have o20_ := HS14.out; have o21_ := HLBH.out; have o22_ := HGBH.out; have h3_ := h3; omega)
  replace XH := Nkk XH hk (fun k h1 h2 hn h3 => by have o0_ := HS1.out; have o1_ := HGBC.out; have o2_ := HLBC.out; have o3_ := HS2.out; have o4_ := HGBS.out; have o5_ := HLBS.out; have o6_ := HS4.out; have o7_ := HS5.out; have o8_ := HLBW.out; have o9_ := HGBW.out; have o10_ := HK5.out; have o11_ := HS7.out; have o12_ := HS8.out; have o13_ := HLBG.out; have o14_ := HGBG.out; have o15_ := HK8.out; have o16_ := HS9.out; have o17_ := HS10.out; have o18_ := HS11.out; have o19_ := HS13.out; have o20_ := HS14.out; have o21_ := HLBH.out; have o22_ := HGBH.out; have h3_ := h3; omega)
  replace BH := hp_
  clear hw hk
  obtain ⟨hczBH_0, hczBH_1, hczBH_2, hczBH_3, hczBH_4, hczBH_5, hczBH_6, hczBH_7, hczBH_8, hczBH_9, hfzBH_0, hfzBH_1, hfzBH_2, hfzBH_3, hfzBH_4, hfzBH_5, hfzBH_6, hfzBH_7, hfzBH_8, hfzBH_9⟩ := cf10_ BH
  obtain ⟨hczBW_0, hczBW_1, hczBW_2, hczBW_3, hczBW_4, hczBW_5, hczBW_6, hczBW_7, hczBW_8, hczBW_9, hfzBW_0, hfzBW_1, hfzBW_2, hfzBW_3, hfzBW_4, hfzBW_5, hfzBW_6, hfzBW_7, hfzBW_8, hfzBW_9⟩ := cf10_ BW
  go_wp2_with (first
    | ((with_reducible refine gate_dst (N := 42) rfl ?_); refine goe_ (some 42) Try.func32 #[.agg #[.int .i64 r1, .int .i64 r2, .int .i64 r3, .int .i64 r4, .int .i64 r5, .int .i64 r6, .slice AXH l.length cXH, .bool u, .bool d, .bool up], .agg #[.int .i64 r1, .int .i64 r2, .int .i64 r3, .int .i64 r4, .int .i64 r5, .int .i64 r6, .slice AXW l.length cXW, .bool u, .bool d, .bool up]] ?_; (with_reducible refine (laws_eqSessionResult.calls k r1 r2 r3 r4 r5 r6 _ _ l u d up r1 r2 r3 r4 r5 r6 _ _ l u d up true _ ?side1 ?side2 ?side3 ?side4 HEQ.out).mono ?_); (case side1 => exact (Kd.S_reads' XH.out).2.2); (case side2 => exact (Kd.S_reads' XH.out).2.1); (case side3 => exact (Kd.S_reads' XW.out).2.2); (case side4 => exact (Kd.S_reads' XW.out).2.1); rintro e wq15 ⟨rfl, hb⟩; refine ⟨_, rfl, ?_⟩; have HS15 := Aside0.mk (Below.size hb); replace BC := blk_kb BC hb; replace BS := blk_kb BS hb; replace XW := Nkb XW hb; replace BW := blk_kb BW hb; replace XG := Nkb XG hb; replace BG := blk_kb BG hb; replace XH := Nkb XH hb; replace BH := blk_kb BH hb; replace HB := below_kb HB hb; (try clear hczBH_0 hczBH_1 hczBH_2 hczBH_3 hczBH_4 hczBH_5 hczBH_6 hczBH_7 hczBH_8 hczBH_9 hfzBH_0 hfzBH_1 hfzBH_2 hfzBH_3 hfzBH_4 hfzBH_5 hfzBH_6 hfzBH_7 hfzBH_8 hfzBH_9 hczBW_0 hczBW_1 hczBW_2 hczBW_3 hczBW_4 hczBW_5 hczBW_6 hczBW_7 hczBW_8 hczBW_9 hfzBW_0 hfzBW_1 hfzBW_2 hfzBW_3 hfzBW_4 hfzBW_5 hfzBW_6 hfzBW_7 hfzBW_8 hfzBW_9); obtain ⟨hczBG_0, hczBG_1, hczBG_2, hczBG_3, hczBG_4, hczBG_5, hczBG_6, hczBG_7, hczBG_8, hczBG_9, hfzBG_0, hfzBG_1, hfzBG_2, hfzBG_3, hfzBG_4, hfzBG_5, hfzBG_6, hfzBG_7, hfzBG_8, hfzBG_9⟩ := cf10_ BG; (try clear hb); (try clear ho); (try clear hd))
    | ((with_reducible refine gate_dst (N := 46) rfl ?_); refine goe_ (some 46) Try.func34 #[.agg #[.int .i64 r1, .int .i64 r2, .int .i64 r3, .int .i64 r4, .int .i64 r5, .int .i64 r6, .slice AXG l.length cXG, .bool u, .bool d, .bool up], .int .i64 1] ?_; (with_reducible refine (laws_heldSessionResult.callsn k r1 r2 r3 r4 r5 r6 u d up _ _ l.length l4 1 m1 _ HLN.out ?side1 ?side2 HHE.out).mono ?_); (case side1 => exact (by have h_ := (Kd.S_reads' XG.out).2.2; rw [HLN.out] at h_; exact h_)); (case side2 => exact (by have h_ := Kd.S_reads' XG.out; exact h_.2.1)); rintro e wq16 ⟨rfl, hb⟩; refine ⟨_, rfl, ?_⟩; have HS16 := Aside0.mk (Below.size hb); replace BC := blk_kb BC hb; replace BS := blk_kb BS hb; replace XW := Nkb XW hb; replace BW := blk_kb BW hb; replace XG := Nkb XG hb; replace BG := blk_kb BG hb; replace XH := Nkb XH hb; replace BH := blk_kb BH hb; replace HB := below_kb HB hb; (try clear hczBG_0 hczBG_1 hczBG_2 hczBG_3 hczBG_4 hczBG_5 hczBG_6 hczBG_7 hczBG_8 hczBG_9 hfzBG_0 hfzBG_1 hfzBG_2 hfzBG_3 hfzBG_4 hfzBG_5 hfzBG_6 hfzBG_7 hfzBG_8 hfzBG_9); (try clear hb); (try clear ho); (try clear hd)))
  go_ret
  exact ⟨er_, HB.out⟩
theorem markM_nil (k : Nat) : laws_markMessageS.f (k + 2) [] 1 = some (1, []) := rfl
theorem markM_one (k : Nat) (x : S136) : laws_markMessageS.f (k + 2) [x] 1 = some (12, [markMsg 1]) := by kernel_rfl
theorem heldM_nil (k : Nat) : laws_heldMessageS.f (k + 2) [] 1 = some 1 := rfl
theorem heldM_one (k : Nat) : laws_heldMessageS.f (k + 2) [markMsg 1] 1 = some 12 := by kernel_rfl
theorem eqM_nil (k : Nat) : laws_eqMessageS.f (k + 2) [] [] = some true := rfl
theorem eqM_one (k : Nat) (m0 m1 m2 m3 m4 m5 : Int) : laws_eqMessageS.f (k + 2) [msgOf m0 m1 m2 m3 m4 m5] [msgOf m0 m1 m2 m3 m4 m5] = some true := by
  have e : rd_T136 [msgOf m0 m1 m2 m3 m4 m5] 0 = msgOf m0 m1 m2 m3 m4 m5 := rfl
  have eu : laws_eqUpdate.f (k + 1) (msgOf m0 m1 m2 m3 m4 m5).f6.f0 (msgOf m0 m1 m2 m3 m4 m5).f6.f1 (msgOf m0 m1 m2 m3 m4 m5).f6.f2.f0 (msgOf m0 m1 m2 m3 m4 m5).f6.f2.f1 (msgOf m0 m1 m2 m3 m4 m5).f6.f2.f2 (msgOf m0 m1 m2 m3 m4 m5).f6.f2.f3 (msgOf m0 m1 m2 m3 m4 m5).f6.f2.f4 (msgOf m0 m1 m2 m3 m4 m5).f6.f3 (msgOf m0 m1 m2 m3 m4 m5).f6.f0 (msgOf m0 m1 m2 m3 m4 m5).f6.f1 (msgOf m0 m1 m2 m3 m4 m5).f6.f2.f0 (msgOf m0 m1 m2 m3 m4 m5).f6.f2.f1 (msgOf m0 m1 m2 m3 m4 m5).f6.f2.f2 (msgOf m0 m1 m2 m3 m4 m5).f6.f2.f3 (msgOf m0 m1 m2 m3 m4 m5).f6.f2.f4 (msgOf m0 m1 m2 m3 m4 m5).f6.f3 = some true := rfl
  have en : laws_eqMessageS.l0 (k + 1) [msgOf m0 m1 m2 m3 m4 m5] [msgOf m0 m1 m2 m3 m4 m5] (wrap64 (0 + 1)) = some true := by kernel_rfl
  have em : laws_eqMessageS.l0 (k + 2) [msgOf m0 m1 m2 m3 m4 m5] [msgOf m0 m1 m2 m3 m4 m5] 0 = some true := by
    rw [laws_eqMessageS.l0]
    simp only [e, laws_eqMessage.f, eu, en, if_true, Option.bind_some]
    rfl
  unfold laws_eqMessageS.f
  rw [if_pos rfl]
  exact em
theorem bare_nil : ∀ x ∈ ([] : List S136), bareMsg x := fun x hx => absurd hx (by simp)
theorem bare_one (m0 m1 m2 m3 m4 m5 : Int) : ∀ x ∈ [msgOf m0 m1 m2 m3 m4 m5], bareMsg x := fun x hx => by
  rw [List.mem_singleton] at hx
  subst hx
  exact ⟨rfl, rfl, rfl⟩
theorem eqS_refl {k : Nat} {l : List S136} (r1 r2 r3 r4 r5 r6 : Int) (u d up : Bool) (h : laws_eqMessageS.f k l l = some true) : laws_eqSessionResult.f k r1 r2 r3 r4 r5 r6 l u d up r1 r2 r3 r4 r5 r6 l u d up = some true := by
  have e : laws_eqSession.f r2 r3 r4 r5 r6 r2 r3 r4 r5 r6 = some true := by simp [laws_eqSession.f]
  unfold laws_eqSessionResult.f
  rw [if_pos rfl, e, Option.bind_some, if_pos rfl, h, Option.bind_some, if_pos rfl]
  cases u <;> cases d <;> cases up <;> rfl
theorem heldS_of {k : Nat} {l : List S136} (r1 r2 r3 r4 r5 r6 : Int) (u d up : Bool) {m : Int} (h : laws_heldMessageS.f k l 1 = some m) (h0 : ¬ m < 0) : laws_heldSessionResult.f k r1 r2 r3 r4 r5 r6 l u d up 1 = some m := by
  unfold laws_heldSessionResult.f
  rw [h, Option.bind_some, if_neg h0]
def codeOf (a i h s0 s1 s2 s3 s4 : Int) : Int := if configFault a i h = 0 then sessionFault s0 s1 s2 s3 s4 else configFault a i h
theorem code_eq (k : Nat) (a i h s0 s1 s2 s3 s4 : Int) : impl_sessionCode.f (k + 2) a i h s0 s1 s2 s3 s4 = some (codeOf a i h s0 s1 s2 s3 s4) := by
  unfold impl_sessionCode.f codeOf
  rw [impl_ConfigFault_eq, Option.bind_some, impl_SessionFault_eq (by omega), Option.bind_some]
  split <;> rfl
theorem asked_eq (k : Nat) (a i h s0 s1 s2 s3 s4 : Int) : spec_l5Asked.f (k + 2) a i h s0 s1 s2 s3 s4 = some (codeOf a i h s0 s1 s2 s3 s4) := by
  unfold spec_l5Asked.f codeOf
  rw [spec_ConfigFault_eq, Option.bind_some, spec_SessionFault_eq (by omega), Option.bind_some]
  split <;> rfl
def laws_FnExactTickSession.f (k : Nat) (a i h s0 s1 s2 s3 s4 : Int) : Option Bool := some true
theorem laws_FnExactTickSession.nil (a i h s0 s1 s2 s3 s4 : Int) (w : World) (r1 r2 r3 r4 r5 r6 : Int) (u d up : Bool) (hsp : spec_TickSession.f 2 a i h s0 s1 s2 s3 s4 = some (r1, r2, r3, r4, r5, r6, [], u, d, up)) (him : ∀ w, Calls Try.prog 46 #[.agg #[.int .i64 a, .int .i64 i, .int .i64 h], .agg #[.int .i64 s0, .int .i64 s1, .int .i64 s2, .int .i64 s3, .int .i64 s4]] w fun e w' => ∃ v : Value, e = .returned (.agg #[.int .i64 r1, .int .i64 r2, .int .i64 r3, .int .i64 r4, .int .i64 r5, .int .i64 r6, v, .bool u, .bool d, .bool up]) ∧ Kd.S k136 136 w' w.heap.size (fun _ => True) v [] ∧ Below w.heap.size w w') :
    Calls Try.prog 10 #[.agg #[.int .i64 a, .int .i64 i, .int .i64 h], .agg #[.int .i64 s0, .int .i64 s1, .int .i64 s2, .int .i64 s3, .int .i64 s4]] w fun e w' => e = .returned (.bool true) ∧ Below w.heap.size w w' :=
  laws_FnExactTickSession.walk 2 a i h s0 s1 s2 s3 s4 w r1 r2 r3 r4 r5 r6 u d up [] [] 1 (fun w => spec_TickSession.calls 2 a i h s0 s1 s2 s3 s4 r1 r2 r3 r4 r5 r6 [] u d up w hsp) him rfl rfl (eqS_refl _ _ _ _ _ _ _ _ _ (eqM_nil 0)) bare_nil (markM_nil 0) rfl (heldS_of _ _ _ _ _ _ _ _ _ (heldM_nil 0) (by decide)) (by decide)
theorem laws_FnExactTickSession.one (a i h s0 s1 s2 s3 s4 : Int) (w : World) (r1 r2 r3 r4 r5 r6 m0 m1 m2 m3 m4 m5 : Int) (u d up : Bool) (hsp : spec_TickSession.f 2 a i h s0 s1 s2 s3 s4 = some (r1, r2, r3, r4, r5, r6, [msgOf m0 m1 m2 m3 m4 m5], u, d, up)) (him : ∀ w, Calls Try.prog 46 #[.agg #[.int .i64 a, .int .i64 i, .int .i64 h], .agg #[.int .i64 s0, .int .i64 s1, .int .i64 s2, .int .i64 s3, .int .i64 s4]] w fun e w' => ∃ v : Value, e = .returned (.agg #[.int .i64 r1, .int .i64 r2, .int .i64 r3, .int .i64 r4, .int .i64 r5, .int .i64 r6, v, .bool u, .bool d, .bool up]) ∧ Kd.S k136 136 w' w.heap.size (fun _ => True) v [msgOf m0 m1 m2 m3 m4 m5] ∧ Below w.heap.size w w') :
    Calls Try.prog 10 #[.agg #[.int .i64 a, .int .i64 i, .int .i64 h], .agg #[.int .i64 s0, .int .i64 s1, .int .i64 s2, .int .i64 s3, .int .i64 s4]] w fun e w' => e = .returned (.bool true) ∧ Below w.heap.size w w' :=
  laws_FnExactTickSession.walk 2 a i h s0 s1 s2 s3 s4 w r1 r2 r3 r4 r5 r6 u d up [msgOf m0 m1 m2 m3 m4 m5] [markMsg 1] 12 (fun w => spec_TickSession.calls 2 a i h s0 s1 s2 s3 s4 r1 r2 r3 r4 r5 r6 _ u d up w hsp) him rfl rfl (eqS_refl _ _ _ _ _ _ _ _ _ (eqM_one 0 _ _ _ _ _ _)) (bare_one _ _ _ _ _ _) (markM_one 0 _) rfl (heldS_of _ _ _ _ _ _ _ _ _ (heldM_one 0) (by decide)) (by decide)
set_option maxHeartbeats 8000000 in
set_option maxRecDepth 100000 in
theorem laws_FnExactTickSession.calls (k : Nat) (a0_0 : Int) (a0_1 : Int) (a0_2 : Int) (a1_0 : Int) (a1_1 : Int) (a1_2 : Int) (a1_3 : Int) (a1_4 : Int) (w : World) (h : laws_FnExactTickSession.f k a0_0 a0_1 a0_2 a1_0 a1_1 a1_2 a1_3 a1_4 = some true) :
    Calls Try.prog 10 #[.agg #[.int .i64 a0_0, .int .i64 a0_1, .int .i64 a0_2], .agg #[.int .i64 a1_0, .int .i64 a1_1, .int .i64 a1_2, .int .i64 a1_3, .int .i64 a1_4]] w fun e w' => e = .returned (.bool true) ∧ Below w.heap.size w w' := by
  have hc := code_eq 0 a0_0 a0_1 a0_2 a1_0 a1_1 a1_2 a1_3 a1_4
  have hq := asked_eq 0 a0_0 a0_1 a0_2 a1_0 a1_1 a1_2 a1_3 a1_4
  generalize codeOf a0_0 a0_1 a0_2 a1_0 a1_1 a1_2 a1_3 a1_4 = c at hc hq
  by_cases h1 : c = 0
  · have ht : ∀ r, spec_l5Tick.f 2 a1_0 a1_1 a1_2 a1_3 a1_4 = some r → spec_TickSession.f 2 a0_0 a0_1 a0_2 a1_0 a1_1 a1_2 a1_3 a1_4 = some r := fun r hr => by
      unfold spec_TickSession.f
      rw [hq, Option.bind_some, if_pos h1, hr]
      rfl
    by_cases h0 : a1_0 = 0
    · exact laws_FnExactTickSession.nil a0_0 a0_1 a0_2 a1_0 a1_1 a1_2 a1_3 a1_4 w 0 a1_0 a1_1 a1_2 a1_3 a1_4 false false false (ht _ (by unfold spec_l5Tick.f; rw [if_pos h0])) (fun w => impl_TickSession.quiet 2 a0_0 a0_1 a0_2 a1_0 a1_1 a1_2 a1_3 a1_4 c w hc h1 h0)
    · obtain ⟨y3, e3⟩ : ∃ y, (if (1000 : Int) < wrap64 (a1_3 + 1) then (1000 : Int) else wrap64 (a1_3 + 1)) = y := ⟨_, rfl⟩
      obtain ⟨y4, e4⟩ : ∃ y, (if (1000 : Int) < wrap64 (a1_4 + 1) then (1000 : Int) else wrap64 (a1_4 + 1)) = y := ⟨_, rfl⟩
      have m3 : spec_l1Min.f 1000 (wrap64 (a1_3 + 1)) = some y3 := by unfold spec_l1Min.f; rw [← e3]; split <;> rfl
      have m4 : spec_l1Min.f 1000 (wrap64 (a1_4 + 1)) = some y4 := by unfold spec_l1Min.f; rw [← e4]; split <;> rfl
      have hF : spec_l5Fail.f a1_0 a1_1 a1_2 y3 y4 4 0 = some (0, 0, 0, 0, 0, 0, [msgOf 3 0 0 0 4 0], false, (a1_0 == 3), false) := by unfold spec_l5Fail.f; rw [if_neg h0]; rfl
      have hsp : spokeOf a1_0 y4 = 0 := by unfold spokeOf; rw [if_neg h0]
      by_cases hs1 : a1_0 = 1
      · by_cases h50 : y3 = 50
        · exact laws_FnExactTickSession.one a0_0 a0_1 a0_2 a1_0 a1_1 a1_2 a1_3 a1_4 w 0 0 0 0 0 0 3 0 0 0 4 0 false (a1_0 == 3) false (ht _ (by unfold spec_l5Tick.f; rw [if_neg h0, m3, Option.bind_some, m4, Option.bind_some, if_pos hs1, if_pos h50, hF]; rfl)) (fun w => impl_TickSession.up_fail 2 a0_0 a0_1 a0_2 a1_0 a1_1 a1_2 a1_3 a1_4 c y3 y4 w hc e3 e4 h1 h0 hs1 h50)
        · exact laws_FnExactTickSession.nil a0_0 a0_1 a0_2 a1_0 a1_1 a1_2 a1_3 a1_4 w 0 a1_0 a1_1 a1_2 y3 y4 false false false (ht _ (by unfold spec_l5Tick.f; rw [if_neg h0, m3, Option.bind_some, m4, Option.bind_some, if_pos hs1, if_neg h50])) (fun w => impl_TickSession.up 2 a0_0 a0_1 a0_2 a1_0 a1_1 a1_2 a1_3 a1_4 c y3 y4 w hc e3 e4 h1 h0 hs1 h50)
      · by_cases hp : 0 < a1_2
        · by_cases hl : a1_2 ≤ y3
          · have hd : decide (y3 ≥ a1_2) = true := decide_eq_true hl
            exact laws_FnExactTickSession.one a0_0 a0_1 a0_2 a1_0 a1_1 a1_2 a1_3 a1_4 w 0 0 0 0 0 0 3 0 0 0 4 0 false (a1_0 == 3) false (ht _ (by unfold spec_l5Tick.f; rw [if_neg h0, m3, Option.bind_some, m4, Option.bind_some, if_neg hs1, if_pos hp, hd, spec_l5Tick.j0, if_pos rfl, hF]; rfl)) (fun w => impl_TickSession.late 2 a0_0 a0_1 a0_2 a1_0 a1_1 a1_2 a1_3 a1_4 c y3 y4 w hc e3 e4 h1 h0 hs1 hp hl)
          · have hd : decide (y3 ≥ a1_2) = false := decide_eq_false hl
            by_cases ho : (if a1_2 < 6 then (1 : Int) else 3) ≤ y4
            · exact laws_FnExactTickSession.one a0_0 a0_1 a0_2 a1_0 a1_1 a1_2 a1_3 a1_4 w 0 a1_0 a1_1 a1_2 y3 0 4 0 0 0 0 0 false false false (ht _ (by unfold spec_l5Tick.f; rw [if_neg h0, m3, Option.bind_some, m4, Option.bind_some, if_neg hs1, if_pos hp, hd, spec_l5Tick.j0, if_neg (by decide)]; exact tick_pos hp ho)) (fun w => by have h_ := impl_TickSession.say 2 a0_0 a0_1 a0_2 a1_0 a1_1 a1_2 a1_3 a1_4 c y3 y4 w hc e3 e4 h1 h0 hs1 hp hl ho; rw [hsp] at h_; exact h_)
            · exact laws_FnExactTickSession.nil a0_0 a0_1 a0_2 a1_0 a1_1 a1_2 a1_3 a1_4 w 0 a1_0 a1_1 a1_2 y3 y4 false false false (ht _ (by unfold spec_l5Tick.f; rw [if_neg h0, m3, Option.bind_some, m4, Option.bind_some, if_neg hs1, if_pos hp, hd, spec_l5Tick.j0, if_neg (by decide)]; exact tick_neg hp ho)) (fun w => impl_TickSession.still 2 a0_0 a0_1 a0_2 a1_0 a1_1 a1_2 a1_3 a1_4 c y3 y4 w hc e3 e4 h1 h0 hs1 hp hl ho)
        · exact laws_FnExactTickSession.nil a0_0 a0_1 a0_2 a1_0 a1_1 a1_2 a1_3 a1_4 w 0 a1_0 a1_1 a1_2 y3 y4 false false false (ht _ (by unfold spec_l5Tick.f; rw [if_neg h0, m3, Option.bind_some, m4, Option.bind_some, if_neg hs1, if_neg hp, spec_l5Tick.j0, if_neg (by decide), if_pos (show a1_2 < 6 by omega), if_neg hp])) (fun w => impl_TickSession.short 2 a0_0 a0_1 a0_2 a1_0 a1_1 a1_2 a1_3 a1_4 c y3 y4 w hc e3 e4 h1 h0 hs1 hp)
  · refine laws_FnExactTickSession.nil a0_0 a0_1 a0_2 a1_0 a1_1 a1_2 a1_3 a1_4 w c 0 0 0 0 0 false false false ?_ (fun w => impl_TickSession.bad 2 a0_0 a0_1 a0_2 a1_0 a1_1 a1_2 a1_3 a1_4 c w hc h1)
    unfold spec_TickSession.f
    rw [hq, Option.bind_some, if_neg h1]
    rfl
end Go.Proofs.Ythmkjapmnlhflaa.PFnExactTickSession
