/- The contracts of what marks nested rows, and the walk of the law FnExactReadEntries. -/
import Derived.Test.YtfbojdagjecjcaaSFnExactReadEntries
import Derived.Test.YtfbojdagjecjcaaYFnExactReadEntriesFun
namespace Go.Proofs.Ytfbojdagjecjcaa.PFnExactReadEntries
open Go.RowKit Go.Proofs.YtfbojdagjecjcaaW.PrintWords Go.Proofs.YtfbojdagjecjcaaW.PrintLast Go.Proofs.YtfbojdagjecjcaaW.PrintMore Go.Proofs.Ytfbojdagjecjcaa.B Go.Proofs.Ytfbojdagjecjcaa.Pure
attribute [local go_sem] max2_int min2_int max_two min_two max_three min_three max_four min_four
set_option linter.unusedVariables false
set_option linter.unusedSimpArgs false
def laws_markEntryS.l0 : Nat → List S82 → Int → Int → Option (Int × List S82)
  | 0, _, _, _ => none
  | k + 1, x0, x1, x5 => if x5 < (x0.length : Int) then (if 0 ≤ x5 then ((laws_markByteS.f k (rd_T82 x0 x5).f1.f2 (wrap64 ((wrap64 ((wrap64 (x1 + 1)) + 1)) + 1))).bind fun t => laws_markEntryS.l0 k (x0.set x5.toNat ⟨x1, ⟨(wrap64 (x1 + 1)), (wrap64 ((wrap64 (x1 + 1)) + 1)), t.2⟩⟩) t.1 (wrap64 (x5 + 1))) else none) else some (x1, x0)
def laws_markEntryS.f (k : Nat) (l0 : List S82) (a1 : Int) : Option (Int × List S82) := laws_markEntryS.l0 k l0 a1 0
set_option maxHeartbeats 8000000 in
set_option maxRecDepth 100000 in
theorem laws_markEntryS.calls (k : Nat) (P0_ : Nat → Prop) (Au : Option Addr) (cu n : Nat) (l0 : List S82) (a1 r1 : Int) (r2 : List S82) (w0 w : World) (hB : Below w0.heap.size w0 w) (hn : l0.length = n) (ho0 : Kd.S k82 82 w w0.heap.size P0_ (.slice Au n cu) l0) (h : laws_markEntryS.f k l0 a1 = some (r1, r2)) :
    Calls Try.prog 151 #[.slice Au n cu, .int .i64 a1] w fun e w' => e = .returned (.int .i64 r1) ∧ (r2.length = n ∧ Kd.S k82 82 w' w0.heap.size P0_ (.slice Au n cu) r2) ∧ Below w0.heap.size w0 w' ∧ Kept w w' P0_ := by
  have HO := Aside0.mk ho0
  have HN := Aside0.mk hn
  have HK := Aside0.mk (Kept.refl w P0_)
  have HB := Aside0.mk hB
  clear hB ho0 hn
  have H' : Aside0 (laws_markEntryS.l0 k l0 a1 0 = some (r1, r2)) := ⟨h⟩
  clear h
  go_enter Try.func151, Try.ntmps151
  go_wp2
  go_loopg [1, 5] k (fun kq v1 v5 w' => ∃ (x0_1 : List S82) (x1_1 x5_1 : Int), v1 = .int .i64 x1_1 ∧ v5 = .int .i64 x5_1 ∧ Aside0 (laws_markEntryS.l0 kq x0_1 x1_1 x5_1 = some (r1, r2)) ∧ Aside0 (kq ≤ k) ∧ Aside0 (x0_1.length = n) ∧ Aside0 (Kd.S k82 82 w' w0.heap.size P0_ (.slice Au n cu) x0_1) ∧ Aside0 (Kept w w' P0_) ∧ Aside0 (Below w0.heap.size w0 w'))
  case atStart => exact ⟨l0, a1, 0, sd_, sd_, H', ⟨Nat.le_refl _⟩, HN, HO, HK, HB⟩
  case round =>
    clear H' HO HN HK HB
    obtain ⟨x0_1, x1_1, x5_1, rfl, rfl, HA, HK1, HN, HO, HK, HB⟩ := hrel
    cases gk with
    | zero => exact absurd HA.out (by simp [laws_markEntryS.l0])
    | succ k1 =>
      have H := HA.out
      clear HA
      simp only [laws_markEntryS.l0] at H
      rw [HN.out] at H
      by_cases c3 : x5_1 < (n : Int)
      · rw [if_pos c3] at H
        have c3b0 : decide (x5_1 < (n : Int)) = true := decide_eq_true c3
        by_cases c4 : 0 ≤ x5_1
        · rw [if_pos c4] at H
          have c4b0 : decide (0 ≤ x5_1) = true := decide_eq_true c4
          obtain ⟨⟨m1, m2⟩, HM0, H⟩ := Option.bind_eq_some_iff.mp H
          have HM := Aside0.mk HM0
          have H' := Aside0.mk H
          clear HM0 H
          have hln : 0 < x0_1.length := by have := HN.out; omega
          obtain ⟨g, cap, eo, hgb, _, _⟩ := Kd.S_form HO.out hln
          have GB := Aside0.mk hgb
          clear hgb
          injection eo with ea en ec
          subst ea
          subst ec
          clear en
          obtain ⟨oki, c, hcl, hM, hcc, hfr, hoki, hH⟩ := Kd.S_elem HO.out z82 x5_1 c4 c3
          obtain ⟨v1, rfl, hR1⟩ := k82_openM hM
          obtain ⟨A1, c1, rfl⟩ := Kd.R_slice hR1
          have HR : Aside0 (Kd.R (Kd.int .u8) 5 wr w0.heap.size oki (.slice A1 (rd_T82 x0_1 x5_1).f1.f2.length c1) (rd_T82 x0_1 x5_1).f1.f2) := ⟨hR1⟩
          have HH : Aside0 (Kd.H k82 82 wr w0.heap.size P0_ (.slice (some ⟨g, 0, none⟩) n cu) x0_1 x5_1 oki [.int .i64 (rd_T82 x0_1 x5_1).f0, .int .i64 (rd_T82 x0_1 x5_1).f1.f0, .int .i64 (rd_T82 x0_1 x5_1).f1.f1, .slice A1 (rd_T82 x0_1 x5_1).f1.f2.length c1]) := ⟨hH⟩
          have HOK := Aside0.mk hoki
          have HOG := Aside0.mk (Kd.S_R HO.out).1
          have HP4 := Aside0.mk c4
          have HP3 := Aside0.mk c3
          have p5 := eq_true c4
          have q5 := eq_true c3
          clear hH hM hcl hcc hfr hoki hR1 c3 c4 hln
          have hq_ := H_cells HH.out HP4.out HP3.out; have hx_0 : wr.cell? ⟨g, x5_1.toNat * 4, none⟩ = some (.int .i64 (rd_T82 x0_1 x5_1).f0) := hq_.1 0 _ rfl; have hx_1 : wr.cell? ⟨g, x5_1.toNat * 4 + 1, none⟩ = some (.int .i64 (rd_T82 x0_1 x5_1).f1.f0) := hq_.1 1 _ rfl; have hx_2 : wr.cell? ⟨g, x5_1.toNat * 4 + 2, none⟩ = some (.int .i64 (rd_T82 x0_1 x5_1).f1.f1) := hq_.1 2 _ rfl; have hx_3 : wr.cell? ⟨g, x5_1.toNat * 4 + 3, none⟩ = some (.slice A1 (rd_T82 x0_1 x5_1).f1.f2.length c1) := hq_.1 3 _ rfl; have hf_0 : wr.frozen? ⟨g, x5_1.toNat * 4, none⟩ = false := hq_.2 0; have hf_1 : wr.frozen? ⟨g, x5_1.toNat * 4 + 1, none⟩ = false := hq_.2 1; have hf_2 : wr.frozen? ⟨g, x5_1.toNat * 4 + 2, none⟩ = false := hq_.2 2; clear hq_
          go_wp2_with (first
            | ((with_reducible refine gate_store (t := 2) (p := 16) rfl ?_); refine store_event (t := 2) (p := 16) (v := ?vo0) (w1 := (wr.setCell ⟨g, x5_1.toNat * 4, none⟩ (.int .i64 x1_1))) ?hg ?ho ?hn ?hr ?_; (case ho => rfl); (case hg => rfl); (case hn => rfl); (case hr => first | (go_simp; done) | (go_simp; rfl)); intro ws1 hw; obtain ⟨hH_, hgr_⟩ := Kd.H_seg HH.out HP4.out HP3.out (seg := [.int .i64 x1_1]) (j := 0) (by show (1 : Nat) ≤ 4; decide) (by simp [Value.oneCell']); have HG8 : Aside0 (wr.grownBy ws1 (some g)) := ⟨by rw [hw]; exact hgr_⟩; replace HH : Aside0 (Kd.H k82 82 ws1 w0.heap.size P0_ (.slice (some ⟨g, 0, none⟩) n cu) x0_1 x5_1 oki [.int .i64 x1_1, .int .i64 (rd_T82 x0_1 x5_1).f1.f0, .int .i64 (rd_T82 x0_1 x5_1).f1.f1, .slice A1 (rd_T82 x0_1 x5_1).f1.f2.length c1]) := ⟨by rw [hw]; exact hH_⟩; replace HR : Aside0 (Kd.R (Kd.int .u8) 5 ws1 w0.heap.size oki (.slice A1 (rd_T82 x0_1 x5_1).f1.f2.length c1) (rd_T82 x0_1 x5_1).f1.f2) := ⟨Kd.R_grown HR.out HG8.out (fun k_ hk_ e_ => (HOK.out k_ hk_).2 (by injection e_))⟩; replace HB := Aside0.mk ((by rw [hw]; exact below_set (HB.out) GB.out : Below w0.heap.size w0 ws1)); replace HK := Aside0.mk (Kept.of_grown (S := P0_) HG8.out HK.out (fun k_ e_ => .inl (HOG.out k_ e_))); clear hw hH_ hgr_ HG8 hx_0 hx_1 hx_2 hx_3 hf_0 hf_1 hf_2; have hq_ := H_cells HH.out HP4.out HP3.out; have hx_0 : ws1.cell? ⟨g, x5_1.toNat * 4, none⟩ = some (.int .i64 x1_1) := hq_.1 0 _ rfl; have hx_1 : ws1.cell? ⟨g, x5_1.toNat * 4 + 1, none⟩ = some (.int .i64 (rd_T82 x0_1 x5_1).f1.f0) := hq_.1 1 _ rfl; have hx_2 : ws1.cell? ⟨g, x5_1.toNat * 4 + 2, none⟩ = some (.int .i64 (rd_T82 x0_1 x5_1).f1.f1) := hq_.1 2 _ rfl; have hx_3 : ws1.cell? ⟨g, x5_1.toNat * 4 + 3, none⟩ = some (.slice A1 (rd_T82 x0_1 x5_1).f1.f2.length c1) := hq_.1 3 _ rfl; have hf_0 : ws1.frozen? ⟨g, x5_1.toNat * 4, none⟩ = false := hq_.2 0; have hf_1 : ws1.frozen? ⟨g, x5_1.toNat * 4 + 1, none⟩ = false := hq_.2 1; have hf_2 : ws1.frozen? ⟨g, x5_1.toNat * 4 + 2, none⟩ = false := hq_.2 2; clear hq_)
            | ((with_reducible refine gate_store (t := 2) (p := 24) rfl ?_); refine store_event (t := 2) (p := 24) (v := ?vo1) (w1 := (ws1.setCell ⟨g, x5_1.toNat * 4 + 1, none⟩ (.int .i64 (wrap64 (x1_1 + 1))))) ?hg ?ho ?hn ?hr ?_; (case ho => rfl); (case hg => rfl); (case hn => rfl); (case hr => first | (go_simp; done) | (go_simp; rfl)); intro ws2 hw; obtain ⟨hH_, hgr_⟩ := Kd.H_seg HH.out HP4.out HP3.out (seg := [.int .i64 (wrap64 (x1_1 + 1))]) (j := 1) (by show (2 : Nat) ≤ 4; decide) (by simp [Value.oneCell']); have HG8 : Aside0 (ws1.grownBy ws2 (some g)) := ⟨by rw [hw]; exact hgr_⟩; replace HH : Aside0 (Kd.H k82 82 ws2 w0.heap.size P0_ (.slice (some ⟨g, 0, none⟩) n cu) x0_1 x5_1 oki [.int .i64 x1_1, .int .i64 (wrap64 (x1_1 + 1)), .int .i64 (rd_T82 x0_1 x5_1).f1.f1, .slice A1 (rd_T82 x0_1 x5_1).f1.f2.length c1]) := ⟨by rw [hw]; exact hH_⟩; replace HR : Aside0 (Kd.R (Kd.int .u8) 5 ws2 w0.heap.size oki (.slice A1 (rd_T82 x0_1 x5_1).f1.f2.length c1) (rd_T82 x0_1 x5_1).f1.f2) := ⟨Kd.R_grown HR.out HG8.out (fun k_ hk_ e_ => (HOK.out k_ hk_).2 (by injection e_))⟩; replace HB := Aside0.mk ((by rw [hw]; exact below_set (HB.out) GB.out : Below w0.heap.size w0 ws2)); replace HK := Aside0.mk (Kept.of_grown (S := P0_) HG8.out HK.out (fun k_ e_ => .inl (HOG.out k_ e_))); clear hw hH_ hgr_ HG8 hx_0 hx_1 hx_2 hx_3 hf_0 hf_1 hf_2; have hq_ := H_cells HH.out HP4.out HP3.out; have hx_0 : ws2.cell? ⟨g, x5_1.toNat * 4, none⟩ = some (.int .i64 x1_1) := hq_.1 0 _ rfl; have hx_1 : ws2.cell? ⟨g, x5_1.toNat * 4 + 1, none⟩ = some (.int .i64 (wrap64 (x1_1 + 1))) := hq_.1 1 _ rfl; have hx_2 : ws2.cell? ⟨g, x5_1.toNat * 4 + 2, none⟩ = some (.int .i64 (rd_T82 x0_1 x5_1).f1.f1) := hq_.1 2 _ rfl; have hx_3 : ws2.cell? ⟨g, x5_1.toNat * 4 + 3, none⟩ = some (.slice A1 (rd_T82 x0_1 x5_1).f1.f2.length c1) := hq_.1 3 _ rfl; have hf_0 : ws2.frozen? ⟨g, x5_1.toNat * 4, none⟩ = false := hq_.2 0; have hf_1 : ws2.frozen? ⟨g, x5_1.toNat * 4 + 1, none⟩ = false := hq_.2 1; have hf_2 : ws2.frozen? ⟨g, x5_1.toNat * 4 + 2, none⟩ = false := hq_.2 2; clear hq_)
            | ((with_reducible refine gate_store (t := 2) (p := 32) rfl ?_); refine store_event (t := 2) (p := 32) (v := ?vo2) (w1 := (ws2.setCell ⟨g, x5_1.toNat * 4 + 2, none⟩ (.int .i64 (wrap64 ((wrap64 (x1_1 + 1)) + 1))))) ?hg ?ho ?hn ?hr ?_; (case ho => rfl); (case hg => rfl); (case hn => rfl); (case hr => first | (go_simp; done) | (go_simp; rfl)); intro ws3 hw; obtain ⟨hH_, hgr_⟩ := Kd.H_seg HH.out HP4.out HP3.out (seg := [.int .i64 (wrap64 ((wrap64 (x1_1 + 1)) + 1))]) (j := 2) (by show (3 : Nat) ≤ 4; decide) (by simp [Value.oneCell']); have HG8 : Aside0 (ws2.grownBy ws3 (some g)) := ⟨by rw [hw]; exact hgr_⟩; replace HH : Aside0 (Kd.H k82 82 ws3 w0.heap.size P0_ (.slice (some ⟨g, 0, none⟩) n cu) x0_1 x5_1 oki [.int .i64 x1_1, .int .i64 (wrap64 (x1_1 + 1)), .int .i64 (wrap64 ((wrap64 (x1_1 + 1)) + 1)), .slice A1 (rd_T82 x0_1 x5_1).f1.f2.length c1]) := ⟨by rw [hw]; exact hH_⟩; replace HR : Aside0 (Kd.R (Kd.int .u8) 5 ws3 w0.heap.size oki (.slice A1 (rd_T82 x0_1 x5_1).f1.f2.length c1) (rd_T82 x0_1 x5_1).f1.f2) := ⟨Kd.R_grown HR.out HG8.out (fun k_ hk_ e_ => (HOK.out k_ hk_).2 (by injection e_))⟩; replace HB := Aside0.mk ((by rw [hw]; exact below_set (HB.out) GB.out : Below w0.heap.size w0 ws3)); replace HK := Aside0.mk (Kept.of_grown (S := P0_) HG8.out HK.out (fun k_ e_ => .inl (HOG.out k_ e_))); clear hw hH_ hgr_ HG8 hx_0 hx_1 hx_2 hx_3 hf_0 hf_1 hf_2; have hq_ := H_cells HH.out HP4.out HP3.out; have hx_0 : ws3.cell? ⟨g, x5_1.toNat * 4, none⟩ = some (.int .i64 x1_1) := hq_.1 0 _ rfl; have hx_1 : ws3.cell? ⟨g, x5_1.toNat * 4 + 1, none⟩ = some (.int .i64 (wrap64 (x1_1 + 1))) := hq_.1 1 _ rfl; have hx_2 : ws3.cell? ⟨g, x5_1.toNat * 4 + 2, none⟩ = some (.int .i64 (wrap64 ((wrap64 (x1_1 + 1)) + 1))) := hq_.1 2 _ rfl; have hx_3 : ws3.cell? ⟨g, x5_1.toNat * 4 + 3, none⟩ = some (.slice A1 (rd_T82 x0_1 x5_1).f1.f2.length c1) := hq_.1 3 _ rfl; have hf_0 : ws3.frozen? ⟨g, x5_1.toNat * 4, none⟩ = false := hq_.2 0; have hf_1 : ws3.frozen? ⟨g, x5_1.toNat * 4 + 1, none⟩ = false := hq_.2 1; have hf_2 : ws3.frozen? ⟨g, x5_1.toNat * 4 + 2, none⟩ = false := hq_.2 2; clear hq_)
            | ((with_reducible refine gate_callee (f := 30) rfl ?_); refine goe_ (some 42) Try.func30 #[.slice A1 (rd_T82 x0_1 x5_1).f1.f2.length c1, .int .i64 (wrap64 ((wrap64 ((wrap64 (x1_1 + 1)) + 1)) + 1))] ?_; (with_reducible refine (laws_markByteS.calls k1 (fun k_ => some k_ = (.slice A1 (rd_T82 x0_1 x5_1).f1.f2.length c1 : Value).ownBlock) (.slice A1 (rd_T82 x0_1 x5_1).f1.f2.length c1) (rd_T82 x0_1 x5_1).f1.f2 (wrap64 ((wrap64 ((wrap64 (x1_1 + 1)) + 1)) + 1)) m1 m2 w0 _ ?side1 ?side2 HM.out).mono ?_); (case side1 => exact HB.out); (case side2 => exact Kd.R_tight rfl HR.out); rintro e w9 ⟨rfl, hy0, hb, hkp⟩; refine ⟨_, rfl, ?_⟩; have HR9 : Aside0 (Kd.R (Kd.int .u8) 5 w9 w0.heap.size oki (.slice A1 (rd_T82 x0_1 x5_1).f1.f2.length c1) m2) := ⟨Kd.R_reok rfl hy0 (fun k_ e_ => HR.out.1 k_ e_)⟩; have HH9 := Aside0.mk (Kd.H_kept HH.out hkp (fun k_ _ hn_ ho_ => hn_ (HR.out.1 k_ ho_.symm))); replace HK := Aside0.mk (Kept.then_ (S := P0_) HK.out hkp (fun k_ h_ => .inl (HOK.out k_ (HR.out.1 k_ h_.symm)).1)); replace HB := Aside0.mk hb; replace HO : Aside0 (Kd.S k82 82 w9 w0.heap.size P0_ (.slice (some ⟨g, 0, none⟩) n cu) (x0_1.set x5_1.toNat ⟨x1_1, ⟨(wrap64 (x1_1 + 1)), (wrap64 ((wrap64 (x1_1 + 1)) + 1)), m2⟩⟩)) := ⟨Kd.H_back HH9.out (k82_mkM _ _ _ (⟨x1_1, ⟨(wrap64 (x1_1 + 1)), (wrap64 ((wrap64 (x1_1 + 1)) + 1)), m2⟩⟩ : S82) HR9.out) (fun _ h_ => h_)⟩; clear hy0 hb hkp HR HH HR9 HH9 hx_0 hx_1 hx_2 hx_3 hf_0 hf_1 hf_2))
          go_roundg k1
          case measure => have := HK1.out; omega
          case rel => exact ⟨_, m1, (wrap64 (x5_1 + 1)), sd_, sd_, H', ⟨by have := HK1.out; omega⟩, ⟨by rw [List.length_set]; exact HN.out⟩, HO, HK, HB⟩
        · rw [if_neg c4] at H
          exact absurd H (by simp)
      · rw [if_neg c3] at H
        have c3b0 : decide (x5_1 < (n : Int)) = false := decide_eq_false c3
        clear c3
        simp only [Option.some.injEq, Prod.mk.injEq] at H
        obtain ⟨rfl, rfl⟩ := H
        go_wp2
        go_ret
        exact ⟨er_, ⟨HN.out, HO.out⟩, HB.out, HK.out⟩
set_option maxHeartbeats 8000000 in
set_option maxRecDepth 100000 in
theorem laws_markEntriesResult.calls (k : Nat) (P0_ : Nat → Prop) (Au : Option Addr) (cu n : Nat) (l0 : List S82) (e1 e2 : Int) (a1 r1 : Int) (r2 : List S82) (w0 w : World) (hB : Below w0.heap.size w0 w) (hn : l0.length = n) (ho0 : Kd.S k82 82 w w0.heap.size P0_ (.slice Au n cu) l0) (h : laws_markEntryS.f k l0 a1 = some (r1, r2)) :
    Calls Try.prog 76 #[.agg #[.int .i64 e1, .int .i64 e2, .slice Au n cu], .int .i64 a1] w fun e w' => e = .returned (.int .i64 r1) ∧ (r2.length = n ∧ Kd.S k82 82 w' w0.heap.size P0_ (.slice Au n cu) r2) ∧ Below w0.heap.size w0 w' ∧ Kept w w' P0_ := by
  have HO := Aside0.mk ho0
  have HN := Aside0.mk hn
  have HM := Aside0.mk h
  have HB := Aside0.mk hB
  clear hB ho0 hn h
  go_enter Try.func76, Try.ntmps76
  go_wp2_with (first
    | ((with_reducible refine gate_dst (N := 2) rfl ?_); refine box_e_ 2 #[.int .i64 e1, .int .i64 e2, .slice Au n cu] 122 ?_; intro g hg w1 hbox hb; have BK := Aside0.mk hbox; replace HO := Aside0.mk (Kd.S_below HO.out hb); replace HB := Aside0.mk (HB.out.trans (hb.mono HB.out.size)); have HK := Aside0.mk (Kept.of_below hb P0_); clear hb hbox hg; obtain ⟨hcz_0, hcz_1, hcz_2, hfz_0, hfz_1, hfz_2⟩ := cf3_ BK)
    | ((with_reducible refine gate_callee (f := 151) rfl ?_); refine goe_ (some 8) Try.func151 #[.slice Au n cu, .int .i64 a1] ?_; (with_reducible refine (laws_markEntryS.calls k P0_ Au cu n l0 a1 r1 r2 w0 _ ?side1 HN.out ?side2 HM.out).mono ?_); (case side1 => exact HB.out); (case side2 => exact HO.out); rintro e w2 ⟨rfl, hy, hb, hkp⟩; refine ⟨_, rfl, ?_⟩; have HY := Aside0.mk hy; replace HB := Aside0.mk hb; replace HK := Aside0.mk (Kept.then_ (S := P0_) HK.out hkp (fun k_ h_ => .inl h_)); clear hy hb hkp))
  go_ret
  exact ⟨er_, HY.out, HB.out, HK.out⟩
theorem laws_heldEntriesResult.callsn (k : Nat) (e1 e2 : Int) (A0 : Option Addr) (c0 n : Nat) (l0 : List S82) (a1 r : Int) (w : World) (hn : l0.length = n) (hr0 : Kd.C k82 w A0 n l0) (hc0 : n ≤ c0) (h : laws_heldEntriesResult.f k e1 e2 l0 a1 = some r) :
    Calls Try.prog 77 #[.agg #[.int .i64 e1, .int .i64 e2, .slice A0 n c0], .int .i64 a1] w fun e w' => e = .returned (.int .i64 r) ∧ Below w.heap.size w w' := by
  subst hn
  exact laws_heldEntriesResult.calls k e1 e2 A0 c0 l0 a1 r w hr0 hc0 h
set_option maxHeartbeats 16000000 in
set_option maxRecDepth 100000 in
theorem laws_FnExactReadEntries.walk (k : Nat) (A0 : Option Addr) (c0 : Nat) (l0 : List Int) (w : World) (e1 e2 : Int) (r3 r4 : List S82) (q1 m1 : Int) (q2 : List Int) (hr0 : Kd.C (Kd.int .u8) w A0 l0.length l0) (hc0 : l0.length ≤ c0) (hl : l0.length ≤ 1048576)
    (ht : laws_toByteS.f k l0 = some l0) (hsp : spec_ReadEntries.f k l0 = some (e1, e2, r3)) (him : impl_ReadEntries.f k l0 = some (e1, e2, r3)) (heq : laws_eqEntriesResult.f k e1 e2 r3 e1 e2 r3 = some true) (heb : laws_eqByteS.f k l0 l0 = some true)
    (hmb : laws_markByteS.f k l0 1 = some (q1, q2)) (hq1 : ¬ q1 < 0) (hmf : laws_markEntryS.f k r3 1 = some (m1, r4)) (hln : r4.length = r3.length) (hhe : laws_heldEntriesResult.f k e1 e2 r4 1 = some m1) (hm1 : ¬ m1 < 0) :
    Calls Try.prog 13 #[.slice A0 l0.length c0] w fun e w' => e = .returned (.bool true) ∧ Below w.heap.size w w' := by
  have HR0 := Aside0.mk hr0
  have HC0 := Aside0.mk hc0
  have HT := Aside0.mk ht
  have HSP := Aside0.mk hsp
  have HIM := Aside0.mk him
  have HEQ := Aside0.mk heq
  have HEB := Aside0.mk heb
  have HMB := Aside0.mk hmb
  have HMF := Aside0.mk hmf
  have HLN := Aside0.mk hln
  have HHE := Aside0.mk hhe
  have HB := Aside0.mk (Below.refl w.heap.size w)
  have t0 : decide (1048576 < (l0.length : Int)) = false := decide_eq_false (by omega)
  have t1 : decide (1048576 < l0.length) = false := decide_eq_false (by omega)
  have t2 : decide (q1 < 0) = false := decide_eq_false hq1
  have t3 : decide (m1 < 0) = false := decide_eq_false hm1
  clear hr0 hc0 ht hsp him heq heb hmb hmf hln hhe hl hq1 hm1
  go_enter Try.func13, Try.ntmps13
  go_wp2_with (first
    | ((with_reducible refine gate_dst (N := 14) rfl ?_); refine goe_ (some 14) Try.func26 #[.slice A0 l0.length c0] ?_; (with_reducible refine (laws_toByteS.calls k _ _ l0 l0 _ ?side1 ?side2 HT.out).mono ?_); (case side1 => exact Kd.C_below HR0.out HB.out); (case side2 => exact HC0.out); rintro e wq1 ⟨v, rfl, ho, hb⟩; refine ⟨_, rfl, ?_⟩; have X1 := Riv ho HB.out.size; have HS1 := Aside0.mk (Below.size hb); replace HB := below_kb HB hb; obtain ⟨AX1, cX1, rfl⟩ := Kd.R_slice X1.out; (try clear hb); (try clear ho); (try clear hd))
    | ((with_reducible refine gate_dst (N := 15) rfl ?_); refine goe_ (some 15) Try.func73 #[.slice AX1 l0.length cX1] ?_; (with_reducible refine (spec_ReadEntries.calls k _ _ l0 e1 e2 r3 _ ?side1 ?side2 HSP.out).mono ?_); (case side1 => exact (Kd.R_reads' X1.out).2.2); (case side2 => exact (Kd.R_reads' X1.out).2.1); rintro e wq2 ⟨v, rfl, ho, hb⟩; refine ⟨_, rfl, ?_⟩; have XW := Siv ho HB.out.size; have HS2 := Aside0.mk (Below.size hb); replace X1 := Rkb X1 hb; replace HB := below_kb HB hb; obtain ⟨AXW, cXW, rfl⟩ := Kd.S_slice XW.out; (try clear hb); (try clear ho); (try clear hd); clear X1)
    | ((with_reducible refine gate_dst (N := 3) rfl ?_); refine box_e_ 3 #[.int .i64 0, .int .i64 0, .slice none 0 0] 122 ?_; intro gBW hg wq3 hbox hb; have HGBW := Aside0.mk hg; have HLBW := Aside0.mk (blk_lt hbox); have HEBW : Aside0 (w.heap.size ≤ gBW) := ⟨by rw [hg]; exact HB.out.size⟩; have HS3 := Aside0.mk (Below.size hb); replace XW := Skb XW hb; replace HB := below_kb HB hb; have BW := Aside0.mk hbox; clear hbox hg hb; obtain ⟨hczBW_0, hczBW_1, hczBW_2, hfzBW_0, hfzBW_1, hfzBW_2⟩ := cf3_ BW)
    | ((with_reducible refine gate_store (t := 122) (p := 3) rfl ?_); refine store_event (t := 122) (p := 3) (v := ?vo4) (w1 := wq3.setCells gBW 0 [.int .i64 e1, .int .i64 e2, .slice AXW r3.length cXW]) ?hg ?ho ?hn ?hr ?_; (case ho => rfl); (case hg => rfl); (case hn => rfl); (case hr => first | (go_simp; done) | (go_simp; rfl)); intro wq4 hw; have hk : Kept wq3 wq4 (fun k => k = gBW) := (by rw [hw]; exact puts_kept [.int .i64 e1, .int .i64 e2, .slice AXW r3.length cXW] 0 _ _ (Kept.refl _ _)); have hp_ := (show Aside0 (wq4.heap[gBW]? = some (.cells #[.int .i64 e1, .int .i64 e2, .slice AXW r3.length cXW] 122 (0, 0))) from by rw [hw]; exact puts_blk BW [.int .i64 e1, .int .i64 e2, .slice AXW r3.length cXW] rfl); replace HB : Aside0 (Below w.heap.size w wq4) := ⟨by rw [hw]; exact puts_below HEBW.out [.int .i64 e1, .int .i64 e2, .slice AXW r3.length cXW] 0 _ HB.out⟩; have HS4 := Aside0.mk hk.1; replace XW := Skk XW hk (fun k h1 h2 h3 => by have o0_ := HS1.out; have o1_ := HS2.out; have o2_ := HS3.out; have o3_ := HGBW.out; have o4_ := HLBW.out; have h3_ := h3; omega); replace BW := hp_; clear hw hk; obtain ⟨hczBW_0, hczBW_1, hczBW_2, hfzBW_0, hfzBW_1, hfzBW_2⟩ := cf3_ BW)
    | ((with_reducible refine gate_dst (N := 17) rfl ?_); refine goe_ (some 17) Try.func26 #[.slice A0 l0.length c0] ?_; (with_reducible refine (laws_toByteS.calls k _ _ l0 l0 _ ?side1 ?side2 HT.out).mono ?_); (case side1 => exact Kd.C_below HR0.out HB.out); (case side2 => exact HC0.out); rintro e wq5 ⟨v, rfl, ho, hb⟩; refine ⟨_, rfl, ?_⟩; have X0 := Riv ho HB.out.size; have HS5 := Aside0.mk (Below.size hb); replace XW := Skb XW hb; replace BW := blk_kb BW hb; replace HB := below_kb HB hb; obtain ⟨AX0, cX0, rfl⟩ := Kd.R_slice X0.out; (try clear hb); (try clear ho); (try clear hd))
    | ((with_reducible refine gate_dst (N := 19) rfl ?_); refine goe_ (some 19) Try.func74 #[.slice AX0 l0.length cX0] ?_; (with_reducible refine (impl_ReadEntries.calls k _ _ l0 e1 e2 r3 _ ?side1 ?side2 HIM.out).mono ?_); (case side1 => exact (Kd.R_reads' X0.out).2.2); (case side2 => exact (Kd.R_reads' X0.out).2.1); rintro e wq6 ⟨v, rfl, ho, hb⟩; refine ⟨_, rfl, ?_⟩; have XG := Siv ho HB.out.size; have HS6 := Aside0.mk (Below.size hb); replace XW := Skb XW hb; replace BW := blk_kb BW hb; replace X0 := Rkb X0 hb; replace HB := below_kb HB hb; obtain ⟨AXG, cXG, rfl⟩ := Kd.S_slice XG.out; (try clear hb); (try clear ho); (try clear hd))
    | ((with_reducible refine gate_dst (N := 5) rfl ?_); refine box_e_ 5 #[.int .i64 0, .int .i64 0, .slice none 0 0] 122 ?_; intro gBG hg wq7 hbox hb; have HGBG := Aside0.mk hg; have HLBG := Aside0.mk (blk_lt hbox); have HEBG : Aside0 (w.heap.size ≤ gBG) := ⟨by rw [hg]; exact HB.out.size⟩; have HS7 := Aside0.mk (Below.size hb); replace XW := Skb XW hb; replace BW := blk_kb BW hb; replace X0 := Rkb X0 hb; replace XG := Skb XG hb; replace HB := below_kb HB hb; have BG := Aside0.mk hbox; clear hbox hg hb; obtain ⟨hczBG_0, hczBG_1, hczBG_2, hfzBG_0, hfzBG_1, hfzBG_2⟩ := cf3_ BG)
    | ((with_reducible refine gate_store (t := 122) (p := 5) rfl ?_); refine store_event (t := 122) (p := 5) (v := ?vo8) (w1 := wq7.setCells gBG 0 [.int .i64 e1, .int .i64 e2, .slice AXG r3.length cXG]) ?hg ?ho ?hn ?hr ?_; (case ho => rfl); (case hg => rfl); (case hn => rfl); (case hr => first | (go_simp; done) | (go_simp; rfl)); intro wq8 hw; have hk : Kept wq7 wq8 (fun k => k = gBG) := (by rw [hw]; exact puts_kept [.int .i64 e1, .int .i64 e2, .slice AXG r3.length cXG] 0 _ _ (Kept.refl _ _)); have hp_ := (show Aside0 (wq8.heap[gBG]? = some (.cells #[.int .i64 e1, .int .i64 e2, .slice AXG r3.length cXG] 122 (0, 0))) from by rw [hw]; exact puts_blk BG [.int .i64 e1, .int .i64 e2, .slice AXG r3.length cXG] rfl); replace HB : Aside0 (Below w.heap.size w wq8) := ⟨by rw [hw]; exact puts_below HEBG.out [.int .i64 e1, .int .i64 e2, .slice AXG r3.length cXG] 0 _ HB.out⟩; have HS8 := Aside0.mk hk.1; replace XW := Skk XW hk (fun k h1 h2 h3 => by have o0_ := HS1.out; have o1_ := HS2.out; have o2_ := HS3.out; have o3_ := HGBW.out; have o4_ := HLBW.out; have o5_ := HS4.out; have o6_ := HS5.out; have o7_ := HS6.out; have o8_ := HS7.out; have o9_ := HGBG.out; have o10_ := HLBG.out; have h3_ := h3; omega); replace BW := blk_kk BW hk (fun h3 => by have o0_ := HS1.out; have o1_ := HS2.out; have o2_ := HS3.out; have o3_ := HGBW.out; have o4_ := HLBW.out; have o5_ := HS4.out; have o6_ := HS5.out; have o7_ := HS6.out; have o8_ := HS7.out; have o9_ := HGBG.out; have o10_ := HLBG.out; have h3_ := h3; omega); replace X0 := Rkk X0 hk (fun k h1 h2 h3 => by have o0_ := HS1.out; have o1_ := HS2.out; have o2_ := HS3.out; have o3_ := HGBW.out; have o4_ := HLBW.out; have o5_ := HS4.out; have o6_ := HS5.out; have o7_ := HS6.out; have o8_ := HS7.out; have o9_ := HGBG.out; have o10_ := HLBG.out; have h3_ := h3; omega); replace XG := Skk XG hk (fun k h1 h2 h3 => by have o0_ := HS1.out; have o1_ := HS2.out; have o2_ := HS3.out; have o3_ := HGBW.out; have o4_ := HLBW.out; have o5_ := HS4.out; have o6_ := HS5.out; have o7_ := HS6.out; have o8_ := HS7.out; have o9_ := HGBG.out; have o10_ := HLBG.out; have h3_ := h3; omega); replace BG := hp_; clear hw hk; obtain ⟨hczBG_0, hczBG_1, hczBG_2, hfzBG_0, hfzBG_1, hfzBG_2⟩ := cf3_ BG; obtain ⟨hczBW_0, hczBW_1, hczBW_2, hfzBW_0, hfzBW_1, hfzBW_2⟩ := cf3_ BW)
    | ((with_reducible refine gate_dst (N := 22) rfl ?_); refine goe_ (some 22) Try.func75 #[.agg #[.int .i64 e1, .int .i64 e2, .slice AXG r3.length cXG], .agg #[.int .i64 e1, .int .i64 e2, .slice AXW r3.length cXW]] ?_; (with_reducible refine (laws_eqEntriesResult.calls k e1 e2 _ _ r3 e1 e2 _ _ r3 true _ ?side1 ?side2 ?side3 ?side4 HEQ.out).mono ?_); (case side1 => exact (Kd.S_reads' XG.out).2.2); (case side2 => exact (Kd.S_reads' XG.out).2.1); (case side3 => exact (Kd.S_reads' XW.out).2.2); (case side4 => exact (Kd.S_reads' XW.out).2.1); rintro e wq9 ⟨rfl, hb⟩; refine ⟨_, rfl, ?_⟩; have HS9 := Aside0.mk (Below.size hb); replace XW := Skb XW hb; replace BW := blk_kb BW hb; replace X0 := Rkb X0 hb; replace XG := Skb XG hb; replace BG := blk_kb BG hb; replace HB := below_kb HB hb; (try clear hb); (try clear ho); (try clear hd))
    | ((with_reducible refine gate_dst (N := 26) rfl ?_); refine goe_ (some 26) Try.func26 #[.slice A0 l0.length c0] ?_; (with_reducible refine (laws_toByteS.calls k _ _ l0 l0 _ ?side1 ?side2 HT.out).mono ?_); (case side1 => exact Kd.C_below HR0.out HB.out); (case side2 => exact HC0.out); rintro e wq10 ⟨v, rfl, ho, hb⟩; refine ⟨_, rfl, ?_⟩; have X2 := Riv ho HB.out.size; have HS10 := Aside0.mk (Below.size hb); replace XW := Skb XW hb; replace BW := blk_kb BW hb; replace X0 := Rkb X0 hb; replace XG := Skb XG hb; replace BG := blk_kb BG hb; replace HB := below_kb HB hb; obtain ⟨AX2, cX2, rfl⟩ := Kd.R_slice X2.out; (try clear hb); (try clear ho); (try clear hd))
    | ((with_reducible refine gate_dst (N := 27) rfl ?_); refine goe_ (some 27) Try.func29 #[.slice AX0 l0.length cX0, .slice AX2 l0.length cX2] ?_; (with_reducible refine (laws_eqByteS.calls k _ _ l0 _ _ l0 true _ ?side1 ?side2 ?side3 ?side4 HEB.out).mono ?_); (case side1 => exact (Kd.R_reads' X0.out).2.2); (case side2 => exact (Kd.R_reads' X0.out).2.1); (case side3 => exact (Kd.R_reads' X2.out).2.2); (case side4 => exact (Kd.R_reads' X2.out).2.1); rintro e wq11 ⟨rfl, hd⟩; refine ⟨_, rfl, ?_⟩; have hb := drawn_below hd; have HS11 := Aside0.mk (Below.size hb); replace XW := Skb XW hb; replace BW := blk_kb BW hb; replace X0 := Rkb X0 hb; replace XG := Skb XG hb; replace BG := blk_kb BG hb; replace X2 := Rkb X2 hb; replace HB := below_kb HB hb; (try clear hb); (try clear ho); (try clear hd); clear X2)
    | ((with_reducible refine gate_dst (N := 31) rfl ?_); refine goe_ (some 31) Try.func30 #[.slice AX0 l0.length cX0, .int .i64 1] ?_; (with_reducible refine (laws_markByteS.calls k (Iv wq4.heap.size wq5.heap.size) _ l0 1 q1 q2 w _ ?side1 ?side2 HMB.out).mono ?_); (case side1 => exact HB.out); (case side2 => exact X0.out); rintro e wq12 ⟨rfl, hy, hb0, hkp⟩; refine ⟨_, rfl, ?_⟩; have hk := hkp; have HS12 := Aside0.mk hk.1; replace XW := Skk XW hk (fun k h1 h2 h3 => by have o0_ := HS1.out; have o1_ := HS2.out; have o2_ := HS3.out; have o3_ := HGBW.out; have o4_ := HLBW.out; have o5_ := HS4.out; have o6_ := HS5.out; have o7_ := HS6.out; have o8_ := HS7.out; have o9_ := HGBG.out; have o10_ := HLBG.out; have o11_ := HS8.out; have o12_ := HS9.out; have o13_ := HS10.out; have o14_ := HS11.out; obtain ⟨h3a_, h3b_⟩ := h3; omega); replace BW := blk_kk BW hk (fun h3 => by have o0_ := HS1.out; have o1_ := HS2.out; have o2_ := HS3.out; have o3_ := HGBW.out; have o4_ := HLBW.out; have o5_ := HS4.out; have o6_ := HS5.out; have o7_ := HS6.out; have o8_ := HS7.out; have o9_ := HGBG.out; have o10_ := HLBG.out; have o11_ := HS8.out; have o12_ := HS9.out; have o13_ := HS10.out; have o14_ := HS11.out; obtain ⟨h3a_, h3b_⟩ := h3; omega); replace XG := Skk XG hk (fun k h1 h2 h3 => by have o0_ := HS1.out; have o1_ := HS2.out; have o2_ := HS3.out; have o3_ := HGBW.out; have o4_ := HLBW.out; have o5_ := HS4.out; have o6_ := HS5.out; have o7_ := HS6.out; have o8_ := HS7.out; have o9_ := HGBG.out; have o10_ := HLBG.out; have o11_ := HS8.out; have o12_ := HS9.out; have o13_ := HS10.out; have o14_ := HS11.out; obtain ⟨h3a_, h3b_⟩ := h3; omega); replace BG := blk_kk BG hk (fun h3 => by have o0_ := HS1.out; have o1_ := HS2.out; have o2_ := HS3.out; have o3_ := HGBW.out; have o4_ := HLBW.out; have o5_ := HS4.out; have o6_ := HS5.out; have o7_ := HS6.out; have o8_ := HS7.out; have o9_ := HGBG.out; have o10_ := HLBG.out; have o11_ := HS8.out; have o12_ := HS9.out; have o13_ := HS10.out; have o14_ := HS11.out; obtain ⟨h3a_, h3b_⟩ := h3; omega); clear X0; replace HB := Aside0.mk hb0; obtain ⟨hczBG_0, hczBG_1, hczBG_2, hfzBG_0, hfzBG_1, hfzBG_2⟩ := cf3_ BG; obtain ⟨hczBW_0, hczBW_1, hczBW_2, hfzBW_0, hfzBW_1, hfzBW_2⟩ := cf3_ BW; (try clear hk); (try clear hkp); (try clear hb0); (try clear hy))
    | ((with_reducible refine gate_dst (N := 42) rfl ?_); refine goe_ (some 42) Try.func76 #[.agg #[.int .i64 e1, .int .i64 e2, .slice AXG r3.length cXG], .int .i64 1] ?_; (with_reducible refine (laws_markEntriesResult.calls k (Iv wq5.heap.size wq6.heap.size) _ _ r3.length r3 e1 e2 1 m1 r4 w _ ?side1 rfl ?side2 HMF.out).mono ?_); (case side1 => exact HB.out); (case side2 => exact XG.out); rintro e wq14 ⟨rfl, ⟨hln, hy⟩, hb0, hkp⟩; refine ⟨_, rfl, ?_⟩; have hk := hkp; have HS14 := Aside0.mk hk.1; replace XW := Skk XW hk (fun k h1 h2 h3 => by have o0_ := HS1.out; have o1_ := HS2.out; have o2_ := HS3.out; have o3_ := HGBW.out; have o4_ := HLBW.out; have o5_ := HS4.out; have o6_ := HS5.out; have o7_ := HS6.out; have o8_ := HS7.out; have o9_ := HGBG.out; have o10_ := HLBG.out; have o11_ := HS8.out; have o12_ := HS9.out; have o13_ := HS10.out; have o14_ := HS11.out; have o15_ := HS12.out; have o16_ := HS13.out; obtain ⟨h3a_, h3b_⟩ := h3; omega); replace BW := blk_kk BW hk (fun h3 => by have o0_ := HS1.out; have o1_ := HS2.out; have o2_ := HS3.out; have o3_ := HGBW.out; have o4_ := HLBW.out; have o5_ := HS4.out; have o6_ := HS5.out; have o7_ := HS6.out; have o8_ := HS7.out; have o9_ := HGBG.out; have o10_ := HLBG.out; have o11_ := HS8.out; have o12_ := HS9.out; have o13_ := HS10.out; have o14_ := HS11.out; have o15_ := HS12.out; have o16_ := HS13.out; obtain ⟨h3a_, h3b_⟩ := h3; omega); replace BG := blk_kk BG hk (fun h3 => by have o0_ := HS1.out; have o1_ := HS2.out; have o2_ := HS3.out; have o3_ := HGBW.out; have o4_ := HLBW.out; have o5_ := HS4.out; have o6_ := HS5.out; have o7_ := HS6.out; have o8_ := HS7.out; have o9_ := HGBG.out; have o10_ := HLBG.out; have o11_ := HS8.out; have o12_ := HS9.out; have o13_ := HS10.out; have o14_ := HS11.out; have o15_ := HS12.out; have o16_ := HS13.out; obtain ⟨h3a_, h3b_⟩ := h3; omega); replace XG := Aside0.mk hy; replace HB := Aside0.mk hb0; (try clear hln); obtain ⟨hczBG_0, hczBG_1, hczBG_2, hfzBG_0, hfzBG_1, hfzBG_2⟩ := cf3_ BG; (try clear hk); (try clear hkp); (try clear hb0); (try clear hy))
    | ((with_reducible refine gate_dst (N := 45) rfl ?_); refine goe_ (some 45) Try.func77 #[.agg #[.int .i64 e1, .int .i64 e2, .slice AXG r3.length cXG], .int .i64 1] ?_; (with_reducible refine (laws_heldEntriesResult.callsn k e1 e2 _ _ r3.length r4 1 m1 _ HLN.out ?side1 ?side2 HHE.out).mono ?_); (case side1 => exact (by have h_ := (Kd.S_reads' XG.out).2.2; rw [HLN.out] at h_; exact h_)); (case side2 => exact (by have h_ := Kd.S_reads' XG.out; exact h_.2.1)); rintro e wq15 ⟨rfl, hb⟩; refine ⟨_, rfl, ?_⟩; have HS15 := Aside0.mk (Below.size hb); replace XW := Skb XW hb; replace BW := blk_kb BW hb; replace XG := Skb XG hb; replace BG := blk_kb BG hb; replace HB := below_kb HB hb; (try clear hb); (try clear ho); (try clear hd))
    | ((with_reducible refine gate_dst (N := 52) rfl ?_); refine goe_ (some 52) Try.func26 #[.slice A0 l0.length c0] ?_; (with_reducible refine (laws_toByteS.calls k _ _ l0 l0 _ ?side1 ?side2 HT.out).mono ?_); (case side1 => exact Kd.C_below HR0.out HB.out); (case side2 => exact HC0.out); rintro e wq16 ⟨v, rfl, ho, hb⟩; refine ⟨_, rfl, ?_⟩; have X3 := Riv ho HB.out.size; have HS16 := Aside0.mk (Below.size hb); replace XW := Skb XW hb; replace BW := blk_kb BW hb; replace XG := Skb XG hb; replace BG := blk_kb BG hb; replace HB := below_kb HB hb; obtain ⟨AX3, cX3, rfl⟩ := Kd.R_slice X3.out; (try clear hb); (try clear ho); (try clear hd))
    | ((with_reducible refine gate_dst (N := 53) rfl ?_); refine goe_ (some 53) Try.func74 #[.slice AX3 l0.length cX3] ?_; (with_reducible refine (impl_ReadEntries.calls k _ _ l0 e1 e2 r3 _ ?side1 ?side2 HIM.out).mono ?_); (case side1 => exact (Kd.R_reads' X3.out).2.2); (case side2 => exact (Kd.R_reads' X3.out).2.1); rintro e wq17 ⟨v, rfl, ho, hb⟩; refine ⟨_, rfl, ?_⟩; have XH := Siv ho HB.out.size; have HS17 := Aside0.mk (Below.size hb); replace XW := Skb XW hb; replace BW := blk_kb BW hb; replace XG := Skb XG hb; replace BG := blk_kb BG hb; replace X3 := Rkb X3 hb; replace HB := below_kb HB hb; obtain ⟨AXH, cXH, rfl⟩ := Kd.S_slice XH.out; (try clear hb); (try clear ho); (try clear hd); clear X3)
    | ((with_reducible refine gate_dst (N := 9) rfl ?_); refine box_e_ 9 #[.int .i64 0, .int .i64 0, .slice none 0 0] 122 ?_; intro gBH hg wq18 hbox hb; have HGBH := Aside0.mk hg; have HLBH := Aside0.mk (blk_lt hbox); have HEBH : Aside0 (w.heap.size ≤ gBH) := ⟨by rw [hg]; exact HB.out.size⟩; have HS18 := Aside0.mk (Below.size hb); replace XW := Skb XW hb; replace BW := blk_kb BW hb; replace XG := Skb XG hb; replace BG := blk_kb BG hb; replace XH := Skb XH hb; replace HB := below_kb HB hb; have BH := Aside0.mk hbox; clear hbox hg hb; obtain ⟨hczBH_0, hczBH_1, hczBH_2, hfzBH_0, hfzBH_1, hfzBH_2⟩ := cf3_ BH)
    | ((with_reducible refine gate_store (t := 122) (p := 9) rfl ?_); refine store_event (t := 122) (p := 9) (v := ?vo19) (w1 := wq18.setCells gBH 0 [.int .i64 e1, .int .i64 e2, .slice AXH r3.length cXH]) ?hg ?ho ?hn ?hr ?_; (case ho => rfl); (case hg => rfl); (case hn => rfl); (case hr => first | (go_simp; done) | (go_simp; rfl)); intro wq19 hw; have hk : Kept wq18 wq19 (fun k => k = gBH) := (by rw [hw]; exact puts_kept [.int .i64 e1, .int .i64 e2, .slice AXH r3.length cXH] 0 _ _ (Kept.refl _ _)); have hp_ := (show Aside0 (wq19.heap[gBH]? = some (.cells #[.int .i64 e1, .int .i64 e2, .slice AXH r3.length cXH] 122 (0, 0))) from by rw [hw]; exact puts_blk BH [.int .i64 e1, .int .i64 e2, .slice AXH r3.length cXH] rfl); replace HB : Aside0 (Below w.heap.size w wq19) := ⟨by rw [hw]; exact puts_below HEBH.out [.int .i64 e1, .int .i64 e2, .slice AXH r3.length cXH] 0 _ HB.out⟩; have HS19 := Aside0.mk hk.1; replace XW := Skk XW hk (fun k h1 h2 h3 => by have o0_ := HS1.out; have o1_ := HS2.out; have o2_ := HS3.out; have o3_ := HGBW.out; have o4_ := HLBW.out; have o5_ := HS4.out; have o6_ := HS5.out; have o7_ := HS6.out; have o8_ := HS7.out; have o9_ := HGBG.out; have o10_ := HLBG.out; have o11_ := HS8.out; have o12_ := HS9.out; have o13_ := HS10.out; have o14_ := HS11.out; have o15_ := HS12.out; have o16_ := HS13.out; have o17_ := HS14.out; have o18_ := HS15.out; have o19_ := HS16.out; have o20_ := HS17.out; have o21_ := HS18.out; have o22_ := HGBH.out; have o23_ := HLBH.out; have h3_ := h3; omega); replace BW := blk_kk BW hk (fun h3 => by have o0_ := HS1.out; have o1_ := HS2.out; have o2_ := HS3.out; have o3_ := HGBW.out; have o4_ := HLBW.out; have o5_ := HS4.out; have o6_ := HS5.out; have o7_ := HS6.out; have o8_ := HS7.out; have o9_ := HGBG.out; have o10_ := HLBG.out; have o11_ := HS8.out; have o12_ := HS9.out; have o13_ := HS10.out; have o14_ := HS11.out; have o15_ := HS12.out; have o16_ := HS13.out; have o17_ := HS14.out; have o18_ := HS15.out; have o19_ := HS16.out; have o20_ := HS17.out; have o21_ := HS18.out; have o22_ := HGBH.out; have o23_ := HLBH.out; have h3_ := h3; omega); replace XG := Skk XG hk (fun k h1 h2 h3 => by have o0_ := HS1.out; have o1_ := HS2.out; have o2_ := HS3.out; have o3_ := HGBW.out; have o4_ := HLBW.out; have o5_ := HS4.out; have o6_ := HS5.out; have o7_ := HS6.out; have o8_ := HS7.out; have o9_ := HGBG.out; have o10_ := HLBG.out; have o11_ := HS8.out; have o12_ := HS9.out; have o13_ := HS10.out; have o14_ := HS11.out; have o15_ := HS12.out; have o16_ := HS13.out; have o17_ := HS14.out; have o18_ := HS15.out; have o19_ := HS16.out; have o20_ := HS17.out; have o21_ := HS18.out; have o22_ := HGBH.out; have o23_ := HLBH.out; have h3_ := h3; omega); replace BG := blk_kk BG hk (fun h3 => by have o0_ := HS1.out; have o1_ := HS2.out; have o2_ := HS3.out; have o3_ := HGBW.out; have o4_ := HLBW.out; have o5_ := HS4.out; have o6_ := HS5.out; have o7_ := HS6.out; have o8_ := HS7.out; have o9_ := HGBG.out; have o10_ := HLBG.out; have o11_ := HS8.out; have o12_ := HS9.out; have o13_ := HS10.out; have o14_ := HS11.out; have o15_ := HS12.out; have o16_ := HS13.out; have o17_ := HS14.out; have o18_ := HS15.out; have o19_ := HS16.out; have o20_ := HS17.out; have o21_ := HS18.out; have o22_ := HGBH.out; have o23_ := HLBH.out; have h3_ := h3; omega); replace XH := Skk XH hk (fun k h1 h2 h3 => by have o0_ := HS1.out; have o1_ := HS2.out; have o2_ := HS3.out; have o3_ := HGBW.out; have o4_ := HLBW.out; have o5_ := HS4.out; have o6_ := HS5.out; have o7_ := HS6.out; have o8_ := HS7.out; have o9_ := HGBG.out; have o10_ := HLBG.out; have o11_ := HS8.out; have o12_ := HS9.out; have o13_ := HS10.out; have o14_ := HS11.out; have o15_ := HS12.out; have o16_ := HS13.out; have o17_ := HS14.out; have o18_ := HS15.out; have o19_ := HS16.out; have o20_ := HS17.out; have o21_ := HS18.out; have o22_ := HGBH.out; have o23_ := HLBH.out; have h3_ := h3; omega); replace BH := hp_; clear hw hk; obtain ⟨hczBH_0, hczBH_1, hczBH_2, hfzBH_0, hfzBH_1, hfzBH_2⟩ := cf3_ BH; obtain ⟨hczBW_0, hczBW_1, hczBW_2, hfzBW_0, hfzBW_1, hfzBW_2⟩ := cf3_ BW)
    | ((with_reducible refine gate_dst (N := 56) rfl ?_); refine goe_ (some 56) Try.func75 #[.agg #[.int .i64 e1, .int .i64 e2, .slice AXH r3.length cXH], .agg #[.int .i64 e1, .int .i64 e2, .slice AXW r3.length cXW]] ?_; (with_reducible refine (laws_eqEntriesResult.calls k e1 e2 _ _ r3 e1 e2 _ _ r3 true _ ?side1 ?side2 ?side3 ?side4 HEQ.out).mono ?_); (case side1 => exact (Kd.S_reads' XH.out).2.2); (case side2 => exact (Kd.S_reads' XH.out).2.1); (case side3 => exact (Kd.S_reads' XW.out).2.2); (case side4 => exact (Kd.S_reads' XW.out).2.1); rintro e wq20 ⟨rfl, hb⟩; refine ⟨_, rfl, ?_⟩; have HS20 := Aside0.mk (Below.size hb); replace XW := Skb XW hb; replace BW := blk_kb BW hb; replace XG := Skb XG hb; replace BG := blk_kb BG hb; replace XH := Skb XH hb; replace BH := blk_kb BH hb; replace HB := below_kb HB hb; obtain ⟨hczBG_0, hczBG_1, hczBG_2, hfzBG_0, hfzBG_1, hfzBG_2⟩ := cf3_ BG; (try clear hb); (try clear ho); (try clear hd))
    | ((with_reducible refine gate_dst (N := 60) rfl ?_); refine goe_ (some 60) Try.func77 #[.agg #[.int .i64 e1, .int .i64 e2, .slice AXG r3.length cXG], .int .i64 1] ?_; (with_reducible refine (laws_heldEntriesResult.callsn k e1 e2 _ _ r3.length r4 1 m1 _ HLN.out ?side1 ?side2 HHE.out).mono ?_); (case side1 => exact (by have h_ := (Kd.S_reads' XG.out).2.2; rw [HLN.out] at h_; exact h_)); (case side2 => exact (by have h_ := Kd.S_reads' XG.out; exact h_.2.1)); rintro e wq21 ⟨rfl, hb⟩; refine ⟨_, rfl, ?_⟩; have HS21 := Aside0.mk (Below.size hb); replace XW := Skb XW hb; replace BW := blk_kb BW hb; replace XG := Skb XG hb; replace BG := blk_kb BG hb; replace XH := Skb XH hb; replace BH := blk_kb BH hb; replace HB := below_kb HB hb; (try clear hb); (try clear ho); (try clear hd))
    | (go_at_call 75; (with_reducible refine (laws_eqEntriesResult.calls k e1 e2 _ _ r3 e1 e2 _ _ r3 true _ ?side1 ?side2 ?side3 ?side4 HEQ.out).mono ?_); (case side1 => exact (Kd.S_reads' XG.out).2.2); (case side2 => exact (Kd.S_reads' XG.out).2.1); (case side3 => exact (Kd.S_reads' XW.out).2.2); (case side4 => exact (Kd.S_reads' XW.out).2.1); rintro e wq13 ⟨rfl, hb⟩; have HS13 := Aside0.mk (Below.size hb); replace XW := Skb XW hb; replace BW := blk_kb BW hb; replace XG := Skb XG hb; replace BG := blk_kb BG hb; replace HB := below_kb HB hb; obtain ⟨hczBG_0, hczBG_1, hczBG_2, hfzBG_0, hfzBG_1, hfzBG_2⟩ := cf3_ BG; (try clear hb); (try clear ho); (try clear hd)))
  go_ret
  exact ⟨er_, HB.out⟩
theorem laws_markEntryS_from : ∀ (rest d : List S82) (m : Int) (k : Nat), 0 ≤ m → m + cntEs rest ≤ 1000000000 → d.length + cntEs rest ≤ 1000000000 → cntEs rest < k → laws_markEntryS.l0 k (d ++ rest) m (d.length : Int) = some (m + cntEs rest, d ++ markEs rest m)
  | [], d, m, k, h0, h1, hd, hk => by
    obtain ⟨k, rfl⟩ : ∃ m, k = m + 1 := ⟨k - 1, by omega⟩
    simp only [laws_markEntryS.l0, markEs, List.append_nil, cntEs]
    rw [if_neg (by omega)]; simp
  | f :: fs, d, m, k, h0, h1, hd, hk => by
    obtain ⟨k, rfl⟩ : ∃ m, k = m + 1 := ⟨k - 1, by omega⟩
    simp only [cntEs] at h1 hk hd
    simp only [laws_markEntryS.l0]
    have e : rd_T82 (d ++ f :: fs) (d.length : Int) = f := rd_at _ _ _
    rw [if_pos (by simp; omega), if_pos (by omega), e, wrap_id (x := m + 1) (by omega) (by omega), wrap_id (x := m + 1 + 1) (by omega) (by omega), wrap_id (x := m + 1 + 1 + 1) (by omega) (by omega), laws_markByteS_eq (by omega) (by omega) (by omega)]
    simp only [Option.bind_some]
    rw [wrap_succ (by omega)]
    have ih := laws_markEntryS_from fs (d ++ [mkEs m f.f1.f2.length]) (m + 1 + 1 + 1 + f.f1.f2.length) k (by omega) (by omega) (by simp; omega) (by omega)
    rw [List.append_assoc] at ih
    simp only [List.length_append, List.length_singleton, List.singleton_append] at ih
    have es : (d ++ f :: fs).set ((d.length : Int)).toNat (mkEs m f.f1.f2.length) = d ++ mkEs m f.f1.f2.length :: fs := by
      rw [Int.toNat_natCast, List.set_append_right _ _ (Nat.le_refl _), Nat.sub_self]; rfl
    show laws_markEntryS.l0 k ((d ++ f :: fs).set ((d.length : Int)).toNat (mkEs m f.f1.f2.length)) _ _ = _
    rw [es, ih]
    simp only [cntEs, markEs, List.append_assoc, List.singleton_append]
    congr 2
    omega
theorem laws_markEntryS_eq {k : Nat} {l : List S82} {m : Int} (h0 : 0 ≤ m) (h1 : m + cntEs l ≤ 1000000000) (hk : cntEs l < k) : laws_markEntryS.f k l m = some (m + cntEs l, markEs l m) :=
  laws_markEntryS_from l [] m k h0 h1 (by simp; omega) hk
theorem cntEs_bound : ∀ (l : List S82), (∀ f ∈ l, f.f1.f2.length ≤ 60) → cntEs l ≤ 63 * l.length
  | [], _ => by simp [cntEs]
  | f :: fs, h => by
    have h1 := h f (by simp)
    have h2 := cntEs_bound fs (fun g hg => h g (by simp [hg]))
    simp only [cntEs, List.length_cons]
    omega
theorem readE_small : ∀ (n : Nat) (l : List Int), l.length = n → (∀ x ∈ l, (Lit.int .u8 x).wf = true) → ∀ f ∈ (readE l).1, f.f1.f2.length ≤ 60 := by
  intro n
  induction n using Nat.strongRecOn with
  | _ n ih =>
    intro l hn hb
    by_cases h : (oneE l).2.2.2.2 = 0
    · rw [readE_stop h]; simp
    · rw [readE_step hb h]
      have hz : 8 ≤ (oneE l).2.2.2.2 ∧ (oneE l).2.2.2.2 ≤ l.length ∧ (oneE l).2.2.2.2 ≤ 300 := by
        rcases oneE_cases l hb with hz | hz
        · rw [hz] at h; exact absurd rfl h
        · exact hz
      intro f hf
      rcases List.mem_cons.1 hf with rfl | hf
      · have hg : goodE l := by
          apply Decidable.byContradiction
          intro hg
          apply h
          unfold oneE
          split
          · rfl
          · rfl
        have e : oneE l = (numOf ((bodyOf l).take 2), rd (bodyOf l) 2, rd (bodyOf l) 3, (bodyOf l).drop 5, 3 + rd l 0) := by
          unfold oneE at h ⊢
          split
          · rename_i hq; rw [if_pos hq] at h; exact absurd rfl h
          · rfl
        rw [e]
        exact entryFault_len hg.2.2
      · exact ih (l.drop ((oneE l).2.2.2.2).toNat).length (by rw [List.length_drop]; omega) _ rfl (fun x hx => hb x (List.mem_of_mem_drop hx)) f hf
def laws_FnExactReadEntries.f (k : Nat) (l0 : List Int) : Option Bool := if (l0.all (fun x => (Lit.int .u8 x).wf)) = true then some true else none
set_option maxHeartbeats 8000000 in
set_option maxRecDepth 100000 in
theorem laws_FnExactReadEntries.calls (k : Nat) (A0 : Option Addr) (c0 : Nat) (l0 : List Int) (w : World) (hr0 : Kd.C (Kd.int .u8) w A0 l0.length l0) (hc0 : l0.length ≤ c0) (h : laws_FnExactReadEntries.f k l0 = some true) :
    Calls Try.prog 13 #[.slice A0 l0.length c0] w fun e w' => e = .returned (.bool true) ∧ Below w.heap.size w w' := by
  have hb : ∀ x ∈ l0, (Lit.int .u8 x).wf = true := by
    unfold laws_FnExactReadEntries.f at h
    by_cases hq : (l0.all (fun x => (Lit.int .u8 x).wf)) = true
    · exact fun x hx => List.all_eq_true.1 hq x hx
    · rw [if_neg hq] at h; cases h
  clear h
  by_cases hl : l0.length ≤ 1048576
  · obtain ⟨K, hK⟩ : ∃ K : Nat, 30000000 ≤ K := ⟨_, Nat.le_refl _⟩
    have fin : ∀ (q : Int × Int × List S82), readEnt l0 = q → q.2.2.length ≤ 6000 → (∀ g ∈ q.2.2, g.f1.f2.length ≤ 60) →
        Calls Try.prog 13 #[.slice A0 l0.length c0] w fun e w' => e = .returned (.bool true) ∧ Below w.heap.size w w' := by
      rintro ⟨e1, e2, gs⟩ hq hg hf
      have hcn := cntEs_bound gs hf
      simp only at hg
      have hs := spec_ReadEntries_eq (k := K) hl hb (by omega)
      have hi := impl_ReadEntries_eq (k := K) hl hb (by omega)
      rw [hq] at hs hi
      exact laws_FnExactReadEntries.walk K A0 c0 l0 w e1 e2 gs (markEs gs 1) _ (1 + cntEs gs) _ hr0 hc0 hl (laws_toByteS_eq hl (by omega)) hs hi (laws_eqEntriesResult_refl (by omega) (fun f hff => by have := hf f hff; omega) (by omega)) (laws_eqByteS_refl hl (by omega))
        (laws_markByteS_eq (by decide) (by omega) (by omega)) (by omega) (laws_markEntryS_eq (by decide) (by omega) (by omega)) (markEs_length _ _) (laws_heldEntriesResult_eq (by decide) (by omega) (by omega)) (by omega)
    by_cases hs : (l0.length : Int) > 6000
    · exact fin (2, 0, []) (by unfold readEnt; rw [if_pos hs]) (by simp) (by simp)
    · have hbd := readE_bound l0.length l0 rfl hb
      exact fin (0, (readE l0).2, (readE l0).1) (by unfold readEnt; rw [if_neg hs]) (by simp only; omega) (readE_small _ _ rfl hb)
  · have t0 : decide (1048576 < (l0.length : Int)) = true := decide_eq_true (by omega)
    have t1 : decide (1048576 < l0.length) = true := decide_eq_true (by omega)
    have HB := Aside0.mk (Below.refl w.heap.size w)
    clear hl hb hr0 hc0
    go_enter Try.func13, Try.ntmps13
    go_wp2
    go_ret
    exact ⟨er_, HB.out⟩
end Go.Proofs.Ytfbojdagjecjcaa.PFnExactReadEntries
