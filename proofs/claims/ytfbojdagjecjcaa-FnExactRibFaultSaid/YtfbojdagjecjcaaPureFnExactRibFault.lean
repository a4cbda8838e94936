/- The pure part of the law FnExactRibFault: what the printed functions compute, in closed form, and that the law's answer is true. -/
import Derived.Test.YtfbojdagjecjcaaXFnExactRibFaultx2
import Derived.Test.YtfbojdagjecjcaaXFnExactRibFaultx3
import Derived.Test.YtfbojdagjecjcaaXFnExactRibFaultx4
import Derived.Test.YtfbojdagjecjcaaXFnExactRibFaultx5
import Derived.Test.YtfbojdagjecjcaaXFnExactRibFaultx6
import Derived.Test.YtfbojdagjecjcaaXFnExactRibFaultx7
import Derived.Test.YtfbojdagjecjcaaXFnExactRibFaultx8
import Derived.Test.YtfbojdagjecjcaaXFnExactRibFaultx9
import Derived.Test.YtfbojdagjecjcaaXFnExactRibFaultx10
import Derived.Test.YtfbojdagjecjcaaXFnExactRibFaultx11
import Derived.Test.YtfbojdagjecjcaaXFnExactRibFaultx12
import Derived.Test.YtfbojdagjecjcaaBase
namespace Go.Proofs.Ytfbojdagjecjcaa.Pure
open Go.RowKit Go.Proofs.Ytfbojdagjecjcaa.PFnExactRibFault Go.Proofs.YtfbojdagjecjcaaW.PrintWords Go.Proofs.YtfbojdagjecjcaaW.PrintLast Go.Proofs.YtfbojdagjecjcaaW.PrintMore Go.Proofs.Ytfbojdagjecjcaa.B
set_option linter.unusedVariables false
set_option linter.unusedSimpArgs false

theorem laws_szInt64S_eq {l : List Int} {a : Int} (hl : l.length ≤ maxLen) (h0 : -1 ≤ a) (h1 : a ≤ 1048576) : laws_szInt64S.f l a = some (szB a l.length) := szB_eq h0 h1 hl

theorem laws_szAttrs_eq {a c d e : Int} {l : List Int} {b : Int} (hl : l.length ≤ maxLen) (h0 : -1 ≤ b) (h1 : b ≤ 1048576) : laws_szAttrs.f a l c d e b = some (szB b l.length) := by
  simp only [laws_szAttrs.f, laws_szInt64S_eq hl h0 h1, Option.bind_some, szB_again]

theorem laws_szRoute_eq {q a b o n m l : Int} {p : List Int} {c : Int} (hl : p.length ≤ maxLen) (h0 : -1 ≤ c) (h1 : c ≤ 1048576) : laws_szRoute.f q a b o p n m l c = some (szB c p.length) := by
  simp only [laws_szRoute.f, laws_szAttrs_eq hl h0 h1, Option.bind_some, szB_again]

theorem laws_szRouteS_eq {k : Nat} {l : List S28} {a : Int} (hl : l.length ≤ maxLen) (hp : ∀ x ∈ l, x.f2.f1.length ≤ maxLen) (h0 : -1 ≤ a) (h1 : a ≤ 1048576) (hk : 1048578 < k) : laws_szRouteS.f k l a = some (szS (fun x => x.f2.f1.length) a l) := by
  unfold laws_szRouteS.f szS
  have e := szB_eq h0 h1 hl
  have hb := szB_bound (left := a) (n := l.length) h1
  have hw : wrap64 (a - (l.length : Int)) = a - (l.length : Int) := by
    unfold maxLen at hl
    exact wrap_id (by omega) (by omega)
  rw [hw]
  clear e hw
  by_cases h : a - (l.length : Int) < 0
  · rw [if_pos h, if_pos (by unfold szB; rw [if_pos h]; decide)]
  · have hs : szB a l.length = a - (l.length : Int) := by unfold szB; rw [if_neg h]
    rw [if_neg h, hs, if_neg h]
    refine Eq.trans ?_ (congrArg some (run_szL (fun x : S28 => x.f2.f1.length) l 0 (a - (l.length : Int))))
    exact run_loop (L := fun k s i => laws_szRouteS.l0 k l s i) (fun _ s => -1 ≤ s ∧ s ≤ 1048576) (B := 0)
      (fun k i s h _ hi => by
        have hr : rd_T28 l (i : Int) = l[i] := getD_nat h
        simp only [laws_szRouteS.l0, hr, laws_szRoute_eq (hp _ (List.getElem_mem h)) hi.1 hi.2, Option.bind_some]
        rw [if_pos (by omega), if_pos (by omega), wrap_succ (by omega)]
        by_cases hn : szB s l[i].f2.f1.length < 0
        · rw [if_pos hn, if_pos hn]
        · rw [if_neg hn, if_neg hn])
      (fun i s s' h hi e => by
        by_cases hn : szB s l[i].f2.f1.length < 0
        · rw [if_pos hn] at e; cases e
        · rw [if_neg hn] at e
          injection e with e
          exact e ▸ szB_bound hi.2)
      (fun k s _ => by simp only [laws_szRouteS.l0]; rw [if_neg (by omega)]; rfl) ⟨by omega, by omega⟩ (by omega)

theorem spec_l1In_eq (n lo hi : Int) : spec_l1In.f n lo hi = some (inB n lo hi) := inB_eq n lo hi

theorem spec_l3Word_eq (n : Int) : spec_l3Word.f n = some (inB n 0 65535) := by
  simp only [spec_l3Word.f, spec_l1In_eq, Option.bind_some]

theorem spec_AttrsFault_eq {k : Nat} (hk : 10 ≤ k) (a : Int) (l : List Int) (b c d : Int) : spec_AttrsFault.f k a l b c d = some (attrsFault a l b c d) := by
  obtain ⟨k, rfl⟩ : ∃ m, k = m + 1 := ⟨k - 1, by omega⟩
  simp only [spec_AttrsFault.f, spec_l1In_eq, spec_l3Word_eq, Option.bind_some, spec_AttrsFault.j0]
  unfold attrsFault
  cases h1 : inB a 0 2 <;> cases h2 : inB b 0 65535 <;> cases h3 : inB c 0 65535 <;> cases h4 : inB d 0 65535 <;> simp only [Bool.not_true, Bool.not_false, Bool.and_true, Bool.and_false, Bool.false_eq_true, if_true, if_false, Bool.true_and, Bool.false_and]
  by_cases h6 : (6 : Int) < l.length
  · rw [if_pos h6, if_pos h6]
  · rw [if_neg h6, if_neg h6]
    refine Eq.trans ?_ (congrArg some (scan_anyNot l 3 0))
    exact scan_loop (L := fun k i => spec_AttrsFault.l0 k i a l b c d) (B := 0)
      (fun k i h _ => by
        simp only [spec_AttrsFault.l0]
        rw [if_pos (by omega), if_pos (by omega), rd_nat h, wrap_succ (by omega)]
        simp only [spec_l1In_eq, Option.bind_some]
        by_cases hx : inB l[i] 1 65535 = true <;> simp [hx])
      (fun k => by simp only [spec_AttrsFault.l0]; rw [if_neg (by omega)]) (by omega)

theorem spec_l2Addr_eq (n : Int) : spec_l2Addr.f n = some (inB n 0 65535) := by
  simp only [spec_l2Addr.f, spec_l1In_eq, Option.bind_some]

theorem spec_l2Rest_eq {l : Int} (h0 : 0 ≤ l) (h1 : l ≤ 16) : spec_l2Rest.f l = some (span l - 1) := by
  unfold spec_l2Rest.f
  rw [if_pos (cnt_ok2 h0 h1), shl_span2 h0 h1]

theorem spec_PrefixFault_eq {k : Nat} (hk : 1 ≤ k) (a l : Int) : spec_PrefixFault.f k a l = some (prefixFault a l) := by
  obtain ⟨k, rfl⟩ : ∃ m, k = m + 1 := ⟨k - 1, by omega⟩
  simp only [spec_PrefixFault.f, spec_l2Addr_eq, spec_l1In_eq, Option.bind_some, spec_PrefixFault.j0]
  unfold prefixFault
  by_cases h1 : inB a 0 65535 = true
  · by_cases h2 : inB l 0 16 = true
    · have h3 := inB_iff.1 h1
      have h4 := inB_iff.1 h2
      rw [if_pos h1, if_pos h1, if_pos h2, h2]
      simp only [Bool.not_true, Bool.false_eq_true, if_false, spec_l2Rest_eq h4.1 h4.2, Option.bind_some, and_span h4.1 h4.2 h3.1 h3.2, ite_some]
    · simp [h1, h2]
  · simp [h1]

theorem spec_l7Peer_eq (n : Int) : spec_l7Peer.f n = some (inB n 0 2) := by simp only [spec_l7Peer.f, spec_l1In_eq, Option.bind_some]

def routeFault (q a l o : Int) (p : List Int) (n m lo : Int) : Int := if inB q 0 2 = true then (if prefixFault a l = 0 then attrsFault o p n m lo else prefixFault a l) else 3
theorem spec_l7Route_eq {k : Nat} (hk : 10 ≤ k) (q a l o : Int) (p : List Int) (n m lo : Int) : spec_l7Route.f k q a l o p n m lo = some (routeFault q a l o p n m lo) := by
  simp only [spec_l7Route.f, spec_l7Peer_eq, spec_PrefixFault_eq (show 1 ≤ k by omega), spec_AttrsFault_eq hk, Option.bind_some, ite_some]; rfl

theorem spec_l2Ahead_eq (a l b m : Int) : spec_l2Ahead.f a l b m = some (aheadB a l b m) := by
  simp only [spec_l2Ahead.f, ite_some]; rfl

theorem spec_l7Behind_eq (p a l o : Int) (pa : List Int) (n m lo q b c o2 : Int) (pb : List Int) (n2 m2 lo2 : Int) : spec_l7Behind.f p a l o pa n m lo q b c o2 pb n2 m2 lo2 = some (behindB p a l q b c) := by
  simp only [spec_l7Behind.f, spec_l2Ahead_eq, Option.bind_some, ite_some]; rfl

def stepR (l : List S34) (i : Nat) (_ : Unit) (x : S34) : Unit ⊕ Int :=
  if routeFault x.f0 x.f1.f0 x.f1.f1 x.f2.f0 x.f2.f1 x.f2.f2 x.f2.f3 x.f2.f4 = 0 then (if 0 < i then (if behindB (l.getD (i - 1) z34).f0 (l.getD (i - 1) z34).f1.f0 (l.getD (i - 1) z34).f1.f1 x.f0 x.f1.f0 x.f1.f1 = true then .inl () else .inr 1) else .inl ()) else .inr (routeFault x.f0 x.f1.f0 x.f1.f1 x.f2.f0 x.f2.f1 x.f2.f2 x.f2.f3 x.f2.f4)
def ribFault (l : List S34) : Int := if (l.length : Int) > 60 then 2 else run (stepR l) (fun _ => 0) 0 () l
theorem spec_RibFault_eq {k : Nat} (hk : 80 ≤ k) (l : List S34) : spec_RibFault.f k l = some (ribFault l) := by
  unfold spec_RibFault.f ribFault
  by_cases h6 : (l.length : Int) > 60
  · rw [if_pos h6, if_pos h6]
  · rw [if_neg h6, if_neg h6]
    exact run_loop (L := fun k (_ : Unit) i => spec_RibFault.l0 k l i) (step := stepR l) (fin := fun _ => 0) (B := 10) (s := ()) (fun _ _ => True)
      (fun k i _ h hB _ => by
        have hr : rd_T34 l (i : Int) = l[i] := getD_nat h
        simp only [spec_RibFault.l0, hr, spec_l7Route_eq hB, spec_l7Behind_eq, Option.bind_some]
        rw [if_pos (by omega), if_pos (by omega), wrap_succ (by omega)]
        unfold stepR
        by_cases h1 : routeFault l[i].f0 l[i].f1.f0 l[i].f1.f1 l[i].f2.f0 l[i].f2.f1 l[i].f2.f2 l[i].f2.f3 l[i].f2.f4 = 0
        · rw [if_pos h1, if_pos h1]
          by_cases hi : 0 < i
          · have hw : wrap64 ((i : Int) - 1) = ((i - 1 : Nat) : Int) := by rw [wrap_id (by omega) (by omega)]; omega
            have hr2 : rd_T34 l ((i - 1 : Nat) : Int) = l.getD (i - 1) z34 := by unfold rd_T34; simp
            rw [hw, hr2]
            clear hw
            rw [if_pos (show (i : Int) > 0 by omega), if_pos (by omega), if_pos (by omega), if_pos hi]
            by_cases h5 : behindB (l.getD (i - 1) z34).f0 (l.getD (i - 1) z34).f1.f0 (l.getD (i - 1) z34).f1.f1 l[i].f0 l[i].f1.f0 l[i].f1.f1 = true
            · rw [if_pos h5, if_pos h5]
            · rw [if_neg h5, if_neg h5]
          · rw [if_neg (by omega), if_neg hi]
        · rw [if_neg h1, if_neg h1])
      (fun _ _ _ _ _ _ => trivial)
      (fun k _ _ => by simp only [spec_RibFault.l0]; rw [if_neg (by omega)]) trivial (by omega)

theorem laws_toInt64S_eq {k : Nat} {l : List Int} (hl : l.length ≤ 1048576) (hk : l.length < k) : laws_toInt64S.f k l = some l := by
  unfold laws_toInt64S.f
  rw [if_pos (by omega), if_pos (by omega)]
  have h := set_loop (L := fun k acc i => laws_toInt64S.l0 k l acc i) (xs := l) (f := fun x => x) (B := 0) (k := k) (acc := List.replicate ((l.length : Int)).toNat 0)
    (fun k i acc h _ ha => by
      simp only [laws_toInt64S.l0]
      rw [if_pos (by omega), if_pos (by omega), if_pos (by omega), rd_nat h, wrap_succ (by omega)]
      simp)
    (fun k acc _ => by simp only [laws_toInt64S.l0]; rw [if_neg (by omega)]) (by simp) (by omega)
  simpa using h

theorem laws_toAttrs_eq {k : Nat} {a c d e : Int} {l : List Int} (hl : l.length ≤ 1048576) (hk : l.length < k) : laws_toAttrs.f k a l c d e = some (a, l, c, d, e) := by
  simp only [laws_toAttrs.f, laws_toInt64S_eq hl hk, Option.bind_some]

theorem laws_toPrefix_eq (a b : Int) : laws_toPrefix.f a b = some (a, b) := rfl

theorem laws_toRoute_eq {k : Nat} {q a b o n m l : Int} {p : List Int} (hl : p.length ≤ 1048576) (hk : p.length < k) : laws_toRoute.f k q a b o p n m l = some (q, a, b, o, p, n, m, l) := by
  simp only [laws_toRoute.f, laws_toPrefix_eq, laws_toAttrs_eq hl hk, Option.bind_some]

def cvtRoute (x : S28) : S34 := ⟨x.f0, ⟨x.f1.f0, x.f1.f1⟩, ⟨x.f2.f0, x.f2.f1, x.f2.f2, x.f2.f3, x.f2.f4⟩⟩
theorem laws_toRouteS_eq {k : Nat} {l : List S28} (hl : l.length ≤ 1048576) (hp : ∀ x ∈ l, x.f2.f1.length ≤ 1048576) (hk : l.length + 1048577 < k) : laws_toRouteS.f k l = some (l.map cvtRoute) := by
  unfold laws_toRouteS.f
  rw [if_pos (by omega), if_pos (by omega)]
  exact set_loop (L := fun k acc i => laws_toRouteS.l0 k l acc i) (B := 1048577)
    (fun k i acc h hB ha => by
      have hr : rd_T28 l (i : Int) = l[i] := getD_nat h
      have hpi := hp _ (List.getElem_mem h)
      simp only [laws_toRouteS.l0, hr, laws_toRoute_eq hpi (show l[i].f2.f1.length < k by omega), Option.bind_some]
      rw [if_pos (by omega), if_pos (by omega), if_pos (by omega), wrap_succ (by omega)]
      rfl)
    (fun k acc _ => by simp only [laws_toRouteS.l0]; rw [if_neg (by omega)]) (by simp) (by omega)

theorem impl_in_eq (n lo hi : Int) : impl_in.f n lo hi = some (inB n lo hi) := inB_eq n lo hi

theorem impl_isAddr_eq (n : Int) : impl_isAddr.f n = some (inB n 0 65535) := by
  simp only [impl_isAddr.f, impl_in_eq, Option.bind_some]

theorem impl_isTwo_eq (n : Int) : impl_isTwo.f n = some (inB n 0 65535) := by
  simp only [impl_isTwo.f, impl_in_eq, Option.bind_some]

theorem impl_isSystem_eq (n : Int) : impl_isSystem.f n = some (inB n 1 65535) := by
  simp only [impl_isSystem.f, impl_in_eq, Option.bind_some]

theorem impl_AttrsFault_1_eq (n : Int) : impl_AttrsFault_1.f n = some (!inB n 1 65535) := by simp only [impl_AttrsFault_1.f, impl_isSystem_eq, Option.bind_some]

theorem slices_IndexFunc_int64_int64_eq {k : Nat} {l : List Int} (hl : l.length ≤ 1048576) (hk : l.length < k) : ∃ r, slices_IndexFunc_int64_int64.f k l = some r ∧ (decide (r ≥ 0) = l.any (fun x => !inB x 1 65535)) := by
  refine ⟨_, run_loop (L := fun k (_ : Unit) i => slices_IndexFunc_int64_int64.l0 k l (l.length : Int) i) (xs := l) (step := fun i _ y => if (!inB y 1 65535) = true then .inr (i : Int) else .inl ()) (fin := fun _ => -1) (B := 0) (s := ()) (fun _ _ => True)
    (fun k i _ h _ _ => by
      simp only [slices_IndexFunc_int64_int64.l0]
      rw [if_pos (by omega), if_pos (by omega), if_pos (by omega), rd_nat h, wrap_succ (by omega), impl_AttrsFault_1_eq]
      by_cases hx : (!inB l[i] 1 65535) = true <;> simp [hx])
    (fun _ _ _ _ _ _ => trivial)
    (fun k _ _ => by simp only [slices_IndexFunc_int64_int64.l0]; rw [if_neg (by omega)]) trivial (by omega), run_indexP _ l 0⟩

theorem slices_ContainsFunc_int64_int64_eq {k : Nat} {l : List Int} (hl : l.length ≤ 1048576) (hk : l.length < k) : slices_ContainsFunc_int64_int64.f k l = some (l.any (fun x => !inB x 1 65535)) := by
  obtain ⟨r, hr, hm⟩ := slices_IndexFunc_int64_int64_eq hl hk
  simp only [slices_ContainsFunc_int64_int64.f, hr, Option.bind_some, hm]

theorem impl_AttrsFault_eq {k : Nat} (hk : 10 ≤ k) (a : Int) (l : List Int) (b c d : Int) : impl_AttrsFault.f k a l b c d = some (attrsFault a l b c d) := by
  obtain ⟨k, rfl⟩ : ∃ m, k = m + 1 := ⟨k - 1, by omega⟩
  simp only [impl_AttrsFault.f, impl_in_eq, impl_isAddr_eq, impl_isTwo_eq, Option.bind_some, impl_AttrsFault.j0]
  unfold attrsFault
  cases h1 : inB a 0 2 <;> cases h2 : inB b 0 65535 <;> cases h3 : inB c 0 65535 <;> cases h4 : inB d 0 65535 <;> simp only [Bool.not_true, Bool.not_false, Bool.and_true, Bool.and_false, Bool.false_eq_true, if_true, if_false, Bool.true_and, Bool.false_and]
  by_cases h6 : (6 : Int) < l.length
  · rw [if_pos h6, if_pos h6]
  · rw [if_neg h6, if_neg h6]
    rw [slices_ContainsFunc_int64_int64_eq (by omega) (by omega)]
    simp only [Option.bind_some, ite_some]

theorem impl_PrefixFault_eq {k : Nat} (hk : 1 ≤ k) (a l : Int) : impl_PrefixFault.f k a l = some (prefixFault a l) := by
  obtain ⟨k, rfl⟩ : ∃ m, k = m + 1 := ⟨k - 1, by omega⟩
  simp only [impl_PrefixFault.f, impl_isAddr_eq, impl_in_eq, Option.bind_some, impl_PrefixFault.j0]
  unfold prefixFault
  by_cases h1 : inB a 0 65535 = true
  · by_cases h2 : inB l 0 16 = true
    · have h3 := inB_iff.1 h1
      have h4 := inB_iff.1 h2
      rw [if_pos h1, if_pos h1, if_pos h2, h2]
      simp only [Bool.not_true, Bool.false_eq_true, if_false]
      rw [if_pos (cnt_ok h4.1 h4.2), shl_span h4.1 h4.2, and_span h4.1 h4.2 h3.1 h3.2, ite_some]
    · simp [h1, h2]
  · simp [h1]

theorem impl_isPeer_eq (n : Int) : impl_isPeer.f n = some (inB n 0 2) := by simp only [impl_isPeer.f, impl_in_eq, Option.bind_some]


theorem impl_Route_fault_eq {k : Nat} (hk : 10 ≤ k) (q a l o : Int) (p : List Int) (n m lo : Int) : impl_Route_fault.f k q a l o p n m lo = some (routeFault q a l o p n m lo) := by
  simp only [impl_Route_fault.f, impl_isPeer_eq, impl_PrefixFault_eq (show 1 ≤ k by omega), impl_AttrsFault_eq hk, Option.bind_some, ite_some]; rfl

theorem cmp_Or_int_eq {k : Nat} {l : List Int} (hl : l.length ≤ 1048576) (hk : l.length < k) : cmp_Or_int.f k l = some (orI l) := by
  unfold cmp_Or_int.f
  refine Eq.trans ?_ (congrArg some (scan_or l))
  exact scan_loop (L := fun k i => cmp_Or_int.l0 k 0 l (l.length : Int) i) (B := 0)
    (fun k i h _ => by
      simp only [cmp_Or_int.l0]
      rw [if_pos (by omega), if_pos (by omega), if_pos (by omega), rd_nat h, wrap_succ (by omega)]
      by_cases hx : l[i] = 0 <;> simp [hx])
    (fun k => by simp only [cmp_Or_int.l0]; rw [if_neg (by omega)]) (by omega)

theorem cmp_isNaN_int64_eq (a : Int) : cmp_isNaN_int64.f a = some false := by simp [cmp_isNaN_int64.f]

theorem cmp_Compare_int64_eq (a b : Int) : cmp_Compare_int64.f a b = some (cmpI a b) := by
  simp only [cmp_Compare_int64.f, cmp_isNaN_int64_eq, Option.bind_some, Bool.false_eq_true, if_false, ite_some]; rfl

theorem impl_comparePrefix_eq {k : Nat} (hk : 10 ≤ k) (a l b m : Int) : impl_comparePrefix.f k a l b m = some (cmpP a l b m) := by
  simp only [impl_comparePrefix.f, cmp_Compare_int64_eq, Option.bind_some]
  rw [cmp_Or_int_eq (by simp) (by simp; omega)]; rfl

theorem impl_compareRoute_eq {k : Nat} (hk : 10 ≤ k) (p a l o : Int) (pa : List Int) (n m lo q b c o2 : Int) (pb : List Int) (n2 m2 lo2 : Int) : impl_compareRoute.f k p a l o pa n m lo q b c o2 pb n2 m2 lo2 = some (cmpR p a l q b c) := by
  simp only [impl_compareRoute.f, impl_comparePrefix_eq hk, cmp_Compare_int64_eq, Option.bind_some]
  rw [cmp_Or_int_eq (by simp) (by simp; omega)]; rfl


theorem impl_RibFault_eq {k : Nat} (hk : 80 ≤ k) (l : List S34) : impl_RibFault.f k l = some (ribFault l) := by
  unfold impl_RibFault.f ribFault
  by_cases h6 : (l.length : Int) > 60
  · rw [if_pos h6, if_pos h6]
  · rw [if_neg h6, if_neg h6]
    exact run_loop (L := fun k (_ : Unit) i => impl_RibFault.l0 k l l (l.length : Int) i) (step := stepR l) (fin := fun _ => 0) (B := 10) (s := ()) (fun _ _ => True)
      (fun k i _ h hB _ => by
        have hr : rd_T34 l (i : Int) = l[i] := getD_nat h
        simp only [impl_RibFault.l0, hr, impl_Route_fault_eq hB, impl_compareRoute_eq hB, Option.bind_some]
        rw [if_pos (by omega), if_pos (by omega), if_pos (by omega), wrap_succ (by omega)]
        unfold stepR
        by_cases h1 : routeFault l[i].f0 l[i].f1.f0 l[i].f1.f1 l[i].f2.f0 l[i].f2.f1 l[i].f2.f2 l[i].f2.f3 l[i].f2.f4 = 0
        · rw [if_pos h1, if_pos h1]
          by_cases hi : 0 < i
          · have hw : wrap64 ((i : Int) - 1) = ((i - 1 : Nat) : Int) := by rw [wrap_id (by omega) (by omega)]; omega
            have hr2 : rd_T34 l ((i - 1 : Nat) : Int) = l.getD (i - 1) z34 := by unfold rd_T34; simp
            rw [hw, hr2]
            clear hw
            rw [if_pos (show (i : Int) > 0 by omega), if_pos (by omega), if_pos (by omega), if_pos hi]
            by_cases h5 : behindB (l.getD (i - 1) z34).f0 (l.getD (i - 1) z34).f1.f0 (l.getD (i - 1) z34).f1.f1 l[i].f0 l[i].f1.f0 l[i].f1.f1 = true
            · rw [if_pos h5, if_neg (fun h6 => by rw [(cmpR_behind _ _ _ _ _ _).1 h6] at h5; cases h5)]
            · rw [if_neg h5, if_pos ((cmpR_behind _ _ _ _ _ _).2 (by simpa using h5))]
          · rw [if_neg (by omega), if_neg hi]
        · rw [if_neg h1, if_neg h1])
      (fun _ _ _ _ _ _ => trivial)
      (fun k _ _ => by simp only [impl_RibFault.l0]; rw [if_neg (by omega)]) trivial (by omega)

theorem laws_eqInt64S_refl {k : Nat} {l : List Int} (hl : l.length ≤ 1048576) (hk : l.length < k) : laws_eqInt64S.f k l l = some true := by
  unfold laws_eqInt64S.f
  rw [if_pos rfl]
  exact all_loop (L := fun k i => laws_eqInt64S.l0 k l l i) (n := l.length) (B := 0)
    (fun k i h _ => by
      simp only [laws_eqInt64S.l0]
      rw [if_pos (by omega), if_pos (by omega), if_pos (by omega)]
      simp only [if_true]
      rw [wrap_succ (by omega)])
    (fun k => by simp only [laws_eqInt64S.l0]; rw [if_neg (by omega)]) (by omega)

theorem laws_eqAttrs_refl {k : Nat} {a c d e : Int} {l : List Int} (hl : l.length ≤ 1048576) (hk : l.length < k) : laws_eqAttrs.f k a l c d e a l c d e = some true := by
  simp only [laws_eqAttrs.f, laws_eqInt64S_refl hl hk, Option.bind_some, if_true]

theorem laws_eqPrefix_refl (a b : Int) : laws_eqPrefix.f a b a b = some true := by
  simp only [laws_eqPrefix.f, if_true]

theorem laws_eqRoute_refl {k : Nat} {q a b o n m l : Int} {p : List Int} (hl : p.length ≤ 1048576) (hk : p.length < k) : laws_eqRoute.f k q a b o p n m l q a b o p n m l = some true := by
  simp only [laws_eqRoute.f, laws_eqPrefix_refl, laws_eqAttrs_refl hl hk, Option.bind_some, if_true]

theorem laws_eqRouteS_refl {k : Nat} {l : List S34} (hl : l.length ≤ 1048576) (hp : ∀ x ∈ l, x.f2.f1.length ≤ 1048576) (hk : l.length + 1048577 < k) : laws_eqRouteS.f k l l = some true := by
  unfold laws_eqRouteS.f
  rw [if_pos rfl]
  exact all_loop (L := fun k i => laws_eqRouteS.l0 k l l i) (n := l.length) (B := 1048577)
    (fun k i h hB => by
      have hr : rd_T34 l (i : Int) = l[i] := getD_nat h
      have hpi := hp _ (List.getElem_mem h)
      simp only [laws_eqRouteS.l0, hr, laws_eqRoute_refl hpi (show l[i].f2.f1.length < k by omega), Option.bind_some]
      rw [if_pos (by omega), if_pos (by omega), if_pos (by omega)]
      simp only [if_true]
      rw [wrap_succ (by omega)])
    (fun k => by simp only [laws_eqRouteS.l0]; rw [if_neg (by omega)]) (by omega)

theorem FnExactRibFault (l0 : List S28)
    (w0 : (l0.length ≤ maxLen ∧ ∀ z1 ∈ l0, ((Lit.int .i64 z1.f0).wf = true) ∧ (((Lit.int .i64 z1.f1.f0).wf = true) ∧ ((Lit.int .i64 z1.f1.f1).wf = true)) ∧ (((Lit.int .i64 z1.f2.f0).wf = true) ∧ ((z1.f2.f1.length ≤ maxLen ∧ ∀ z2 ∈ z1.f2.f1, (Lit.int .i64 z2).wf = true)) ∧ ((Lit.int .i64 z1.f2.f2).wf = true) ∧ ((Lit.int .i64 z1.f2.f3).wf = true) ∧ ((Lit.int .i64 z1.f2.f4).wf = true)))) :
    ∃ k, laws_FnExactRibFault.f k l0 = some true := by
  refine ⟨4000000, ?_⟩
  unfold laws_FnExactRibFault.f
  rw [laws_szRouteS_eq w0.1 (fun x hx => (w0.2 x hx).2.2.2.1.1) (by decide) (by decide) (by decide)]
  simp only [Option.bind_some]
  by_cases hL : szS (fun x : S28 => x.f2.f1.length) 1048576 l0 < 0
  · rw [if_pos hL]
  · rw [if_neg hL]
    have hz := szS_ok (by decide) hL
    have h1 : l0.length ≤ 1048576 := by have := hz.1; omega
    have h2 : ∀ x ∈ l0, x.f2.f1.length ≤ 1048576 := fun x hx => by have := hz.2 x hx; omega
    have h3 : l0.length + 1048577 < 4000000 := by omega
    have h4 : (l0.map cvtRoute).length ≤ 1048576 := by simpa using h1
    have h5 : ∀ x ∈ l0.map cvtRoute, x.f2.f1.length ≤ 1048576 := fun x hx => by
      obtain ⟨y, hy, rfl⟩ := List.mem_map.1 hx
      exact h2 y hy
    have h6 : (l0.map cvtRoute).length + 1048577 < 4000000 := by simpa using h3
    simp only [laws_toRouteS_eq h1 h2 h3, laws_eqRouteS_refl h4 h5 h6, spec_RibFault_eq (show 80 ≤ 4000000 by decide), impl_RibFault_eq (show 80 ≤ 4000000 by decide), Option.bind_some, if_true]
end Go.Proofs.Ytfbojdagjecjcaa.Pure
