/- The pure part of the law FnExactSameRouters: what the printed functions compute, in closed form, and that the law's answer is true. -/
import Derived.Test.YthmkjapmnlhflaaSFnExactSameRoutersza
import Derived.Test.YthmkjapmnlhflaaYFnExactSameRoutersx5
import Derived.Test.YthmkjapmnlhflaaYFnExactSameRoutersx6
import Derived.Test.YthmkjapmnlhflaaYFnExactSameRoutersx7
import Derived.Test.YthmkjapmnlhflaaYFnExactSameRoutersx8
import Derived.Test.YthmkjapmnlhflaaYFnExactSameRoutersx9
import Derived.Test.YthmkjapmnlhflaaYFnExactSameRoutersx11
import Derived.Test.YthmkjapmnlhflaaYFnExactSameRoutersx12
import Derived.Test.YthmkjapmnlhflaaYFnExactSameRoutersx13
import Derived.Test.YthmkjapmnlhflaaYFnExactSameRoutersx14
import Derived.Test.YthmkjapmnlhflaaYFnExactSameRoutersx15
import Derived.Test.YthmkjapmnlhflaaYFnExactSameRoutersx16
import Derived.Test.YthmkjapmnlhflaaYFnExactSameRoutersx17
import Derived.Test.YthmkjapmnlhflaaYFnExactSameRoutersx18
import Derived.Test.YthmkjapmnlhflaaYFnExactSameRoutersx19
import Derived.Test.YthmkjapmnlhflaaYFnExactSameRoutersx20
import Derived.Test.YthmkjapmnlhflaaYFnExactSameRoutersx21
import Derived.Test.YthmkjapmnlhflaaYFnExactSameRoutersx10
namespace Go.Proofs.Ythmkjapmnlhflaa.Pure
open Go.RowKit Go.Proofs.Ythmkjapmnlhflaa.PFnExactSameRouters Go.Proofs.YthmkjapmnlhflaaW.PrintWords Go.Proofs.YthmkjapmnlhflaaW.PrintLast Go.Proofs.YthmkjapmnlhflaaW.PrintMore Go.Proofs.Ythmkjapmnlhflaa.B
set_option linter.unusedVariables false
set_option linter.unusedSimpArgs false
theorem laws_szRuleS_eq {l : List S233} {a : Int} (hl : l.length ≤ maxLen) (h0 : -1 ≤ a) (h1 : a ≤ 1048576) : laws_szRuleS.f l a = some (szB a l.length) := szB_eq h0 h1 hl
theorem laws_szSettings_eq {a b c d : Int} {l m : List S233} {e : Int} (hl : l.length ≤ maxLen) (hm : m.length ≤ maxLen) (h0 : -1 ≤ e) (h1 : e ≤ 1048576) :
    laws_szSettings.f a b c d l m e = some (if szB e l.length < 0 then -1 else szB (szB e l.length) m.length) := by
  have hb := szB_bound (left := e) (n := l.length) h1
  simp only [laws_szSettings.f, laws_szRuleS_eq hl h0 h1, laws_szRuleS_eq hm hb.1 hb.2, Option.bind_some, szB_again, ite_some]
  congr 1
  split
  · rfl
  · have h := szB_again (szB e l.length) m.length
    rw [ite_some] at h
    exact Option.some.inj h
theorem laws_szByteS_eq {l : List Int} {a : Int} (hl : l.length ≤ maxLen) (h0 : -1 ≤ a) (h1 : a ≤ 1048576) : laws_szByteS.f l a = some (szB a l.length) := szB_eq h0 h1 hl
theorem laws_szInt64S_eq {l : List Int} {a : Int} (hl : l.length ≤ maxLen) (h0 : -1 ≤ a) (h1 : a ≤ 1048576) : laws_szInt64S.f l a = some (szB a l.length) := szB_eq h0 h1 hl
theorem laws_szAttrs_eq {a c d e : Int} {l : List Int} {b : Int} (hl : l.length ≤ maxLen) (h0 : -1 ≤ b) (h1 : b ≤ 1048576) : laws_szAttrs.f a l c d e b = some (szB b l.length) := by
  simp only [laws_szAttrs.f, laws_szInt64S_eq hl h0 h1, Option.bind_some, szB_again]
theorem laws_szTold_eq {a b o n m l : Int} {p : List Int} {c : Int} (hl : p.length ≤ maxLen) (h0 : -1 ≤ c) (h1 : c ≤ 1048576) : laws_szTold.f a b o p n m l c = some (szB c p.length) := by
  simp only [laws_szTold.f, laws_szAttrs_eq hl h0 h1, Option.bind_some, szB_again]
theorem laws_szToldS_eq {k : Nat} {l : List S248} {a : Int} (hl : l.length ≤ maxLen) (hp : ∀ x ∈ l, x.f1.f1.length ≤ maxLen) (h0 : -1 ≤ a) (h1 : a ≤ 1048576) (hk : 1048578 < k) : laws_szToldS.f k l a = some (szS (fun x => x.f1.f1.length) a l) := by
  unfold laws_szToldS.f szS
  have e := szB_eq h0 h1 hl
  have hb := szB_bound (left := a) (n := l.length) h1
  have hw : wrap64 (a - (l.length : Int)) = a - (l.length : Int) := by
    unfold maxLen at hl
    exact wrap_id (by omega) (by omega)
  rw [hw]
  clear e hw
  by_cases h : a - (l.length : Int) < 0
  · rw [if_pos h, if_pos (by unfold szB; rw [if_pos h]; decide)]
  · have hs : szB a l.length = a - (l.length : Int) := by unfold szB; rw [if_neg h]
    rw [if_neg h, hs, if_neg h]
    refine Eq.trans ?_ (congrArg some (run_szL (fun x : S248 => x.f1.f1.length) l 0 (a - (l.length : Int))))
    exact run_loop (L := fun k s i => laws_szToldS.l0 k l s i) (fun _ s => -1 ≤ s ∧ s ≤ 1048576) (B := 0)
      (fun k i s h _ hi => by
        have hr : rd_T248 l (i : Int) = l[i] := getD_nat h
        simp only [laws_szToldS.l0, hr, laws_szTold_eq (hp _ (List.getElem_mem h)) hi.1 hi.2, Option.bind_some]
        rw [if_pos (by omega), if_pos (by omega), wrap_succ (by omega)]
        by_cases hn : szB s l[i].f1.f1.length < 0
        · rw [if_pos hn, if_pos hn]
        · rw [if_neg hn, if_neg hn])
      (fun i s s' h hi e => by
        by_cases hn : szB s l[i].f1.f1.length < 0
        · rw [if_pos hn] at e; cases e
        · rw [if_neg hn] at e
          injection e with e
          exact e ▸ szB_bound hi.2)
      (fun k s _ => by simp only [laws_szToldS.l0]; rw [if_neg (by omega)]; rfl) ⟨by omega, by omega⟩ (by omega)
def goodL (x : S206) : Prop := x.f1.length ≤ 1048576 ∧ x.f2.length ≤ 1048576 ∧ ∀ y ∈ x.f2, y.f1.f1.length ≤ 1048576
def maxL (x : S206) : Prop := x.f1.length ≤ maxLen ∧ x.f2.length ≤ maxLen ∧ ∀ y ∈ x.f2, y.f1.f1.length ≤ maxLen
theorem laws_szLink_ex {k : Nat} {x : S206} {c : Int} (hx : maxL x) (h0 : -1 ≤ c) (h1 : c ≤ 1048576) (hk : 1048578 < k) :
    ∃ t, laws_szLink.f k x.f0.f0 x.f0.f1 x.f0.f2 x.f0.f3 x.f0.f4 x.f1 x.f2 c = some t ∧ -1 ≤ t ∧ t ≤ 1048576 ∧ (0 ≤ t → goodL x) := by
  unfold laws_szLink.f
  have hb := szB_bound (left := c) (n := x.f1.length) h1
  have hs := szS_bound (fun x : S248 => x.f1.f1.length) x.f2 hb.1 hb.2
  rw [laws_szByteS_eq hx.1 h0 h1]
  simp only [Option.bind_some]
  by_cases h : szB c x.f1.length < 0
  · rw [if_pos h]; exact ⟨_, rfl, by omega, by omega, fun q => absurd q (by decide)⟩
  · rw [if_neg h, laws_szToldS_eq hx.2.1 hx.2.2 hb.1 hb.2 hk]
    simp only [Option.bind_some]
    by_cases h2 : szS (fun x : S248 => x.f1.f1.length) (szB c x.f1.length) x.f2 < 0
    · rw [if_pos h2]; exact ⟨_, rfl, by omega, by omega, fun q => absurd q (by decide)⟩
    · rw [if_neg h2]
      have q1 := mt szB_neg.2 h
      have q2 := szS_ok hb.2 h2
      refine ⟨_, rfl, hs.1, by omega, fun _ => ⟨by omega, by have := q2.1; omega, fun y hy => by have := q2.2 y hy; omega⟩⟩
theorem laws_szLinkS_ex {k : Nat} {l : List S206} {c : Int} (hl : l.length ≤ maxLen) (hx : ∀ x ∈ l, maxL x) (h0 : -1 ≤ c) (h1 : c ≤ 1048576) (hk : 2200000 < k) :
    ∃ t, laws_szLinkS.f k l c = some t ∧ -1 ≤ t ∧ t ≤ 1048576 ∧ (0 ≤ t → l.length ≤ 1048576 ∧ ∀ x ∈ l, goodL x) := by
  unfold laws_szLinkS.f
  have hw : wrap64 (c - (l.length : Int)) = c - (l.length : Int) := by
    unfold maxLen at hl
    exact wrap_id (by omega) (by omega)
  rw [hw]
  clear hw
  by_cases h : c - (l.length : Int) < 0
  · rw [if_pos h]; exact ⟨_, rfl, by omega, by omega, fun q => absurd q (by decide)⟩
  · rw [if_neg h]
    have key : ∀ (d i k : Nat) (s : Int), i + d = l.length → 0 ≤ s → s ≤ 1048576 → d + 1048580 < k → ∃ t, laws_szLinkS.l0 k l s (i : Int) = some t ∧ -1 ≤ t ∧ t ≤ 1048576 ∧ (0 ≤ t → ∀ (j : Nat) (hj : j < l.length), i ≤ j → goodL l[j]) := by
      intro d
      induction d with
      | zero =>
        intro i k s hi s0 s1 hk
        obtain ⟨k, rfl⟩ : ∃ m, k = m + 1 := ⟨k - 1, by omega⟩
        rw [laws_szLinkS.l0, if_neg (by omega)]
        exact ⟨_, rfl, by omega, by omega, fun _ j hj hij => by omega⟩
      | succ d ih =>
        intro i k s hi s0 s1 hk
        obtain ⟨k, rfl⟩ : ∃ m, k = m + 1 := ⟨k - 1, by omega⟩
        have hlt : i < l.length := by omega
        have hr : rd_T206 l (i : Int) = l[i] := getD_nat hlt
        obtain ⟨t, e, t0, t1, tg⟩ := laws_szLink_ex (k := k) (hx _ (List.getElem_mem hlt)) (show -1 ≤ s by omega) s1 (by omega)
        rw [laws_szLinkS.l0, if_pos (by omega), if_pos (by omega), hr, e]
        simp only [Option.bind_some]
        by_cases ht : t < 0
        · rw [if_pos ht]; exact ⟨_, rfl, by omega, by omega, fun q => absurd q (by decide)⟩
        · unfold maxLen at hl
          rw [if_neg ht, wrap_succ (by omega)]
          obtain ⟨u, f, u0, u1, ug⟩ := ih (i + 1) k t (by omega) (by omega) t1 (by omega)
          refine ⟨u, f, u0, u1, fun q j hj hij => ?_⟩
          by_cases e2 : j = i
          · subst e2; exact tg (by omega)
          · exact ug q j hj (by omega)
    obtain ⟨t, e, t0, t1, tg⟩ := key l.length 0 k (c - (l.length : Int)) (by omega) (by omega) (by omega) (by omega)
    refine ⟨t, by simpa using e, t0, t1, fun q => ⟨by omega, fun x hx2 => ?_⟩⟩
    obtain ⟨j, hj, rfl⟩ := List.getElem_of_mem hx2
    exact tg q j hj (Nat.zero_le _)
theorem laws_szRoute_eq {q a b o n m l : Int} {p : List Int} {c : Int} (hl : p.length ≤ maxLen) (h0 : -1 ≤ c) (h1 : c ≤ 1048576) : laws_szRoute.f q a b o p n m l c = some (szB c p.length) := by
  simp only [laws_szRoute.f, laws_szAttrs_eq hl h0 h1, Option.bind_some, szB_again]
theorem laws_szRouteS_eq {k : Nat} {l : List S210} {a : Int} (hl : l.length ≤ maxLen) (hp : ∀ x ∈ l, x.f2.f1.length ≤ maxLen) (h0 : -1 ≤ a) (h1 : a ≤ 1048576) (hk : 1048578 < k) : laws_szRouteS.f k l a = some (szS (fun x => x.f2.f1.length) a l) := by
  unfold laws_szRouteS.f szS
  have e := szB_eq h0 h1 hl
  have hb := szB_bound (left := a) (n := l.length) h1
  have hw : wrap64 (a - (l.length : Int)) = a - (l.length : Int) := by
    unfold maxLen at hl
    exact wrap_id (by omega) (by omega)
  rw [hw]
  clear e hw
  by_cases h : a - (l.length : Int) < 0
  · rw [if_pos h, if_pos (by unfold szB; rw [if_pos h]; decide)]
  · have hs : szB a l.length = a - (l.length : Int) := by unfold szB; rw [if_neg h]
    rw [if_neg h, hs, if_neg h]
    refine Eq.trans ?_ (congrArg some (run_szL (fun x : S210 => x.f2.f1.length) l 0 (a - (l.length : Int))))
    exact run_loop (L := fun k s i => laws_szRouteS.l0 k l s i) (fun _ s => -1 ≤ s ∧ s ≤ 1048576) (B := 0)
      (fun k i s h _ hi => by
        have hr : rd_T210 l (i : Int) = l[i] := getD_nat h
        simp only [laws_szRouteS.l0, hr, laws_szRoute_eq (hp _ (List.getElem_mem h)) hi.1 hi.2, Option.bind_some]
        rw [if_pos (by omega), if_pos (by omega), wrap_succ (by omega)]
        by_cases hn : szB s l[i].f2.f1.length < 0
        · rw [if_pos hn, if_pos hn]
        · rw [if_neg hn, if_neg hn])
      (fun i s s' h hi e => by
        by_cases hn : szB s l[i].f2.f1.length < 0
        · rw [if_pos hn] at e; cases e
        · rw [if_neg hn] at e
          injection e with e
          exact e ▸ szB_bound hi.2)
      (fun k s _ => by simp only [laws_szRouteS.l0]; rw [if_neg (by omega)]; rfl) ⟨by omega, by omega⟩ (by omega)
def goodR (l4 l5 : List S233) (l6 : List S206) (l7 : List S210) : Prop := l4.length ≤ 1048576 ∧ l5.length ≤ 1048576 ∧ (l6.length ≤ 1048576 ∧ ∀ x ∈ l6, goodL x) ∧ (l7.length ≤ 1048576 ∧ ∀ x ∈ l7, x.f2.f1.length ≤ 1048576)
theorem laws_szRouter_ex {k : Nat} {a b c d : Int} {l4 l5 : List S233} {l6 : List S206} {l7 : List S210} {e : Int} (h4 : l4.length ≤ maxLen) (h5 : l5.length ≤ maxLen) (h6 : l6.length ≤ maxLen) (hx : ∀ x ∈ l6, maxL x) (h7 : l7.length ≤ maxLen) (hr : ∀ x ∈ l7, x.f2.f1.length ≤ maxLen) (e0 : -1 ≤ e) (e1 : e ≤ 1048576) (hk : 2200000 < k) :
    ∃ t, laws_szRouter.f k a b c d l4 l5 l6 l7 e = some t ∧ -1 ≤ t ∧ t ≤ 1048576 ∧ (0 ≤ t → goodR l4 l5 l6 l7) := by
  unfold laws_szRouter.f
  have hb := szB_bound (left := e) (n := l4.length) e1
  have hb2 := szB_bound (left := szB e l4.length) (n := l5.length) hb.2
  rw [laws_szSettings_eq h4 h5 e0 e1]
  simp only [Option.bind_some]
  by_cases h : szB e l4.length < 0
  · rw [if_pos h, if_pos (by decide)]; exact ⟨_, rfl, by omega, by omega, fun q => absurd q (by decide)⟩
  · rw [if_neg h]
    by_cases h2 : szB (szB e l4.length) l5.length < 0
    · rw [if_pos h2]; exact ⟨_, rfl, by omega, by omega, fun q => absurd q (by decide)⟩
    · rw [if_neg h2]
      have q1 := mt szB_neg.2 h
      have q2 := mt szB_neg.2 h2
      obtain ⟨t, f, t0, t1, tg⟩ := laws_szLinkS_ex (k := k) h6 hx hb2.1 hb2.2 hk
      rw [f]
      simp only [Option.bind_some]
      by_cases h3 : t < 0
      · rw [if_pos h3]; exact ⟨_, rfl, by omega, by omega, fun q => absurd q (by decide)⟩
      · rw [if_neg h3, laws_szRouteS_eq h7 hr t0 t1 (by omega)]
        simp only [Option.bind_some]
        have hs := szS_bound (fun x : S210 => x.f2.f1.length) l7 t0 t1
        by_cases h8 : szS (fun x : S210 => x.f2.f1.length) t l7 < 0
        · rw [if_pos h8]; exact ⟨_, rfl, by omega, by omega, fun q => absurd q (by decide)⟩
        · rw [if_neg h8]
          have q3 := szS_ok t1 h8
          exact ⟨_, rfl, hs.1, by omega, fun _ => ⟨by omega, by omega, tg (by omega), by have := q3.1; omega, fun x hx => by have := q3.2 x hx; omega⟩⟩
def ruleNe (x y : S212) : Bool := ((!(x.f0.f0 == y.f0.f0) || (!(x.f0.f1 == y.f0.f1))) || (!(x.f1 == y.f1) || (!(x.f2 == y.f2) || (!(x.f3 == y.f3) || (!(x.f4 == y.f4) || (!(x.f5 == y.f5) || (!(x.f6 == y.f6))))))))
def sameRule (x y : S212) : Bool := !ruleNe x y
theorem ite_not {α : Type} (b : Bool) (x y : α) : (if b = true then x else y) = if (!b) = true then y else x := by cases b <;> rfl
theorem spec_l9Rules_eq {k : Nat} {a b : List S212} (hl : a.length ≤ 1048576) (hk : a.length < k) : spec_l9Rules.f k a b = some (zipAll sameRule a b) := by
  unfold spec_l9Rules.f
  by_cases h : a.length = b.length
  · rw [if_pos (by omega)]
    exact zip_loop (L := fun k i => spec_l9Rules.l0 k a b i) (p := sameRule) (B := 0) h
      (fun k i h1 h2 hB => by
        have hr1 : rd_T212 a (i : Int) = a[i] := getD_nat h1
        have hr2 : rd_T212 b (i : Int) = b[i] := getD_nat h2
        simp only [spec_l9Rules.l0, hr1, hr2]
        rw [if_pos (by omega), if_pos (by omega), if_pos (by omega), wrap_succ (by omega)]
        exact ite_not (ruleNe a[i] b[i]) _ _)
      (fun k => by simp only [spec_l9Rules.l0]; rw [if_neg (by omega)]) (by omega)
  · rw [if_neg (by omega)]
    unfold zipAll
    rw [if_neg h]
theorem spec_SameAttrs_eq {k : Nat} {o : Int} {p : List Int} {n m l o' : Int} {p' : List Int} {n' m' l' : Int} (hl : p.length ≤ 1048576) (hk : p.length + 1 < k) : spec_SameAttrs.f k o p n m l o' p' n' m' l' = some (sameA o p n m l o' p' n' m' l') := by
  obtain ⟨k, rfl⟩ : ∃ m, k = m + 1 := ⟨k - 1, by omega⟩
  simp only [spec_SameAttrs.f, spec_SameAttrs.j0]
  unfold sameA
  by_cases h1 : o = o'
  · by_cases h3 : n = n'
    · by_cases h4 : m = m'
      · by_cases h5 : l = l'
        · by_cases h : p.length = p'.length
          · have hb : ((p.length : Int) != (p'.length : Int)) = false := by simp [h]
            rw [if_pos h1, if_pos h3, if_pos h4, if_pos h5, hb]
            simp only [Bool.false_eq_true, if_false]
            have e := zip_loop (L := fun k i => spec_SameAttrs.l0 k i o p n m l o' p' n' m' l') (p := fun x y => decide (x = y)) (B := 0) (k := k) h
              (fun k i h1 h2 _ => by
                simp only [spec_SameAttrs.l0]
                rw [if_pos (by omega), if_pos (by omega), if_pos (by omega), rd_nat h1, rd_nat h2, wrap_succ (by omega)]
                by_cases hx : p[i] = p'[i] <;> simp [hx])
              (fun k => by simp only [spec_SameAttrs.l0]; rw [if_neg (by omega)]) (by omega)
            rw [e]
            unfold sameL
            simp [h1, h3, h4, h5]
          · have hb : ((p.length : Int) != (p'.length : Int)) = true := by simp; omega
            rw [if_pos h1, if_pos h3, if_pos h4, if_pos h5, hb]
            unfold sameL zipAll
            simp [h]
        · simp [h1, h3, h4, h5]
      · simp [h1, h3, h4]
    · simp [h1, h3]
  · simp [h1]
def sameT (x y : S214) : Bool := if (x.f0.f0 == y.f0.f0 && (x.f0.f1 == y.f0.f1)) = true then sameA x.f1.f0 x.f1.f1 x.f1.f2 x.f1.f3 x.f1.f4 y.f1.f0 y.f1.f1 y.f1.f2 y.f1.f3 y.f1.f4 else false
theorem spec_SameTold_eq {k : Nat} {a b : List S214} (hl : a.length ≤ 1048576) (hp : ∀ x ∈ a, x.f1.f1.length ≤ 1048576) (hk : a.length + 1048578 < k) : spec_SameTold.f k a b = some (zipAll sameT a b) := by
  unfold spec_SameTold.f
  by_cases h : a.length = b.length
  · rw [if_pos (by omega)]
    exact zip_loop (L := fun k i => spec_SameTold.l0 k a b i) (p := sameT) (B := 1048578) h
      (fun k i h1 h2 hB => by
        have hr1 : rd_T214 a (i : Int) = a[i] := getD_nat h1
        have hr2 : rd_T214 b (i : Int) = b[i] := getD_nat h2
        have hpi := hp _ (List.getElem_mem h1)
        simp only [spec_SameTold.l0, hr1, hr2, spec_SameAttrs_eq hpi (show a[i].f1.f1.length + 1 < k by omega), Option.bind_some]
        rw [if_pos (by omega), if_pos (by omega), if_pos (by omega), wrap_succ (by omega)]
        unfold sameT
        by_cases e1 : a[i].f0.f0 = b[i].f0.f0
        · by_cases e2 : a[i].f0.f1 = b[i].f0.f1
          · simp [e1, e2]
          · simp [e1, e2]
        · simp [e1])
      (fun k => by simp only [spec_SameTold.l0]; rw [if_neg (by omega)]) (by omega)
  · rw [if_neg (by omega)]
    unfold zipAll
    rw [if_neg h]
theorem zipf_loop {α β : Type} {L : Nat → Int → Option Bool} {a : List α} {b : List β} {p : α → β → Bool} {B : Nat} {fin : Bool} (hl : a.length = b.length)
    (hs : ∀ k (i : Nat) (h : i < a.length) (h2 : i < b.length), B ≤ k → L (k + 1) (i : Int) = if p a[i] b[i] = true then L k ((i + 1 : Nat) : Int) else some false)
    (he : ∀ k, B ≤ k → L (k + 1) (a.length : Int) = some fin) {k : Nat} (hk : a.length + B < k) : L k 0 = some (zipAll p a b && fin) := by
  have hz : (a.zip b).length = a.length := by simp [hl]
  have key : ∀ (d i k : Nat), i + d = a.length → d + B < k → L k (i : Int) = some (((a.zip b).drop i).all (fun q => p q.1 q.2) && fin) := by
    intro d
    induction d with
    | zero =>
      intro i k hi hk
      obtain ⟨k, rfl⟩ : ∃ m, k = m + 1 := ⟨k - 1, by omega⟩
      obtain rfl : i = a.length := by omega
      rw [he k (by omega), List.drop_eq_nil_of_le (by omega)]
      rfl
    | succ d ih =>
      intro i k hi hk
      obtain ⟨k, rfl⟩ : ∃ m, k = m + 1 := ⟨k - 1, by omega⟩
      have h1 : i < a.length := by omega
      have h2 : i < b.length := by omega
      have h3 : i < (a.zip b).length := by omega
      rw [hs k i h1 h2 (by omega), List.drop_eq_getElem_cons h3, List.all_cons, List.getElem_zip]
      by_cases hp : p a[i] b[i] = true
      · rw [if_pos hp, ih (i + 1) k (by omega) (by omega), hp, Bool.true_and]
      · rw [if_neg hp, Bool.eq_false_iff.2 hp, Bool.false_and, Bool.false_and]
  have := key a.length 0 k (by omega) hk
  unfold zipAll
  rw [if_pos hl]
  simpa using this
def sameSes (x y : S164) : Bool := x.f0.f0 == y.f0.f0 && (x.f0.f1 == y.f0.f1 && (x.f0.f2 == y.f0.f2 && (x.f0.f3 == y.f0.f3 && (x.f0.f4 == y.f0.f4))))
def sameLink (x y : S164) : Bool := if sameSes x y = true then (if ((strOfNums x.f1).toList == (strOfNums y.f1).toList) = true then zipAll sameT x.f2 y.f2 else false) else false
def sameRt (x y : S169) : Bool := if x.f0 = y.f0 then (if (x.f1.f0 == y.f1.f0 && (x.f1.f1 == y.f1.f1)) = true then sameA x.f2.f0 x.f2.f1 x.f2.f2 x.f2.f3 x.f2.f4 y.f2.f0 y.f2.f1 y.f2.f2 y.f2.f3 y.f2.f4 else false) else false
def sameRtr (a0 a1 a2 a3 : Int) (l4 l5 : List S212) (l6 : List S164) (l7 : List S169) (b0 b1 b2 b3 : Int) (m4 m5 : List S212) (m6 : List S164) (m7 : List S169) : Bool :=
  (a0 == b0 && (a1 == b1 && (a2 == b2))) && (decide (a3 = b3) && (zipAll sameRule l4 m4 && (zipAll sameRule l5 m5 && (zipAll sameLink l6 m6 && zipAll sameRt l7 m7))))
theorem or5 (a b c d e : Bool) : (!a || (!b || (!c || (!d || (!e))))) = !(a && (b && (c && (d && e)))) := by cases a <;> cases b <;> cases c <;> cases d <;> cases e <;> rfl
theorem or3 (a b c : Bool) : (!a || (!b || (!c))) = !(a && (b && c)) := by cases a <;> cases b <;> cases c <;> rfl
theorem or2 (a b : Bool) : (!a || (!b)) = !(a && b) := by cases a <;> cases b <;> rfl
def okLinks (l : List S164) : Prop := l.length ≤ 1048576 ∧ ∀ x ∈ l, x.f2.length ≤ 1048576 ∧ ∀ y ∈ x.f2, y.f1.f1.length ≤ 1048576
def okRoutes (l : List S169) : Prop := l.length ≤ 1048576 ∧ ∀ x ∈ l, x.f2.f1.length ≤ 1048576
theorem ite_ff {α : Type} (b : Bool) (x y : α) : (if (!b) = true then x else y) = if b = true then y else x := by cases b <;> rfl
theorem spec_SameRouters_l1 {a0 a1 a2 a3 b0 b1 b2 b3 : Int} {l4 l5 m4 m5 : List S212} {l6 m6 : List S164} {l7 m7 : List S169} (h7 : okRoutes l7) (hl : l7.length = m7.length) {k : Nat} (hk : 2199000 ≤ k) :
    spec_SameRouters.l1 k 0 a0 a1 a2 a3 l4 l5 l6 l7 b0 b1 b2 b3 m4 m5 m6 m7 = some (zipAll sameRt l7 m7) := by
  have h71 := h7.1
  exact zip_loop (L := fun k i => spec_SameRouters.l1 k i a0 a1 a2 a3 l4 l5 l6 l7 b0 b1 b2 b3 m4 m5 m6 m7) (p := sameRt) (B := 1048600) hl
    (fun k i h1 h2 hB => by
      have hr1 : rd_T169 l7 (i : Int) = l7[i] := getD_nat h1
      have hr2 : rd_T169 m7 (i : Int) = m7[i] := getD_nat h2
      have hp := h7.2 _ (List.getElem_mem h1)
      simp only [spec_SameRouters.l1, hr1, hr2]
      rw [if_pos (by omega), if_pos (by omega), if_pos (by omega), wrap_succ (by omega), or2, ite_ff, spec_SameAttrs_eq hp (by omega)]
      simp only [Option.bind_some]
      unfold sameRt
      by_cases e1 : l7[i].f0 = m7[i].f0
      · rw [if_pos e1, if_pos e1]
        by_cases e2 : (l7[i].f1.f0 == m7[i].f1.f0 && (l7[i].f1.f1 == m7[i].f1.f1)) = true
        · rw [if_pos e2, if_pos e2]
        · rw [if_neg e2, if_neg e2]; rfl
      · rw [if_neg e1, if_neg e1]; rfl)
    (fun k => by simp only [spec_SameRouters.l1]; rw [if_neg (by omega)]) (by omega)
theorem spec_SameRouters_l0 {a0 a1 a2 a3 b0 b1 b2 b3 : Int} {l4 l5 m4 m5 : List S212} {l6 m6 : List S164} {l7 m7 : List S169} (h6 : okLinks l6) (h7 : okRoutes l7) (hl : l7.length = m7.length) (hl6 : l6.length = m6.length) {k : Nat} (hk : 3300000 ≤ k) :
    spec_SameRouters.l0 k 0 a0 a1 a2 a3 l4 l5 l6 l7 b0 b1 b2 b3 m4 m5 m6 m7 = some (zipAll sameLink l6 m6 && zipAll sameRt l7 m7) := by
  have h61 := h6.1
  exact zipf_loop (L := fun k i => spec_SameRouters.l0 k i a0 a1 a2 a3 l4 l5 l6 l7 b0 b1 b2 b3 m4 m5 m6 m7) (p := sameLink) (B := 2200000) hl6
    (fun k i h1 h2 hB => by
      have hr1 : rd_T164 l6 (i : Int) = l6[i] := getD_nat h1
      have hr2 : rd_T164 m6 (i : Int) = m6[i] := getD_nat h2
      have hp := h6.2 _ (List.getElem_mem h1)
      have hp1 := hp.1
      simp only [spec_SameRouters.l0, hr1, hr2]
      rw [if_pos (by omega), if_pos (by omega), if_pos (by omega), wrap_succ (by omega), or5, ite_ff, spec_SameTold_eq hp.1 hp.2 (by omega)]
      simp only [Option.bind_some]
      show (if sameSes l6[i] m6[i] = true then _ else _) = _
      unfold sameLink
      by_cases e1 : sameSes l6[i] m6[i] = true
      · rw [if_pos e1, if_pos e1]
        by_cases e2 : (strOfNums l6[i].f1).toList = (strOfNums m6[i].f1).toList
        · rw [if_pos e2, if_pos (beq_iff_eq.2 e2)]
        · rw [if_neg e2, if_neg (fun q => e2 (beq_iff_eq.1 q))]; rfl
      · rw [if_neg e1, if_neg e1]; rfl)
    (fun k hB => by
      simp only [spec_SameRouters.l0]
      rw [if_neg (by omega)]
      exact spec_SameRouters_l1 h7 hl (by omega)) (by omega)
theorem zipAll_ne {α β : Type} {p : α → β → Bool} {a : List α} {b : List β} (h : ¬ a.length = b.length) : zipAll p a b = false := by
  unfold zipAll; rw [if_neg h]
theorem spec_SameRouters_eq {a0 a1 a2 a3 b0 b1 b2 b3 : Int} {l4 l5 m4 m5 : List S212} {l6 m6 : List S164} {l7 m7 : List S169} (h4 : l4.length ≤ 1048576) (h5 : l5.length ≤ 1048576) (h6 : okLinks l6) (h7 : okRoutes l7) {k : Nat} (hk : 4000000 ≤ k) :
    spec_SameRouters.f k a0 a1 a2 a3 l4 l5 l6 l7 b0 b1 b2 b3 m4 m5 m6 m7 = some (sameRtr a0 a1 a2 a3 l4 l5 l6 l7 b0 b1 b2 b3 m4 m5 m6 m7) := by
  obtain ⟨k, rfl⟩ : ∃ m, k = m + 1 := ⟨k - 1, by omega⟩
  have jt : ∀ (x : Bool), x = true → spec_SameRouters.j0 (k + 1) x a0 a1 a2 a3 l4 l5 l6 l7 b0 b1 b2 b3 m4 m5 m6 m7 = some false := fun x hx => by rw [spec_SameRouters.j0, if_pos hx]
  unfold spec_SameRouters.f sameRtr
  rw [or3, ite_ff]
  by_cases c0 : (a0 == b0 && (a1 == b1 && (a2 == b2))) = true
  · rw [if_pos c0, c0, Bool.true_and]
    by_cases c1 : a3 = b3
    · rw [if_pos c1, decide_eq_true c1, Bool.true_and, spec_l9Rules_eq h4 (by omega), Option.bind_some]
      by_cases c2 : zipAll sameRule l4 m4 = true
      · rw [if_pos c2, c2, Bool.true_and, spec_l9Rules_eq h5 (by omega), Option.bind_some]
        by_cases c3 : zipAll sameRule l5 m5 = true
        · rw [if_pos c3, c3, Bool.true_and]
          by_cases c4 : l6.length = m6.length
          · rw [if_pos (by omega)]
            by_cases c5 : l7.length = m7.length
            · have hd : ((l7.length : Int) != (m7.length : Int)) = false := by simp [c5]
              rw [hd, spec_SameRouters.j0, if_neg (by decide)]
              exact spec_SameRouters_l0 h6 h7 c5 c4 (by omega)
            · have hd : ((l7.length : Int) != (m7.length : Int)) = true := by simp; omega
              rw [jt _ hd, zipAll_ne c5, Bool.and_false]
          · rw [if_neg (by omega), jt _ rfl, zipAll_ne c4, Bool.false_and]
        · rw [if_neg c3, jt _ rfl, Bool.eq_false_iff.2 c3, Bool.false_and]
      · rw [if_neg c2, jt _ rfl, Bool.eq_false_iff.2 c2, Bool.false_and]
    · rw [if_neg c1, jt _ rfl, decide_eq_false c1, Bool.false_and]
  · rw [if_neg c0, jt _ rfl, Bool.eq_false_iff.2 c0, Bool.false_and]
theorem laws_toConfig_eq (a b c : Int) : laws_toConfig.f a b c = some (a, b, c) := rfl
theorem laws_toPrefix_eq (a b : Int) : laws_toPrefix.f a b = some (a, b) := rfl
theorem laws_toRule_eq (a b c d e : Int) (f : Bool) (g h : Int) : laws_toRule.f a b c d e f g h = some (a, b, c, d, e, f, g, h) := rfl
def cvtRule (x : S233) : S212 := ⟨⟨x.f0.f0, x.f0.f1⟩, x.f1, x.f2, x.f3, x.f4, x.f5, x.f6⟩
theorem laws_toRuleS_eq {k : Nat} {l : List S233} (hl : l.length ≤ 1048576) (hk : l.length < k) : laws_toRuleS.f k l = some (l.map cvtRule) := by
  unfold laws_toRuleS.f
  rw [if_pos (by omega), if_pos (by omega)]
  exact set_loop (L := fun k acc i => laws_toRuleS.l0 k l acc i) (B := 0)
    (fun k i acc h _ ha => by
      have hr : rd_T233 l (i : Int) = l[i] := getD_nat h
      simp only [laws_toRuleS.l0, hr, laws_toRule_eq, Option.bind_some]
      rw [if_pos (by omega), if_pos (by omega), if_pos (by omega), wrap_succ (by omega)]
      rfl)
    (fun k acc _ => by simp only [laws_toRuleS.l0]; rw [if_neg (by omega)]) (by simp) (by omega)
theorem laws_toSettings_eq {k : Nat} {a b c d : Int} {l m : List S233} (hl : l.length ≤ 1048576) (hk : l.length < k) (hm : m.length ≤ 1048576) (hk2 : m.length < k) : laws_toSettings.f k a b c d l m = some (a, b, c, d, l.map cvtRule, m.map cvtRule) := by
  simp only [laws_toSettings.f, laws_toConfig_eq, laws_toRuleS_eq hl hk, laws_toRuleS_eq hm hk2, Option.bind_some]
theorem laws_toSession_eq (a b c d e : Int) : laws_toSession.f a b c d e = some (a, b, c, d, e) := rfl
theorem laws_toByteS_eq {k : Nat} {l : List Int} (hl : l.length ≤ 1048576) (hk : l.length < k) : laws_toByteS.f k l = some l := by
  unfold laws_toByteS.f
  rw [if_pos (by omega), if_pos (by omega)]
  have h := set_loop (L := fun k acc i => laws_toByteS.l0 k l acc i) (xs := l) (f := fun x => x) (B := 0) (k := k) (acc := List.replicate ((l.length : Int)).toNat 0)
    (fun k i acc h _ ha => by
      simp only [laws_toByteS.l0]
      rw [if_pos (by omega), if_pos (by omega), if_pos (by omega), rd_nat h, wrap_succ (by omega)]
      simp)
    (fun k acc _ => by simp only [laws_toByteS.l0]; rw [if_neg (by omega)]) (by simp) (by omega)
  simpa using h
theorem laws_toInt64S_eq {k : Nat} {l : List Int} (hl : l.length ≤ 1048576) (hk : l.length < k) : laws_toInt64S.f k l = some l := by
  unfold laws_toInt64S.f
  rw [if_pos (by omega), if_pos (by omega)]
  have h := set_loop (L := fun k acc i => laws_toInt64S.l0 k l acc i) (xs := l) (f := fun x => x) (B := 0) (k := k) (acc := List.replicate ((l.length : Int)).toNat 0)
    (fun k i acc h _ ha => by
      simp only [laws_toInt64S.l0]
      rw [if_pos (by omega), if_pos (by omega), if_pos (by omega), rd_nat h, wrap_succ (by omega)]
      simp)
    (fun k acc _ => by simp only [laws_toInt64S.l0]; rw [if_neg (by omega)]) (by simp) (by omega)
  simpa using h
theorem laws_toAttrs_eq {k : Nat} {a c d e : Int} {l : List Int} (hl : l.length ≤ 1048576) (hk : l.length < k) : laws_toAttrs.f k a l c d e = some (a, l, c, d, e) := by
  simp only [laws_toAttrs.f, laws_toInt64S_eq hl hk, Option.bind_some]
theorem laws_toTold_eq {k : Nat} {a b o n m l : Int} {p : List Int} (hl : p.length ≤ 1048576) (hk : p.length < k) : laws_toTold.f k a b o p n m l = some (a, b, o, p, n, m, l) := by
  simp only [laws_toTold.f, laws_toPrefix_eq, laws_toAttrs_eq hl hk, Option.bind_some]
def cvtTold (x : S248) : S214 := ⟨⟨x.f0.f0, x.f0.f1⟩, ⟨x.f1.f0, x.f1.f1, x.f1.f2, x.f1.f3, x.f1.f4⟩⟩
theorem laws_toToldS_eq {k : Nat} {l : List S248} (hl : l.length ≤ 1048576) (hp : ∀ x ∈ l, x.f1.f1.length ≤ 1048576) (hk : l.length + 1048577 < k) : laws_toToldS.f k l = some (l.map cvtTold) := by
  unfold laws_toToldS.f
  rw [if_pos (by omega), if_pos (by omega)]
  exact set_loop (L := fun k acc i => laws_toToldS.l0 k l acc i) (B := 1048577)
    (fun k i acc h hB ha => by
      have hr : rd_T248 l (i : Int) = l[i] := getD_nat h
      have hpi := hp _ (List.getElem_mem h)
      simp only [laws_toToldS.l0, hr, laws_toTold_eq hpi (show l[i].f1.f1.length < k by omega), Option.bind_some]
      rw [if_pos (by omega), if_pos (by omega), if_pos (by omega), wrap_succ (by omega)]
      rfl)
    (fun k acc _ => by simp only [laws_toToldS.l0]; rw [if_neg (by omega)]) (by simp) (by omega)
theorem laws_toLink_eq {k : Nat} {a b c d e : Int} {p : List Int} {l : List S248} (hp : p.length ≤ 1048576) (hl : l.length ≤ 1048576) (hq : ∀ x ∈ l, x.f1.f1.length ≤ 1048576) (hk : 2200000 < k) : laws_toLink.f k a b c d e p l = some (a, b, c, d, e, p, l.map cvtTold) := by
  simp only [laws_toLink.f, laws_toSession_eq, laws_toByteS_eq hp (show p.length < k by omega), laws_toToldS_eq hl hq (show l.length + 1048577 < k by omega), Option.bind_some]
def cvtLink (x : S206) : S164 := ⟨⟨x.f0.f0, x.f0.f1, x.f0.f2, x.f0.f3, x.f0.f4⟩, x.f1, x.f2.map cvtTold⟩
theorem laws_toLinkS_eq {k : Nat} {l : List S206} (hl : l.length ≤ 1048576) (hp : ∀ x ∈ l, goodL x) (hk : l.length + 2200001 < k) : laws_toLinkS.f k l = some (l.map cvtLink) := by
  unfold laws_toLinkS.f
  rw [if_pos (by omega), if_pos (by omega)]
  exact set_loop (L := fun k acc i => laws_toLinkS.l0 k l acc i) (B := 2200001)
    (fun k i acc h hB ha => by
      have hr : rd_T206 l (i : Int) = l[i] := getD_nat h
      have hpi := hp _ (List.getElem_mem h)
      simp only [laws_toLinkS.l0, hr, laws_toLink_eq hpi.1 hpi.2.1 hpi.2.2 (show 2200000 < k by omega), Option.bind_some]
      rw [if_pos (by omega), if_pos (by omega), if_pos (by omega), wrap_succ (by omega)]
      rfl)
    (fun k acc _ => by simp only [laws_toLinkS.l0]; rw [if_neg (by omega)]) (by simp) (by omega)
theorem laws_toRoute_eq {k : Nat} {q a b o n m l : Int} {p : List Int} (hl : p.length ≤ 1048576) (hk : p.length < k) : laws_toRoute.f k q a b o p n m l = some (q, a, b, o, p, n, m, l) := by
  simp only [laws_toRoute.f, laws_toPrefix_eq, laws_toAttrs_eq hl hk, Option.bind_some]
def cvtRoute (x : S210) : S169 := ⟨x.f0, ⟨x.f1.f0, x.f1.f1⟩, ⟨x.f2.f0, x.f2.f1, x.f2.f2, x.f2.f3, x.f2.f4⟩⟩
theorem laws_toRouteS_eq {k : Nat} {l : List S210} (hl : l.length ≤ 1048576) (hp : ∀ x ∈ l, x.f2.f1.length ≤ 1048576) (hk : l.length + 1048577 < k) : laws_toRouteS.f k l = some (l.map cvtRoute) := by
  unfold laws_toRouteS.f
  rw [if_pos (by omega), if_pos (by omega)]
  exact set_loop (L := fun k acc i => laws_toRouteS.l0 k l acc i) (B := 1048577)
    (fun k i acc h hB ha => by
      have hr : rd_T210 l (i : Int) = l[i] := getD_nat h
      have hpi := hp _ (List.getElem_mem h)
      simp only [laws_toRouteS.l0, hr, laws_toRoute_eq hpi (show l[i].f2.f1.length < k by omega), Option.bind_some]
      rw [if_pos (by omega), if_pos (by omega), if_pos (by omega), wrap_succ (by omega)]
      rfl)
    (fun k acc _ => by simp only [laws_toRouteS.l0]; rw [if_neg (by omega)]) (by simp) (by omega)
theorem laws_toRouter_eq {k : Nat} {a b c d : Int} {l4 l5 : List S233} {l6 : List S206} {l7 : List S210} (h : goodR l4 l5 l6 l7) (hk : 4000000 ≤ k) :
    laws_toRouter.f k a b c d l4 l5 l6 l7 = some (a, b, c, d, l4.map cvtRule, l5.map cvtRule, l6.map cvtLink, l7.map cvtRoute) := by
  obtain ⟨h4, h5, h6, h7⟩ := h
  simp only [laws_toRouter.f, laws_toSettings_eq h4 (show l4.length < k by omega) h5 (show l5.length < k by omega), laws_toLinkS_eq h6.1 h6.2 (show l6.length + 2200001 < k by omega), laws_toRouteS_eq h7.1 h7.2 (show l7.length + 1048577 < k by omega), Option.bind_some]
theorem bytes_Equal_eq (a b : List Int) : bytes_Equal.f a b = some ((strOfNums a).toList == (strOfNums b).toList) := rfl
theorem slices_Equal_int64_int64_eq {k : Nat} {a b : List Int} (hl : a.length ≤ 1048576) (hk : a.length < k) : slices_Equal_int64_int64.f k a b = some (sameL a b) := by
  unfold slices_Equal_int64_int64.f
  by_cases h : a.length = b.length
  · rw [if_pos (by omega)]
    exact zip_loop (L := fun k i => slices_Equal_int64_int64.l0 k a b (a.length : Int) i) (p := fun x y => decide (x = y)) (B := 0) h
      (fun k i h1 h2 _ => by
        simp only [slices_Equal_int64_int64.l0]
        rw [if_pos (by omega), if_pos (by omega), if_pos (by omega), if_pos (by omega), rd_nat h1, rd_nat h2, wrap_succ (by omega)]
        by_cases hx : a[i] = b[i] <;> simp [hx])
      (fun k => by simp only [slices_Equal_int64_int64.l0]; rw [if_neg (by omega)]) (by omega)
  · rw [if_neg (by omega)]
    unfold sameL zipAll
    rw [if_neg h]
theorem impl_sameAttrs_eq {k : Nat} {o : Int} {p : List Int} {n m l o' : Int} {p' : List Int} {n' m' l' : Int} (hl : p.length ≤ 1048576) (hk : p.length < k) : impl_sameAttrs.f k o p n m l o' p' n' m' l' = some (sameA o p n m l o' p' n' m' l') := by
  simp only [impl_sameAttrs.f, slices_Equal_int64_int64_eq hl hk, Option.bind_some]
  unfold sameA
  by_cases h1 : o = o' <;> cases h2 : sameL p p' <;> by_cases h3 : n = n' <;> by_cases h4 : m = m' <;> by_cases h5 : l = l' <;> simp [h1, h3, h4, h5]
theorem impl_sameTold_1_eq {k : Nat} {a b o : Int} {p : List Int} {n m l a' b' o' : Int} {p' : List Int} {n' m' l' : Int} (hl : p.length ≤ 1048576) (hk : p.length < k) : impl_sameTold_1.f k a b o p n m l a' b' o' p' n' m' l' = some (if (a == a' && (b == b')) = true then sameA o p n m l o' p' n' m' l' else false) := by
  simp only [impl_sameTold_1.f, impl_sameAttrs_eq hl hk, Option.bind_some, ite_some]
theorem impl_Told_eq {k : Nat} {a b : List S214} (hl : a.length ≤ 1048576) (hp : ∀ x ∈ a, x.f1.f1.length ≤ 1048576) (hk : a.length + 1048578 < k) : impl_Told.f k a b = some (zipAll sameT a b) := by
  unfold impl_Told.f
  by_cases h : a.length = b.length
  · rw [if_pos (by omega)]
    exact zip_loop (L := fun k i => impl_Told.l0 k b a (a.length : Int) i) (p := sameT) (B := 1048578) h
      (fun k i h1 h2 hB => by
        have hr1 : rd_T214 a (i : Int) = a[i] := getD_nat h1
        have hr2 : rd_T214 b (i : Int) = b[i] := getD_nat h2
        have hpi := hp _ (List.getElem_mem h1)
        simp only [impl_Told.l0, hr1, hr2, impl_sameTold_1_eq hpi (show a[i].f1.f1.length < k by omega), Option.bind_some]
        rw [if_pos (by omega), if_pos (by omega), if_pos (by omega), if_pos (by omega), wrap_succ (by omega)]
        rfl)
      (fun k => by simp only [impl_Told.l0]; rw [if_neg (by omega)]) (by omega)
  · rw [if_neg (by omega)]
    unfold zipAll
    rw [if_neg h]
theorem impl_sameTold_eq {k : Nat} {a b : List S214} (hl : a.length ≤ 1048576) (hp : ∀ x ∈ a, x.f1.f1.length ≤ 1048576) (hk : a.length + 1048578 < k) : impl_sameTold.f k a b = some (zipAll sameT a b) := by
  simp only [impl_sameTold.f, impl_Told_eq hl hp hk, Option.bind_some]
theorem impl_sameRouters_1_eq {k : Nat} {x y : S164} (hl : x.f2.length ≤ 1048576) (hp : ∀ z ∈ x.f2, z.f1.f1.length ≤ 1048576) (hk : x.f2.length + 1048578 < k) :
    impl_sameRouters_1.f k x.f0.f0 x.f0.f1 x.f0.f2 x.f0.f3 x.f0.f4 x.f1 x.f2 y.f0.f0 y.f0.f1 y.f0.f2 y.f0.f3 y.f0.f4 y.f1 y.f2 = some (sameLink x y) := by
  unfold impl_sameRouters_1.f sameLink
  rw [bytes_Equal_eq, impl_sameTold_eq hl hp hk]
  simp only [Option.bind_some, ite_some]
  rfl
theorem impl_Link_eq {k : Nat} {a b : List S164} (ha : okLinks a) (hk : a.length + 2200000 < k) : impl_Link.f k a b = some (zipAll sameLink a b) := by
  have ha1 := ha.1
  unfold impl_Link.f
  by_cases h : a.length = b.length
  · rw [if_pos (by omega)]
    exact zip_loop (L := fun k i => impl_Link.l0 k b a (a.length : Int) i) (p := sameLink) (B := 2200000) h
      (fun k i h1 h2 hB => by
        have hr1 : rd_T164 a (i : Int) = a[i] := getD_nat h1
        have hr2 : rd_T164 b (i : Int) = b[i] := getD_nat h2
        have hp := ha.2 _ (List.getElem_mem h1)
        have hp1 := hp.1
        simp only [impl_Link.l0, hr1, hr2]
        rw [if_pos (by omega), if_pos (by omega), if_pos (by omega), if_pos (by omega), wrap_succ (by omega), impl_sameRouters_1_eq (x := a[i]) (y := b[i]) hp.1 hp.2 (by omega)]
        rfl)
      (fun k => by simp only [impl_Link.l0]; rw [if_neg (by omega)]) (by omega)
  · rw [if_neg (by omega)]
    unfold zipAll
    rw [if_neg h]
theorem impl_sameRouters_2_eq {k : Nat} {x y : S169} (hp : x.f2.f1.length ≤ 1048576) (hk : x.f2.f1.length < k) :
    impl_sameRouters_2.f k x.f0 x.f1.f0 x.f1.f1 x.f2.f0 x.f2.f1 x.f2.f2 x.f2.f3 x.f2.f4 y.f0 y.f1.f0 y.f1.f1 y.f2.f0 y.f2.f1 y.f2.f2 y.f2.f3 y.f2.f4 = some (sameRt x y) := by
  unfold impl_sameRouters_2.f sameRt
  rw [impl_sameAttrs_eq hp hk]
  simp only [Option.bind_some, ite_some]
theorem impl_Route_eq {k : Nat} {a b : List S169} (ha : okRoutes a) (hk : a.length + 1048600 < k) : impl_Route.f k a b = some (zipAll sameRt a b) := by
  have ha1 := ha.1
  unfold impl_Route.f
  by_cases h : a.length = b.length
  · rw [if_pos (by omega)]
    exact zip_loop (L := fun k i => impl_Route.l0 k b a (a.length : Int) i) (p := sameRt) (B := 1048600) h
      (fun k i h1 h2 hB => by
        have hr1 : rd_T169 a (i : Int) = a[i] := getD_nat h1
        have hr2 : rd_T169 b (i : Int) = b[i] := getD_nat h2
        have hp := ha.2 _ (List.getElem_mem h1)
        simp only [impl_Route.l0, hr1, hr2]
        rw [if_pos (by omega), if_pos (by omega), if_pos (by omega), if_pos (by omega), wrap_succ (by omega), impl_sameRouters_2_eq (x := a[i]) (y := b[i]) hp (by omega)]
        rfl)
      (fun k => by simp only [impl_Route.l0]; rw [if_neg (by omega)]) (by omega)
  · rw [if_neg (by omega)]
    unfold zipAll
    rw [if_neg h]
theorem impl_Rule_eq {k : Nat} {a b : List S212} (hl : a.length ≤ 1048576) (hk : a.length < k) : impl_Rule.f k a b = some (zipAll sameRule a b) := by
  unfold impl_Rule.f
  by_cases h : a.length = b.length
  · rw [if_pos (by omega)]
    exact zip_loop (L := fun k i => impl_Rule.l0 k a b (a.length : Int) i) (p := sameRule) (B := 0) h
      (fun k i h1 h2 hB => by
        have hr1 : rd_T212 a (i : Int) = a[i] := getD_nat h1
        have hr2 : rd_T212 b (i : Int) = b[i] := getD_nat h2
        simp only [impl_Rule.l0, hr1, hr2]
        rw [if_pos (by omega), if_pos (by omega), if_pos (by omega), if_pos (by omega), wrap_succ (by omega)]
        exact ite_not (ruleNe a[i] b[i]) _ _)
      (fun k => by simp only [impl_Rule.l0]; rw [if_neg (by omega)]) (by omega)
  · rw [if_neg (by omega)]
    unfold zipAll
    rw [if_neg h]
theorem impl_sameSettings_eq {k : Nat} {a0 a1 a2 a3 b0 b1 b2 b3 : Int} {l4 l5 m4 m5 : List S212} (h4 : l4.length ≤ 1048576) (h5 : l5.length ≤ 1048576) (hk : 1048576 < k) :
    impl_sameSettings.f k a0 a1 a2 a3 l4 l5 b0 b1 b2 b3 m4 m5 = some ((a0 == b0 && (a1 == b1 && (a2 == b2))) && (decide (a3 = b3) && (zipAll sameRule l4 m4 && zipAll sameRule l5 m5))) := by
  unfold impl_sameSettings.f
  rw [impl_Rule_eq h4 (by omega), impl_Rule_eq h5 (by omega)]
  simp only [Option.bind_some]
  by_cases c0 : (a0 == b0 && (a1 == b1 && (a2 == b2))) = true
  · rw [if_pos c0, c0, Bool.true_and]
    by_cases c1 : a3 = b3
    · rw [if_pos c1, decide_eq_true c1, Bool.true_and]
      by_cases c2 : zipAll sameRule l4 m4 = true
      · rw [if_pos c2, c2, Bool.true_and]
      · rw [if_neg c2, Bool.eq_false_iff.2 c2, Bool.false_and]
    · rw [if_neg c1, decide_eq_false c1, Bool.false_and]
  · rw [if_neg c0, Bool.eq_false_iff.2 c0, Bool.false_and]
theorem impl_sameRouters_eq {k : Nat} {a0 a1 a2 a3 b0 b1 b2 b3 : Int} {l4 l5 m4 m5 : List S212} {l6 m6 : List S164} {l7 m7 : List S169} (h4 : l4.length ≤ 1048576) (h5 : l5.length ≤ 1048576) (h6 : okLinks l6) (h7 : okRoutes l7) (hk : 4000000 ≤ k) :
    impl_sameRouters.f k a0 a1 a2 a3 l4 l5 l6 l7 b0 b1 b2 b3 m4 m5 m6 m7 = some (sameRtr a0 a1 a2 a3 l4 l5 l6 l7 b0 b1 b2 b3 m4 m5 m6 m7) := by
  have h61 := h6.1
  have h71 := h7.1
  unfold impl_sameRouters.f sameRtr
  rw [impl_Link_eq h6 (by omega), Option.bind_some, impl_Route_eq h7 (by omega), Option.bind_some, impl_sameSettings_eq h4 h5 (by omega), Option.bind_some]
  generalize (a0 == b0 && (a1 == b1 && (a2 == b2))) = c0
  generalize decide (a3 = b3) = c1
  generalize zipAll sameRule l4 m4 = c2
  generalize zipAll sameRule l5 m5 = c3
  generalize zipAll sameLink l6 m6 = c4
  generalize zipAll sameRt l7 m7 = c5
  cases c0 <;> cases c1 <;> cases c2 <;> cases c3 <;> cases c4 <;> cases c5 <;> rfl
theorem impl_SameRouters_eq {k : Nat} {a0 a1 a2 a3 b0 b1 b2 b3 : Int} {l4 l5 m4 m5 : List S212} {l6 m6 : List S164} {l7 m7 : List S169} (h4 : l4.length ≤ 1048576) (h5 : l5.length ≤ 1048576) (h6 : okLinks l6) (h7 : okRoutes l7) (hk : 4000000 ≤ k) :
    impl_SameRouters.f k a0 a1 a2 a3 l4 l5 l6 l7 b0 b1 b2 b3 m4 m5 m6 m7 = some (sameRtr a0 a1 a2 a3 l4 l5 l6 l7 b0 b1 b2 b3 m4 m5 m6 m7) := by
  unfold impl_SameRouters.f
  rw [impl_sameRouters_eq h4 h5 h6 h7 hk]
  rfl
theorem laws_eqConfig_refl (a b c : Int) : laws_eqConfig.f a b c a b c = some true := by
  simp only [laws_eqConfig.f, if_true]
theorem laws_eqPrefix_refl (a b : Int) : laws_eqPrefix.f a b a b = some true := by
  simp only [laws_eqPrefix.f, if_true]
theorem laws_eqRule_refl (a b c d e : Int) (f : Bool) (g h : Int) : laws_eqRule.f a b c d e f g h a b c d e f g h = some true := by
  simp [laws_eqRule.f, laws_eqPrefix_refl]
theorem laws_eqRuleS_refl {k : Nat} {l : List S212} (hl : l.length ≤ 1048576) (hk : l.length < k) : laws_eqRuleS.f k l l = some true := by
  unfold laws_eqRuleS.f
  rw [if_pos rfl]
  exact all_loop (L := fun k i => laws_eqRuleS.l0 k l l i) (n := l.length) (B := 0)
    (fun k i h _ => by
      simp only [laws_eqRuleS.l0, laws_eqRule_refl, Option.bind_some]
      rw [if_pos (by omega), if_pos (by omega), if_pos (by omega)]
      simp only [if_true]
      rw [wrap_succ (by omega)])
    (fun k => by simp only [laws_eqRuleS.l0]; rw [if_neg (by omega)]) (by omega)
theorem laws_eqSettings_refl {k : Nat} {a b c d : Int} {l m : List S212} (hl : l.length ≤ 1048576) (hk : l.length < k) (hm : m.length ≤ 1048576) (hk2 : m.length < k) : laws_eqSettings.f k a b c d l m a b c d l m = some true := by
  simp only [laws_eqSettings.f, laws_eqConfig_refl, laws_eqRuleS_refl hl hk, laws_eqRuleS_refl hm hk2, Option.bind_some, if_true]
theorem laws_eqByteS_refl {k : Nat} {l : List Int} (hl : l.length ≤ 1048576) (hk : l.length < k) : laws_eqByteS.f k l l = some true := by
  unfold laws_eqByteS.f
  rw [if_pos rfl]
  exact all_loop (L := fun k i => laws_eqByteS.l0 k l l i) (n := l.length) (B := 0)
    (fun k i h _ => by
      simp only [laws_eqByteS.l0]
      rw [if_pos (by omega), if_pos (by omega), if_pos (by omega)]
      simp only [if_true]
      rw [wrap_succ (by omega)])
    (fun k => by simp only [laws_eqByteS.l0]; rw [if_neg (by omega)]) (by omega)
theorem laws_eqSession_refl (a b c d e : Int) : laws_eqSession.f a b c d e a b c d e = some true := by simp [laws_eqSession.f]
theorem laws_eqInt64S_refl {k : Nat} {l : List Int} (hl : l.length ≤ 1048576) (hk : l.length < k) : laws_eqInt64S.f k l l = some true := by
  unfold laws_eqInt64S.f
  rw [if_pos rfl]
  exact all_loop (L := fun k i => laws_eqInt64S.l0 k l l i) (n := l.length) (B := 0)
    (fun k i h _ => by
      simp only [laws_eqInt64S.l0]
      rw [if_pos (by omega), if_pos (by omega), if_pos (by omega)]
      simp only [if_true]
      rw [wrap_succ (by omega)])
    (fun k => by simp only [laws_eqInt64S.l0]; rw [if_neg (by omega)]) (by omega)
theorem laws_eqAttrs_refl {k : Nat} {a c d e : Int} {l : List Int} (hl : l.length ≤ 1048576) (hk : l.length < k) : laws_eqAttrs.f k a l c d e a l c d e = some true := by
  simp only [laws_eqAttrs.f, laws_eqInt64S_refl hl hk, Option.bind_some, if_true]
theorem laws_eqTold_refl {k : Nat} {a b o n m l : Int} {p : List Int} (hl : p.length ≤ 1048576) (hk : p.length < k) : laws_eqTold.f k a b o p n m l a b o p n m l = some true := by
  simp only [laws_eqTold.f, laws_eqPrefix_refl, laws_eqAttrs_refl hl hk, Option.bind_some, if_true]
theorem laws_eqToldS_refl {k : Nat} {l : List S214} (hl : l.length ≤ 1048576) (hp : ∀ x ∈ l, x.f1.f1.length ≤ 1048576) (hk : l.length + 1048577 < k) : laws_eqToldS.f k l l = some true := by
  unfold laws_eqToldS.f
  rw [if_pos rfl]
  exact all_loop (L := fun k i => laws_eqToldS.l0 k l l i) (n := l.length) (B := 1048577)
    (fun k i h hB => by
      have hr : rd_T214 l (i : Int) = l[i] := getD_nat h
      have hpi := hp _ (List.getElem_mem h)
      simp only [laws_eqToldS.l0, hr, laws_eqTold_refl hpi (show l[i].f1.f1.length < k by omega), Option.bind_some]
      rw [if_pos (by omega), if_pos (by omega), if_pos (by omega)]
      simp only [if_true]
      rw [wrap_succ (by omega)])
    (fun k => by simp only [laws_eqToldS.l0]; rw [if_neg (by omega)]) (by omega)
theorem laws_eqLink_refl {k : Nat} {a b c d e : Int} {p : List Int} {l : List S214} (hp : p.length ≤ 1048576) (hl : l.length ≤ 1048576) (hq : ∀ x ∈ l, x.f1.f1.length ≤ 1048576) (hk : 2200000 < k) : laws_eqLink.f k a b c d e p l a b c d e p l = some true := by
  simp only [laws_eqLink.f, laws_eqSession_refl, laws_eqByteS_refl hp (show p.length < k by omega), laws_eqToldS_refl hl hq (show l.length + 1048577 < k by omega), Option.bind_some, if_true]
theorem laws_eqLinkS_refl {k : Nat} {l : List S164} (hl : okLinks l) (hp : ∀ x ∈ l, x.f1.length ≤ 1048576) (hk : l.length + 2200001 < k) : laws_eqLinkS.f k l l = some true := by
  have hl1 := hl.1
  unfold laws_eqLinkS.f
  rw [if_pos rfl]
  exact all_loop (L := fun k i => laws_eqLinkS.l0 k l l i) (n := l.length) (B := 2200001)
    (fun k i h hB => by
      have hr : rd_T164 l (i : Int) = l[i] := getD_nat h
      have hm := List.getElem_mem h
      simp only [laws_eqLinkS.l0, hr, laws_eqLink_refl (hp _ hm) (hl.2 _ hm).1 (hl.2 _ hm).2 (show 2200000 < k by omega), Option.bind_some]
      rw [if_pos (by omega), if_pos (by omega), if_pos (by omega)]
      simp only [if_true]
      rw [wrap_succ (by omega)])
    (fun k => by simp only [laws_eqLinkS.l0]; rw [if_neg (by omega)]) (by omega)
theorem laws_eqRoute_refl {k : Nat} {q a b o n m l : Int} {p : List Int} (hl : p.length ≤ 1048576) (hk : p.length < k) : laws_eqRoute.f k q a b o p n m l q a b o p n m l = some true := by
  simp only [laws_eqRoute.f, laws_eqPrefix_refl, laws_eqAttrs_refl hl hk, Option.bind_some, if_true]
theorem laws_eqRouteS_refl {k : Nat} {l : List S169} (hl : l.length ≤ 1048576) (hp : ∀ x ∈ l, x.f2.f1.length ≤ 1048576) (hk : l.length + 1048577 < k) : laws_eqRouteS.f k l l = some true := by
  unfold laws_eqRouteS.f
  rw [if_pos rfl]
  exact all_loop (L := fun k i => laws_eqRouteS.l0 k l l i) (n := l.length) (B := 1048577)
    (fun k i h hB => by
      have hr : rd_T169 l (i : Int) = l[i] := getD_nat h
      have hpi := hp _ (List.getElem_mem h)
      simp only [laws_eqRouteS.l0, hr, laws_eqRoute_refl hpi (show l[i].f2.f1.length < k by omega), Option.bind_some]
      rw [if_pos (by omega), if_pos (by omega), if_pos (by omega)]
      simp only [if_true]
      rw [wrap_succ (by omega)])
    (fun k => by simp only [laws_eqRouteS.l0]; rw [if_neg (by omega)]) (by omega)
theorem laws_eqRouter_refl {k : Nat} {a b c d : Int} {l4 l5 : List S212} {l6 : List S164} {l7 : List S169} (h4 : l4.length ≤ 1048576) (h5 : l5.length ≤ 1048576) (h6 : okLinks l6) (hp : ∀ x ∈ l6, x.f1.length ≤ 1048576) (h7 : okRoutes l7) (hk : 4000000 ≤ k) :
    laws_eqRouter.f k a b c d l4 l5 l6 l7 a b c d l4 l5 l6 l7 = some true := by
  have h61 := h6.1
  have h71 := h7.1
  simp only [laws_eqRouter.f, laws_eqSettings_refl h4 (show l4.length < k by omega) h5 (show l5.length < k by omega), laws_eqLinkS_refl h6 hp (show l6.length + 2200001 < k by omega), laws_eqRouteS_refl h7.1 h7.2 (show l7.length + 1048577 < k by omega), Option.bind_some, if_true]
theorem goodR_cvt {l4 l5 : List S233} {l6 : List S206} {l7 : List S210} (h : goodR l4 l5 l6 l7) : (l4.map cvtRule).length ≤ 1048576 ∧ (l5.map cvtRule).length ≤ 1048576 ∧ okLinks (l6.map cvtLink) ∧ (∀ x ∈ l6.map cvtLink, x.f1.length ≤ 1048576) ∧ okRoutes (l7.map cvtRoute) := by
  obtain ⟨h4, h5, h6, h7⟩ := h
  refine ⟨by simpa using h4, by simpa using h5, ⟨by simpa using h6.1, fun x hx => ?_⟩, fun x hx => ?_, ⟨by simpa using h7.1, fun x hx => ?_⟩⟩
  · obtain ⟨y, hy, rfl⟩ := List.mem_map.1 hx
    have g := h6.2 y hy
    refine ⟨by show (y.f2.map cvtTold).length ≤ _; simpa using g.2.1, fun z hz => ?_⟩
    obtain ⟨u, hu, rfl⟩ := List.mem_map.1 hz
    exact g.2.2 u hu
  · obtain ⟨y, hy, rfl⟩ := List.mem_map.1 hx
    exact (h6.2 y hy).1
  · obtain ⟨y, hy, rfl⟩ := List.mem_map.1 hx
    exact h7.2 y hy
theorem FnExactSameRouters (a0_0 : Int) (a0_1 : Int) (a0_2 : Int) (a0_3 : Int) (l0_4 : List S233) (l0_5 : List S233) (l0_6 : List S206) (l0_7 : List S210) (a1_0 : Int) (a1_1 : Int) (a1_2 : Int) (a1_3 : Int) (l1_4 : List S233) (l1_5 : List S233) (l1_6 : List S206) (l1_7 : List S210)
    (w0_0 : (Lit.int .i64 a0_0).wf = true) (w0_1 : (Lit.int .i64 a0_1).wf = true) (w0_2 : (Lit.int .i64 a0_2).wf = true) (w0_3 : (Lit.int .i64 a0_3).wf = true) (w0_4 : (l0_4.length ≤ maxLen ∧ ∀ z7 ∈ l0_4, (((Lit.int .i64 z7.f0.f0).wf = true) ∧ ((Lit.int .i64 z7.f0.f1).wf = true)) ∧ ((Lit.int .i64 z7.f1).wf = true) ∧ ((Lit.int .i64 z7.f2).wf = true) ∧ ((Lit.int .i64 z7.f3).wf = true) ∧ (True) ∧ ((Lit.int .i64 z7.f5).wf = true) ∧ ((Lit.int .i64 z7.f6).wf = true))) (w0_5 : (l0_5.length ≤ maxLen ∧ ∀ z8 ∈ l0_5, (((Lit.int .i64 z8.f0.f0).wf = true) ∧ ((Lit.int .i64 z8.f0.f1).wf = true)) ∧ ((Lit.int .i64 z8.f1).wf = true) ∧ ((Lit.int .i64 z8.f2).wf = true) ∧ ((Lit.int .i64 z8.f3).wf = true) ∧ (True) ∧ ((Lit.int .i64 z8.f5).wf = true) ∧ ((Lit.int .i64 z8.f6).wf = true))) (w0_6 : (l0_6.length ≤ maxLen ∧ ∀ z9 ∈ l0_6, (((Lit.int .i64 z9.f0.f0).wf = true) ∧ ((Lit.int .i64 z9.f0.f1).wf = true) ∧ ((Lit.int .i64 z9.f0.f2).wf = true) ∧ ((Lit.int .i64 z9.f0.f3).wf = true) ∧ ((Lit.int .i64 z9.f0.f4).wf = true)) ∧ ((z9.f1.length ≤ maxLen ∧ ∀ z10 ∈ z9.f1, (Lit.int .u8 z10).wf = true)) ∧ ((z9.f2.length ≤ maxLen ∧ ∀ z11 ∈ z9.f2, (((Lit.int .i64 z11.f0.f0).wf = true) ∧ ((Lit.int .i64 z11.f0.f1).wf = true)) ∧ (((Lit.int .i64 z11.f1.f0).wf = true) ∧ ((z11.f1.f1.length ≤ maxLen ∧ ∀ z12 ∈ z11.f1.f1, (Lit.int .i64 z12).wf = true)) ∧ ((Lit.int .i64 z11.f1.f2).wf = true) ∧ ((Lit.int .i64 z11.f1.f3).wf = true) ∧ ((Lit.int .i64 z11.f1.f4).wf = true)))))) (w0_7 : (l0_7.length ≤ maxLen ∧ ∀ z13 ∈ l0_7, ((Lit.int .i64 z13.f0).wf = true) ∧ (((Lit.int .i64 z13.f1.f0).wf = true) ∧ ((Lit.int .i64 z13.f1.f1).wf = true)) ∧ (((Lit.int .i64 z13.f2.f0).wf = true) ∧ ((z13.f2.f1.length ≤ maxLen ∧ ∀ z14 ∈ z13.f2.f1, (Lit.int .i64 z14).wf = true)) ∧ ((Lit.int .i64 z13.f2.f2).wf = true) ∧ ((Lit.int .i64 z13.f2.f3).wf = true) ∧ ((Lit.int .i64 z13.f2.f4).wf = true)))) (w1_0 : (Lit.int .i64 a1_0).wf = true) (w1_1 : (Lit.int .i64 a1_1).wf = true) (w1_2 : (Lit.int .i64 a1_2).wf = true) (w1_3 : (Lit.int .i64 a1_3).wf = true) (w1_4 : (l1_4.length ≤ maxLen ∧ ∀ z15 ∈ l1_4, (((Lit.int .i64 z15.f0.f0).wf = true) ∧ ((Lit.int .i64 z15.f0.f1).wf = true)) ∧ ((Lit.int .i64 z15.f1).wf = true) ∧ ((Lit.int .i64 z15.f2).wf = true) ∧ ((Lit.int .i64 z15.f3).wf = true) ∧ (True) ∧ ((Lit.int .i64 z15.f5).wf = true) ∧ ((Lit.int .i64 z15.f6).wf = true))) (w1_5 : (l1_5.length ≤ maxLen ∧ ∀ z16 ∈ l1_5, (((Lit.int .i64 z16.f0.f0).wf = true) ∧ ((Lit.int .i64 z16.f0.f1).wf = true)) ∧ ((Lit.int .i64 z16.f1).wf = true) ∧ ((Lit.int .i64 z16.f2).wf = true) ∧ ((Lit.int .i64 z16.f3).wf = true) ∧ (True) ∧ ((Lit.int .i64 z16.f5).wf = true) ∧ ((Lit.int .i64 z16.f6).wf = true))) (w1_6 : (l1_6.length ≤ maxLen ∧ ∀ z17 ∈ l1_6, (((Lit.int .i64 z17.f0.f0).wf = true) ∧ ((Lit.int .i64 z17.f0.f1).wf = true) ∧ ((Lit.int .i64 z17.f0.f2).wf = true) ∧ ((Lit.int .i64 z17.f0.f3).wf = true) ∧ ((Lit.int .i64 z17.f0.f4).wf = true)) ∧ ((z17.f1.length ≤ maxLen ∧ ∀ z18 ∈ z17.f1, (Lit.int .u8 z18).wf = true)) ∧ ((z17.f2.length ≤ maxLen ∧ ∀ z19 ∈ z17.f2, (((Lit.int .i64 z19.f0.f0).wf = true) ∧ ((Lit.int .i64 z19.f0.f1).wf = true)) ∧ (((Lit.int .i64 z19.f1.f0).wf = true) ∧ ((z19.f1.f1.length ≤ maxLen ∧ ∀ z20 ∈ z19.f1.f1, (Lit.int .i64 z20).wf = true)) ∧ ((Lit.int .i64 z19.f1.f2).wf = true) ∧ ((Lit.int .i64 z19.f1.f3).wf = true) ∧ ((Lit.int .i64 z19.f1.f4).wf = true)))))) (w1_7 : (l1_7.length ≤ maxLen ∧ ∀ z21 ∈ l1_7, ((Lit.int .i64 z21.f0).wf = true) ∧ (((Lit.int .i64 z21.f1.f0).wf = true) ∧ ((Lit.int .i64 z21.f1.f1).wf = true)) ∧ (((Lit.int .i64 z21.f2.f0).wf = true) ∧ ((z21.f2.f1.length ≤ maxLen ∧ ∀ z22 ∈ z21.f2.f1, (Lit.int .i64 z22).wf = true)) ∧ ((Lit.int .i64 z21.f2.f2).wf = true) ∧ ((Lit.int .i64 z21.f2.f3).wf = true) ∧ ((Lit.int .i64 z21.f2.f4).wf = true)))) :
    ∃ k, laws_FnExactSameRouters.f k a0_0 a0_1 a0_2 a0_3 l0_4 l0_5 l0_6 l0_7 a1_0 a1_1 a1_2 a1_3 l1_4 l1_5 l1_6 l1_7 = some true := by
  have mL : ∀ {l : List S206}, (∀ z ∈ l, z.f1.length ≤ maxLen ∧ z.f2.length ≤ maxLen ∧ ∀ y ∈ z.f2, y.f1.f1.length ≤ maxLen) → ∀ x ∈ l, maxL x := fun h x hx => h x hx
  obtain ⟨k, hk⟩ : ∃ k : Nat, 4000000 ≤ k := ⟨_, Nat.le_refl _⟩
  refine ⟨k, ?_⟩
  obtain ⟨t, e1, t0, t1, tg⟩ := laws_szRouter_ex (k := k) (a := a0_0) (b := a0_1) (c := a0_2) (d := a0_3) w0_4.1 w0_5.1 w0_6.1 (mL fun z hz => ⟨(w0_6.2 z hz).2.1.1, (w0_6.2 z hz).2.2.1, fun y hy => ((w0_6.2 z hz).2.2.2 y hy).2.2.1.1⟩) w0_7.1 (fun z hz => (w0_7.2 z hz).2.2.2.1.1) (e := 1048576) (by decide) (by decide) (by omega)
  unfold laws_FnExactSameRouters.f
  refine B.bind_of e1 ?_
  by_cases h : t < 0
  · rw [if_pos h]
  · rw [if_neg h]
    obtain ⟨u, e2, u0, u1, ug⟩ := laws_szRouter_ex (k := k) (a := a1_0) (b := a1_1) (c := a1_2) (d := a1_3) w1_4.1 w1_5.1 w1_6.1 (mL fun z hz => ⟨(w1_6.2 z hz).2.1.1, (w1_6.2 z hz).2.2.1, fun y hy => ((w1_6.2 z hz).2.2.2 y hy).2.2.1.1⟩) w1_7.1 (fun z hz => (w1_7.2 z hz).2.2.2.1.1) (e := t) t0 t1 (by omega)
    refine B.bind_of e2 ?_
    by_cases h2 : u < 0
    · rw [if_pos h2]
    · rw [if_neg h2]
      have g0 := tg (by omega)
      have g1 := ug (by omega)
      have r0 := laws_toRouter_eq (k := k) (a := a0_0) (b := a0_1) (c := a0_2) (d := a0_3) g0 hk
      have r1 := laws_toRouter_eq (k := k) (a := a1_0) (b := a1_1) (c := a1_2) (d := a1_3) g1 hk
      obtain ⟨p1, p2, p3, p4, p5⟩ := goodR_cvt g0
      obtain ⟨q1, q2, q3, q4, q5⟩ := goodR_cvt g1
      have eS := spec_SameRouters_eq (a0 := a0_0) (a1 := a0_1) (a2 := a0_2) (a3 := a0_3) (b0 := a1_0) (b1 := a1_1) (b2 := a1_2) (b3 := a1_3) (m4 := l1_4.map cvtRule) (m5 := l1_5.map cvtRule) (m6 := l1_6.map cvtLink) (m7 := l1_7.map cvtRoute) p1 p2 p3 p5 hk
      have eI := impl_SameRouters_eq (a0 := a0_0) (a1 := a0_1) (a2 := a0_2) (a3 := a0_3) (b0 := a1_0) (b1 := a1_1) (b2 := a1_2) (b3 := a1_3) (m4 := l1_4.map cvtRule) (m5 := l1_5.map cvtRule) (m6 := l1_6.map cvtLink) (m7 := l1_7.map cvtRoute) p1 p2 p3 p5 hk
      have eQ0 := laws_eqRouter_refl (a := a0_0) (b := a0_1) (c := a0_2) (d := a0_3) p1 p2 p3 p4 p5 hk
      have eQ1 := laws_eqRouter_refl (a := a1_0) (b := a1_1) (c := a1_2) (d := a1_3) q1 q2 q3 q4 q5 hk
      refine B.bind_of r0 (B.bind_of r1 (B.bind_of eS (B.bind_of r0 (B.bind_of r1 (B.bind_of eI ?_)))))
      rw [bne_self_eq_false, if_neg (by decide)]
      refine B.bind_of r0 (B.bind_of eQ0 ?_)
      rw [if_pos rfl]
      refine B.bind_of r1 (B.bind_of eQ1 ?_)
      rw [if_pos rfl]
end Go.Proofs.Ythmkjapmnlhflaa.Pure
