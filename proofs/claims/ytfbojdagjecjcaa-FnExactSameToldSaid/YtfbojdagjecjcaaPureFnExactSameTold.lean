/- The pure part of the law FnExactSameTold: what the printed functions compute, in closed form, and that the law's answer is true. -/
import Derived.Test.YtfbojdagjecjcaaXFnExactSameToldx2
import Derived.Test.YtfbojdagjecjcaaXFnExactSameToldx3
import Derived.Test.YtfbojdagjecjcaaXFnExactSameToldx4
import Derived.Test.YtfbojdagjecjcaaXFnExactSameToldx5
import Derived.Test.YtfbojdagjecjcaaXFnExactSameToldx6
import Derived.Test.YtfbojdagjecjcaaXFnExactSameToldx7
import Derived.Test.YtfbojdagjecjcaaXFnExactSameToldx8
import Derived.Test.YtfbojdagjecjcaaXFnExactSameToldx9
import Derived.Test.YtfbojdagjecjcaaBase
namespace Go.Proofs.Ytfbojdagjecjcaa.Pure
open Go.RowKit Go.Proofs.Ytfbojdagjecjcaa.PFnExactSameTold Go.Proofs.YtfbojdagjecjcaaW.PrintWords Go.Proofs.YtfbojdagjecjcaaW.PrintLast Go.Proofs.YtfbojdagjecjcaaW.PrintMore Go.Proofs.Ytfbojdagjecjcaa.B
set_option linter.unusedVariables false
set_option linter.unusedSimpArgs false

theorem laws_szInt64S_eq {l : List Int} {a : Int} (hl : l.length ≤ maxLen) (h0 : -1 ≤ a) (h1 : a ≤ 1048576) : laws_szInt64S.f l a = some (szB a l.length) := szB_eq h0 h1 hl

theorem laws_szAttrs_eq {a c d e : Int} {l : List Int} {b : Int} (hl : l.length ≤ maxLen) (h0 : -1 ≤ b) (h1 : b ≤ 1048576) : laws_szAttrs.f a l c d e b = some (szB b l.length) := by
  simp only [laws_szAttrs.f, laws_szInt64S_eq hl h0 h1, Option.bind_some, szB_again]

theorem laws_szTold_eq {a b o n m l : Int} {p : List Int} {c : Int} (hl : p.length ≤ maxLen) (h0 : -1 ≤ c) (h1 : c ≤ 1048576) : laws_szTold.f a b o p n m l c = some (szB c p.length) := by
  simp only [laws_szTold.f, laws_szAttrs_eq hl h0 h1, Option.bind_some, szB_again]

theorem laws_szToldS_eq {k : Nat} {l : List S136} {a : Int} (hl : l.length ≤ maxLen) (hp : ∀ x ∈ l, x.f1.f1.length ≤ maxLen) (h0 : -1 ≤ a) (h1 : a ≤ 1048576) (hk : 1048578 < k) : laws_szToldS.f k l a = some (szS (fun x => x.f1.f1.length) a l) := by
  unfold laws_szToldS.f szS
  have e := szB_eq h0 h1 hl
  have hb := szB_bound (left := a) (n := l.length) h1
  have hw : wrap64 (a - (l.length : Int)) = a - (l.length : Int) := by
    unfold maxLen at hl
    exact wrap_id (by omega) (by omega)
  rw [hw]
  clear e hw
  by_cases h : a - (l.length : Int) < 0
  · rw [if_pos h, if_pos (by unfold szB; rw [if_pos h]; decide)]
  · have hs : szB a l.length = a - (l.length : Int) := by unfold szB; rw [if_neg h]
    rw [if_neg h, hs, if_neg h]
    refine Eq.trans ?_ (congrArg some (run_szL (fun x : S136 => x.f1.f1.length) l 0 (a - (l.length : Int))))
    exact run_loop (L := fun k s i => laws_szToldS.l0 k l s i) (fun _ s => -1 ≤ s ∧ s ≤ 1048576) (B := 0)
      (fun k i s h _ hi => by
        have hr : rd_T136 l (i : Int) = l[i] := getD_nat h
        simp only [laws_szToldS.l0, hr, laws_szTold_eq (hp _ (List.getElem_mem h)) hi.1 hi.2, Option.bind_some]
        rw [if_pos (by omega), if_pos (by omega), wrap_succ (by omega)]
        by_cases hn : szB s l[i].f1.f1.length < 0
        · rw [if_pos hn, if_pos hn]
        · rw [if_neg hn, if_neg hn])
      (fun i s s' h hi e => by
        by_cases hn : szB s l[i].f1.f1.length < 0
        · rw [if_pos hn] at e; cases e
        · rw [if_neg hn] at e
          injection e with e
          exact e ▸ szB_bound hi.2)
      (fun k s _ => by simp only [laws_szToldS.l0]; rw [if_neg (by omega)]; rfl) ⟨by omega, by omega⟩ (by omega)

theorem spec_SameAttrs_eq {k : Nat} {o : Int} {p : List Int} {n m l o' : Int} {p' : List Int} {n' m' l' : Int} (hl : p.length ≤ 1048576) (hk : p.length + 1 < k) : spec_SameAttrs.f k o p n m l o' p' n' m' l' = some (sameA o p n m l o' p' n' m' l') := by
  obtain ⟨k, rfl⟩ : ∃ m, k = m + 1 := ⟨k - 1, by omega⟩
  simp only [spec_SameAttrs.f, spec_SameAttrs.j0]
  unfold sameA
  by_cases h1 : o = o'
  · by_cases h3 : n = n'
    · by_cases h4 : m = m'
      · by_cases h5 : l = l'
        · by_cases h : p.length = p'.length
          · have hb : ((p.length : Int) != (p'.length : Int)) = false := by simp [h]
            rw [if_pos h1, if_pos h3, if_pos h4, if_pos h5, hb]
            simp only [Bool.false_eq_true, if_false]
            have e := zip_loop (L := fun k i => spec_SameAttrs.l0 k i o p n m l o' p' n' m' l') (p := fun x y => decide (x = y)) (B := 0) (k := k) h
              (fun k i h1 h2 _ => by
                simp only [spec_SameAttrs.l0]
                rw [if_pos (by omega), if_pos (by omega), if_pos (by omega), rd_nat h1, rd_nat h2, wrap_succ (by omega)]
                by_cases hx : p[i] = p'[i] <;> simp [hx])
              (fun k => by simp only [spec_SameAttrs.l0]; rw [if_neg (by omega)]) (by omega)
            rw [e]
            unfold sameL
            simp [h1, h3, h4, h5]
          · have hb : ((p.length : Int) != (p'.length : Int)) = true := by simp; omega
            rw [if_pos h1, if_pos h3, if_pos h4, if_pos h5, hb]
            unfold sameL zipAll
            simp [h]
        · simp [h1, h3, h4, h5]
      · simp [h1, h3, h4]
    · simp [h1, h3]
  · simp [h1]

def sameT (x y : S138) : Bool := if (x.f0.f0 == y.f0.f0 && (x.f0.f1 == y.f0.f1)) = true then sameA x.f1.f0 x.f1.f1 x.f1.f2 x.f1.f3 x.f1.f4 y.f1.f0 y.f1.f1 y.f1.f2 y.f1.f3 y.f1.f4 else false
theorem spec_SameTold_eq {k : Nat} {a b : List S138} (hl : a.length ≤ 1048576) (hp : ∀ x ∈ a, x.f1.f1.length ≤ 1048576) (hk : a.length + 1048578 < k) : spec_SameTold.f k a b = some (zipAll sameT a b) := by
  unfold spec_SameTold.f
  by_cases h : a.length = b.length
  · rw [if_pos (by omega)]
    exact zip_loop (L := fun k i => spec_SameTold.l0 k a b i) (p := sameT) (B := 1048578) h
      (fun k i h1 h2 hB => by
        have hr1 : rd_T138 a (i : Int) = a[i] := getD_nat h1
        have hr2 : rd_T138 b (i : Int) = b[i] := getD_nat h2
        have hpi := hp _ (List.getElem_mem h1)
        simp only [spec_SameTold.l0, hr1, hr2, spec_SameAttrs_eq hpi (show a[i].f1.f1.length + 1 < k by omega), Option.bind_some]
        rw [if_pos (by omega), if_pos (by omega), if_pos (by omega), wrap_succ (by omega)]
        unfold sameT
        by_cases e1 : a[i].f0.f0 = b[i].f0.f0
        · by_cases e2 : a[i].f0.f1 = b[i].f0.f1
          · simp [e1, e2]
          · simp [e1, e2]
        · simp [e1])
      (fun k => by simp only [spec_SameTold.l0]; rw [if_neg (by omega)]) (by omega)
  · rw [if_neg (by omega)]
    unfold zipAll
    rw [if_neg h]

theorem laws_toInt64S_eq {k : Nat} {l : List Int} (hl : l.length ≤ 1048576) (hk : l.length < k) : laws_toInt64S.f k l = some l := by
  unfold laws_toInt64S.f
  rw [if_pos (by omega), if_pos (by omega)]
  have h := set_loop (L := fun k acc i => laws_toInt64S.l0 k l acc i) (xs := l) (f := fun x => x) (B := 0) (k := k) (acc := List.replicate ((l.length : Int)).toNat 0)
    (fun k i acc h _ ha => by
      simp only [laws_toInt64S.l0]
      rw [if_pos (by omega), if_pos (by omega), if_pos (by omega), rd_nat h, wrap_succ (by omega)]
      simp)
    (fun k acc _ => by simp only [laws_toInt64S.l0]; rw [if_neg (by omega)]) (by simp) (by omega)
  simpa using h

theorem laws_toAttrs_eq {k : Nat} {a c d e : Int} {l : List Int} (hl : l.length ≤ 1048576) (hk : l.length < k) : laws_toAttrs.f k a l c d e = some (a, l, c, d, e) := by
  simp only [laws_toAttrs.f, laws_toInt64S_eq hl hk, Option.bind_some]

theorem laws_toPrefix_eq (a b : Int) : laws_toPrefix.f a b = some (a, b) := rfl

theorem laws_toTold_eq {k : Nat} {a b o n m l : Int} {p : List Int} (hl : p.length ≤ 1048576) (hk : p.length < k) : laws_toTold.f k a b o p n m l = some (a, b, o, p, n, m, l) := by
  simp only [laws_toTold.f, laws_toPrefix_eq, laws_toAttrs_eq hl hk, Option.bind_some]

def cvtTold (x : S136) : S138 := ⟨⟨x.f0.f0, x.f0.f1⟩, ⟨x.f1.f0, x.f1.f1, x.f1.f2, x.f1.f3, x.f1.f4⟩⟩
theorem laws_toToldS_eq {k : Nat} {l : List S136} (hl : l.length ≤ 1048576) (hp : ∀ x ∈ l, x.f1.f1.length ≤ 1048576) (hk : l.length + 1048577 < k) : laws_toToldS.f k l = some (l.map cvtTold) := by
  unfold laws_toToldS.f
  rw [if_pos (by omega), if_pos (by omega)]
  exact set_loop (L := fun k acc i => laws_toToldS.l0 k l acc i) (B := 1048577)
    (fun k i acc h hB ha => by
      have hr : rd_T136 l (i : Int) = l[i] := getD_nat h
      have hpi := hp _ (List.getElem_mem h)
      simp only [laws_toToldS.l0, hr, laws_toTold_eq hpi (show l[i].f1.f1.length < k by omega), Option.bind_some]
      rw [if_pos (by omega), if_pos (by omega), if_pos (by omega), wrap_succ (by omega)]
      rfl)
    (fun k acc _ => by simp only [laws_toToldS.l0]; rw [if_neg (by omega)]) (by simp) (by omega)

theorem slices_Equal_int64_int64_eq {k : Nat} {a b : List Int} (hl : a.length ≤ 1048576) (hk : a.length < k) : slices_Equal_int64_int64.f k a b = some (sameL a b) := by
  unfold slices_Equal_int64_int64.f
  by_cases h : a.length = b.length
  · rw [if_pos (by omega)]
    exact zip_loop (L := fun k i => slices_Equal_int64_int64.l0 k a b (a.length : Int) i) (p := fun x y => decide (x = y)) (B := 0) h
      (fun k i h1 h2 _ => by
        simp only [slices_Equal_int64_int64.l0]
        rw [if_pos (by omega), if_pos (by omega), if_pos (by omega), if_pos (by omega), rd_nat h1, rd_nat h2, wrap_succ (by omega)]
        by_cases hx : a[i] = b[i] <;> simp [hx])
      (fun k => by simp only [slices_Equal_int64_int64.l0]; rw [if_neg (by omega)]) (by omega)
  · rw [if_neg (by omega)]
    unfold sameL zipAll
    rw [if_neg h]

theorem impl_sameAttrs_eq {k : Nat} {o : Int} {p : List Int} {n m l o' : Int} {p' : List Int} {n' m' l' : Int} (hl : p.length ≤ 1048576) (hk : p.length < k) : impl_sameAttrs.f k o p n m l o' p' n' m' l' = some (sameA o p n m l o' p' n' m' l') := by
  simp only [impl_sameAttrs.f, slices_Equal_int64_int64_eq hl hk, Option.bind_some]
  unfold sameA
  by_cases h1 : o = o' <;> cases h2 : sameL p p' <;> by_cases h3 : n = n' <;> by_cases h4 : m = m' <;> by_cases h5 : l = l' <;> simp [h1, h3, h4, h5]

theorem impl_sameTold_1_eq {k : Nat} {a b o : Int} {p : List Int} {n m l a' b' o' : Int} {p' : List Int} {n' m' l' : Int} (hl : p.length ≤ 1048576) (hk : p.length < k) : impl_sameTold_1.f k a b o p n m l a' b' o' p' n' m' l' = some (if (a == a' && (b == b')) = true then sameA o p n m l o' p' n' m' l' else false) := by
  simp only [impl_sameTold_1.f, impl_sameAttrs_eq hl hk, Option.bind_some, ite_some]

theorem impl_Told_eq {k : Nat} {a b : List S138} (hl : a.length ≤ 1048576) (hp : ∀ x ∈ a, x.f1.f1.length ≤ 1048576) (hk : a.length + 1048578 < k) : impl_Told.f k a b = some (zipAll sameT a b) := by
  unfold impl_Told.f
  by_cases h : a.length = b.length
  · rw [if_pos (by omega)]
    exact zip_loop (L := fun k i => impl_Told.l0 k b a (a.length : Int) i) (p := sameT) (B := 1048578) h
      (fun k i h1 h2 hB => by
        have hr1 : rd_T138 a (i : Int) = a[i] := getD_nat h1
        have hr2 : rd_T138 b (i : Int) = b[i] := getD_nat h2
        have hpi := hp _ (List.getElem_mem h1)
        simp only [impl_Told.l0, hr1, hr2, impl_sameTold_1_eq hpi (show a[i].f1.f1.length < k by omega), Option.bind_some]
        rw [if_pos (by omega), if_pos (by omega), if_pos (by omega), if_pos (by omega), wrap_succ (by omega)]
        rfl)
      (fun k => by simp only [impl_Told.l0]; rw [if_neg (by omega)]) (by omega)
  · rw [if_neg (by omega)]
    unfold zipAll
    rw [if_neg h]

theorem impl_sameTold_eq {k : Nat} {a b : List S138} (hl : a.length ≤ 1048576) (hp : ∀ x ∈ a, x.f1.f1.length ≤ 1048576) (hk : a.length + 1048578 < k) : impl_sameTold.f k a b = some (zipAll sameT a b) := by
  simp only [impl_sameTold.f, impl_Told_eq hl hp hk, Option.bind_some]

theorem impl_SameTold_eq {k : Nat} {a b : List S138} (hl : a.length ≤ 1048576) (hp : ∀ x ∈ a, x.f1.f1.length ≤ 1048576) (hk : a.length + 1048578 < k) : impl_SameTold.f k a b = some (zipAll sameT a b) := by
  simp only [impl_SameTold.f, impl_sameTold_eq hl hp hk, Option.bind_some]

theorem laws_eqInt64S_refl {k : Nat} {l : List Int} (hl : l.length ≤ 1048576) (hk : l.length < k) : laws_eqInt64S.f k l l = some true := by
  unfold laws_eqInt64S.f
  rw [if_pos rfl]
  exact all_loop (L := fun k i => laws_eqInt64S.l0 k l l i) (n := l.length) (B := 0)
    (fun k i h _ => by
      simp only [laws_eqInt64S.l0]
      rw [if_pos (by omega), if_pos (by omega), if_pos (by omega)]
      simp only [if_true]
      rw [wrap_succ (by omega)])
    (fun k => by simp only [laws_eqInt64S.l0]; rw [if_neg (by omega)]) (by omega)

theorem laws_eqAttrs_refl {k : Nat} {a c d e : Int} {l : List Int} (hl : l.length ≤ 1048576) (hk : l.length < k) : laws_eqAttrs.f k a l c d e a l c d e = some true := by
  simp only [laws_eqAttrs.f, laws_eqInt64S_refl hl hk, Option.bind_some, if_true]

theorem laws_eqPrefix_refl (a b : Int) : laws_eqPrefix.f a b a b = some true := by
  simp only [laws_eqPrefix.f, if_true]

theorem laws_eqTold_refl {k : Nat} {a b o n m l : Int} {p : List Int} (hl : p.length ≤ 1048576) (hk : p.length < k) : laws_eqTold.f k a b o p n m l a b o p n m l = some true := by
  simp only [laws_eqTold.f, laws_eqPrefix_refl, laws_eqAttrs_refl hl hk, Option.bind_some, if_true]

theorem laws_eqToldS_refl {k : Nat} {l : List S138} (hl : l.length ≤ 1048576) (hp : ∀ x ∈ l, x.f1.f1.length ≤ 1048576) (hk : l.length + 1048577 < k) : laws_eqToldS.f k l l = some true := by
  unfold laws_eqToldS.f
  rw [if_pos rfl]
  exact all_loop (L := fun k i => laws_eqToldS.l0 k l l i) (n := l.length) (B := 1048577)
    (fun k i h hB => by
      have hr : rd_T138 l (i : Int) = l[i] := getD_nat h
      have hpi := hp _ (List.getElem_mem h)
      simp only [laws_eqToldS.l0, hr, laws_eqTold_refl hpi (show l[i].f1.f1.length < k by omega), Option.bind_some]
      rw [if_pos (by omega), if_pos (by omega), if_pos (by omega)]
      simp only [if_true]
      rw [wrap_succ (by omega)])
    (fun k => by simp only [laws_eqToldS.l0]; rw [if_neg (by omega)]) (by omega)

theorem FnExactSameTold (l0 : List S136) (l1 : List S136)
    (w0 : (l0.length ≤ maxLen ∧ ∀ z1 ∈ l0, (((Lit.int .i64 z1.f0.f0).wf = true) ∧ ((Lit.int .i64 z1.f0.f1).wf = true)) ∧ (((Lit.int .i64 z1.f1.f0).wf = true) ∧ ((z1.f1.f1.length ≤ maxLen ∧ ∀ z2 ∈ z1.f1.f1, (Lit.int .i64 z2).wf = true)) ∧ ((Lit.int .i64 z1.f1.f2).wf = true) ∧ ((Lit.int .i64 z1.f1.f3).wf = true) ∧ ((Lit.int .i64 z1.f1.f4).wf = true)))) (w1 : (l1.length ≤ maxLen ∧ ∀ z1 ∈ l1, (((Lit.int .i64 z1.f0.f0).wf = true) ∧ ((Lit.int .i64 z1.f0.f1).wf = true)) ∧ (((Lit.int .i64 z1.f1.f0).wf = true) ∧ ((z1.f1.f1.length ≤ maxLen ∧ ∀ z2 ∈ z1.f1.f1, (Lit.int .i64 z2).wf = true)) ∧ ((Lit.int .i64 z1.f1.f2).wf = true) ∧ ((Lit.int .i64 z1.f1.f3).wf = true) ∧ ((Lit.int .i64 z1.f1.f4).wf = true)))) :
    ∃ k, laws_FnExactSameTold.f k l0 l1 = some true := by
  refine ⟨4000000, ?_⟩
  unfold laws_FnExactSameTold.f
  rw [laws_szToldS_eq w0.1 (fun x hx => (w0.2 x hx).2.2.1.1) (by decide) (by decide) (by decide)]
  simp only [Option.bind_some]
  have hb := szS_bound (fun x : S136 => x.f1.f1.length) l0 (left := 1048576) (by decide) (by decide)
  by_cases hL : szS (fun x : S136 => x.f1.f1.length) 1048576 l0 < 0
  · rw [if_pos hL]
  · rw [if_neg hL, laws_szToldS_eq w1.1 (fun x hx => (w1.2 x hx).2.2.1.1) hb.1 (by omega) (by decide)]
    simp only [Option.bind_some]
    by_cases hL2 : szS (fun x : S136 => x.f1.f1.length) (szS (fun x : S136 => x.f1.f1.length) 1048576 l0) l1 < 0
    · rw [if_pos hL2]
    · rw [if_neg hL2]
      have hz := szS_ok (by decide) hL
      have hz2 := szS_ok (by omega) hL2
      have h1 : l0.length ≤ 1048576 := by have := hz.1; omega
      have h2 : ∀ x ∈ l0, x.f1.f1.length ≤ 1048576 := fun x hx => by have := hz.2 x hx; omega
      have h3 : l0.length + 1048577 < 4000000 := by omega
      have h4 : (l0.map cvtTold).length ≤ 1048576 := by simpa using h1
      have h5 : ∀ x ∈ l0.map cvtTold, x.f1.f1.length ≤ 1048576 := fun x hx => by
        obtain ⟨y, hy, rfl⟩ := List.mem_map.1 hx
        exact h2 y hy
      have h6 : (l0.map cvtTold).length + 1048577 < 4000000 := by simpa using h3
      have h6' : (l0.map cvtTold).length + 1048578 < 4000000 := by simp; omega
      have g1 : l1.length ≤ 1048576 := by have := hz2.1; omega
      have g2 : ∀ x ∈ l1, x.f1.f1.length ≤ 1048576 := fun x hx => by have := hz2.2 x hx; omega
      have g3 : l1.length + 1048577 < 4000000 := by omega
      have g4 : (l1.map cvtTold).length ≤ 1048576 := by simpa using g1
      have g5 : ∀ x ∈ l1.map cvtTold, x.f1.f1.length ≤ 1048576 := fun x hx => by
        obtain ⟨y, hy, rfl⟩ := List.mem_map.1 hx
        exact g2 y hy
      have g6 : (l1.map cvtTold).length + 1048577 < 4000000 := by simpa using g3
      simp [laws_toToldS_eq h1 h2 h3, laws_toToldS_eq g1 g2 g3, laws_eqToldS_refl h4 h5 h6, laws_eqToldS_refl g4 g5 g6, spec_SameTold_eq h4 h5 h6', impl_SameTold_eq h4 h5 h6']
end Go.Proofs.Ytfbojdagjecjcaa.Pure
