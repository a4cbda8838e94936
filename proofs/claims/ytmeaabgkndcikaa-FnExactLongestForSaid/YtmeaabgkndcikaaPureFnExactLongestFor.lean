/- The pure part of the law FnExactLongestFor: what the printed functions compute, in closed form, and that the law's answer is true. -/
import Derived.Test.YtmeaabgkndcikaaPFnExactLongestForx1
import Derived.Test.YtmeaabgkndcikaaPFnExactLongestForx2
import Derived.Test.YtmeaabgkndcikaaPFnExactLongestForx3
import Derived.Test.YtmeaabgkndcikaaPFnExactLongestForx4
import Derived.Test.YtmeaabgkndcikaaPFnExactLongestForx5
import Derived.Test.YtmeaabgkndcikaaBase
namespace Go.Proofs.Ytmeaabgkndcikaa.Pure
open Go.RowKit Go.Proofs.Ytmeaabgkndcikaa.PFnExactLongestFor Go.Proofs.YtmeaabgkndcikaaW.PrintWords Go.Proofs.YtmeaabgkndcikaaW.PrintLast Go.Proofs.YtmeaabgkndcikaaW.PrintMore Go.Proofs.Ytmeaabgkndcikaa.B
set_option linter.unusedVariables false
set_option linter.unusedSimpArgs false

theorem laws_szPrefixS_eq {l : List S167} {a : Int} (hl : l.length ≤ maxLen) (h0 : -1 ≤ a) (h1 : a ≤ 1048576) : laws_szPrefixS.f l a = some (szB a l.length) := szB_eq h0 h1 hl

theorem spec_l1In_eq (n lo hi : Int) : spec_l1In.f n lo hi = some (inB n lo hi) := inB_eq n lo hi

theorem spec_l2Addr_eq (n : Int) : spec_l2Addr.f n = some (inB n 0 65535) := by
  simp only [spec_l2Addr.f, spec_l1In_eq, Option.bind_some]

theorem spec_l2Rest_eq {l : Int} (h0 : 0 ≤ l) (h1 : l ≤ 16) : spec_l2Rest.f l = some (span l - 1) := by
  unfold spec_l2Rest.f
  rw [if_pos (cnt_ok2 h0 h1), shl_span2 h0 h1]

theorem spec_PrefixFault_eq {k : Nat} (hk : 1 ≤ k) (a l : Int) : spec_PrefixFault.f k a l = some (prefixFault a l) := by
  obtain ⟨k, rfl⟩ : ∃ m, k = m + 1 := ⟨k - 1, by omega⟩
  simp only [spec_PrefixFault.f, spec_l2Addr_eq, spec_l1In_eq, Option.bind_some, spec_PrefixFault.j0]
  unfold prefixFault
  by_cases h1 : inB a 0 65535 = true
  · by_cases h2 : inB l 0 16 = true
    · have h3 := inB_iff.1 h1
      have h4 := inB_iff.1 h2
      rw [if_pos h1, if_pos h1, if_pos h2, h2]
      simp only [Bool.not_true, Bool.false_eq_true, if_false, spec_l2Rest_eq h4.1 h4.2, Option.bind_some, and_span h4.1 h4.2 h3.1 h3.2, ite_some]
    · simp [h1, h2]
  · simp [h1]

def prefF (x : S43) : Int := prefixFault x.f0 x.f1
theorem spec_l2List_eq {k : Nat} {l : List S43} (hk : 220 ≤ k) : spec_l2List.f k l = some (if (l.length : Int) > 200 then 2 else firstFault prefF l) := by
  unfold spec_l2List.f
  by_cases h8 : (l.length : Int) > 200
  · rw [if_pos h8, if_pos h8]
  · rw [if_neg h8, if_neg h8]
    exact fault_loop (L := fun k i => spec_l2List.l0 k l i) (B := 1)
      (fun k i h hB => by
        have hr : rd_T43 l (i : Int) = l[i] := getD_nat h
        simp only [spec_l2List.l0, hr, spec_PrefixFault_eq hB, Option.bind_some]
        rw [if_pos (by omega), if_pos (by omega), wrap_succ (by omega)]
        rfl)
      (fun k => by simp only [spec_l2List.l0]; rw [if_neg (by omega)]) (by omega)

theorem spec_l2Has_eq {a l x : Int} (h : prefixFault a l = 0) (h0 : 0 ≤ x) (h1 : x ≤ 65535) : spec_l2Has.f a l x = some (hasB a l x) := by
  obtain ⟨_, _, h3, h4, _⟩ := prefixFault_ok h
  simp only [spec_l2Has.f, spec_l2Rest_eq h3 h4, Option.bind_some, andNot_span h3 h4 h0 h1]
  rfl

def slongG (l : List S43) (x : Int) (i : Nat) (b : Int) (p : S43) : Int := if hasB p.f0 p.f1 x = true then (if b < 0 then (i : Int) else if p.f1 > (l.getD b.toNat z43).f1 then (i : Int) else b) else b
def slongest (l : List S43) (x : Int) : Int := foldI (slongG l x) 0 (-1) l
theorem slongG_bound {l : List S43} {x b : Int} {i : Nat} {p : S43} (h : -1 ≤ b ∧ b < i) : -1 ≤ slongG l x i b p ∧ slongG l x i b p < ((i + 1 : Nat) : Int) := by
  unfold slongG
  repeat' split
  all_goals omega
def longestFor (l : List S43) (x : Int) : Int × Int :=
  if (l.length : Int) > 200 then (2, 0) else if firstFault prefF l = 0 then (if inB x 0 65535 = true then (if slongest l x < 0 then (4, 0) else (0, slongest l x)) else (3, 0)) else (firstFault prefF l, 0)
theorem spec_LongestFor_eq {k : Nat} {l : List S43} {x : Int} (hk : 220 ≤ k) : spec_LongestFor.f k l x = some (longestFor l x) := by
  unfold spec_LongestFor.f longestFor
  simp only [spec_l2List_eq hk, spec_l2Addr_eq, Option.bind_some]
  by_cases h8 : (l.length : Int) > 200
  · simp only [if_pos h8]; rfl
  · simp only [if_neg h8]
    by_cases hf : firstFault prefF l = 0
    · rw [if_pos hf, if_pos hf]
      by_cases hx : inB x 0 65535 = true
      · rw [if_pos hx, if_pos hx]
        have hx2 := inB_iff.1 hx
        have hf2 := firstFault_zero.1 hf
        unfold slongest
        refine Eq.trans ?_ (congrArg some (run_foldI (slongG l x) (fun b => if b < 0 then ((4 : Int), (0 : Int)) else (0, b)) l 0 (-1)))
        exact run_loop (L := fun k b i => spec_LongestFor.l0 k l x b i) (fun i b => -1 ≤ b ∧ b < (i : Int)) (B := 0)
          (fun k i b h _ hb => by
            have hr : rd_T43 l (i : Int) = l[i] := getD_nat h
            have hp : prefixFault l[i].f0 l[i].f1 = 0 := hf2 _ (List.getElem_mem h)
            simp only [spec_LongestFor.l0, hr, spec_l2Has_eq hp hx2.1 hx2.2, Option.bind_some]
            rw [if_pos (by omega), if_pos (by omega), wrap_succ (by omega)]
            unfold slongG
            by_cases hh : hasB l[i].f0 l[i].f1 x = true
            · rw [if_pos hh, if_pos hh]
              by_cases hb0 : b < 0
              · rw [if_pos hb0, if_pos hb0]
              · rw [if_neg hb0, if_neg hb0, if_pos (by omega), if_pos (by omega)]
                show (if l[i].f1 > (l.getD b.toNat z43).f1 then _ else _) = _
                by_cases hg : l[i].f1 > (l.getD b.toNat z43).f1
                · rw [if_pos hg, if_pos hg]
                · rw [if_neg hg, if_neg hg]
            · rw [if_neg hh, if_neg hh])
          (fun i b b' h hb e => by
            injection e with e
            exact e ▸ slongG_bound hb)
          (fun k b _ => by
            simp only [spec_LongestFor.l0]
            rw [if_neg (by omega), ite_some]) ⟨by decide, by decide⟩ (by omega)
      · rw [if_neg hx, if_neg hx]
    · rw [if_neg hf, if_neg hf]

theorem laws_toPrefix_eq (a b : Int) : laws_toPrefix.f a b = some (a, b) := rfl

def cvtPrefix (x : S167) : S43 := ⟨x.f0, x.f1⟩
theorem laws_toPrefixS_eq {k : Nat} {l : List S167} (hl : l.length ≤ 1048576) (hk : l.length < k) : laws_toPrefixS.f k l = some (l.map cvtPrefix) := by
  unfold laws_toPrefixS.f
  rw [if_pos (by omega), if_pos (by omega)]
  exact set_loop (L := fun k acc i => laws_toPrefixS.l0 k l acc i) (B := 0)
    (fun k i acc h _ ha => by
      have hr : rd_T167 l (i : Int) = l[i] := getD_nat h
      simp only [laws_toPrefixS.l0, hr, laws_toPrefix_eq, Option.bind_some]
      rw [if_pos (by omega), if_pos (by omega), if_pos (by omega), wrap_succ (by omega)]
      rfl)
    (fun k acc _ => by simp only [laws_toPrefixS.l0]; rw [if_neg (by omega)]) (by simp) (by omega)

theorem impl_in_eq (n lo hi : Int) : impl_in.f n lo hi = some (inB n lo hi) := inB_eq n lo hi

theorem impl_isAddr_eq (n : Int) : impl_isAddr.f n = some (inB n 0 65535) := by
  simp only [impl_isAddr.f, impl_in_eq, Option.bind_some]

theorem impl_PrefixFault_eq {k : Nat} (hk : 1 ≤ k) (a l : Int) : impl_PrefixFault.f k a l = some (prefixFault a l) := by
  obtain ⟨k, rfl⟩ : ∃ m, k = m + 1 := ⟨k - 1, by omega⟩
  simp only [impl_PrefixFault.f, impl_isAddr_eq, impl_in_eq, Option.bind_some, impl_PrefixFault.j0]
  unfold prefixFault
  by_cases h1 : inB a 0 65535 = true
  · by_cases h2 : inB l 0 16 = true
    · have h3 := inB_iff.1 h1
      have h4 := inB_iff.1 h2
      rw [if_pos h1, if_pos h1, if_pos h2, h2]
      simp only [Bool.not_true, Bool.false_eq_true, if_false]
      rw [if_pos (cnt_ok h4.1 h4.2), shl_span h4.1 h4.2, and_span h4.1 h4.2 h3.1 h3.2, ite_some]
    · simp [h1, h2]
  · simp [h1]

theorem impl_prefixesFault_eq {k : Nat} {l : List S43} (hl : l.length ≤ 1048576) (hk : l.length + 1 < k) : impl_prefixesFault.f k l = some (firstFault prefF l) := by
  unfold impl_prefixesFault.f
  exact fault_loop (L := fun k i => impl_prefixesFault.l0 k l (l.length : Int) i) (B := 1)
      (fun k i h hB => by
        have hr : rd_T43 l (i : Int) = l[i] := getD_nat h
        simp only [impl_prefixesFault.l0, hr, impl_PrefixFault_eq hB, Option.bind_some]
        rw [if_pos (by omega), if_pos (by omega), if_pos (by omega), wrap_succ (by omega)]
        rfl)
      (fun k => by simp only [impl_prefixesFault.l0]; rw [if_neg (by omega)]) (by omega)

theorem impl_listFault_eq {k : Nat} {l : List S43} (hk : 220 ≤ k) : impl_listFault.f k l = some (if (l.length : Int) > 200 then 2 else firstFault prefF l) := by
  unfold impl_listFault.f
  by_cases h8 : (l.length : Int) > 200
  · rw [if_pos h8, if_pos h8]
  · rw [if_neg h8, if_neg h8, impl_prefixesFault_eq (by omega) (by omega)]; rfl

theorem impl_Prefix_has_eq {a l : Int} (h : prefixFault a l = 0) (x : Int) : impl_Prefix_has.f a l x = some (if inB x 0 65535 = true then hasB a l x else false) := by
  obtain ⟨_, _, h3, h4, _⟩ := prefixFault_ok h
  simp only [impl_Prefix_has.f, impl_isAddr_eq, Option.bind_some, if_pos (cnt_ok h3 h4), shr_span h3 h4, has_div h, ite_some]

def longG (l : List S43) (x : Int) (i : Nat) (b : Int) (p : S43) : Int := if hasB p.f0 p.f1 x = true then (if b < 0 then (i : Int) else if p.f1 > (l.getD b.toNat z43).f1 then (i : Int) else b) else b
def longest (l : List S43) (x : Int) : Int := foldI (longG l x) 0 (-1) l
theorem longG_bound {l : List S43} {x b : Int} {i : Nat} {p : S43} (h : -1 ≤ b ∧ b < i) : -1 ≤ longG l x i b p ∧ longG l x i b p < ((i + 1 : Nat) : Int) := by
  unfold longG
  repeat' split
  all_goals omega
theorem impl_longest_eq {k : Nat} {l : List S43} {x : Int} (hf : ∀ p ∈ l, prefF p = 0) (hx : inB x 0 65535 = true) (hl : l.length ≤ 1048576) (hk : l.length < k) : impl_longest.f k l x = some (longest l x) := by
  unfold impl_longest.f longest
  refine Eq.trans ?_ (congrArg some (run_foldI (longG l x) id l 0 (-1)))
  exact run_loop (L := fun k b i => impl_longest.l0 k l x b l (l.length : Int) i) (fun i b => -1 ≤ b ∧ b < (i : Int)) (B := 0)
    (fun k i b h _ hb => by
      have hr : rd_T43 l (i : Int) = l[i] := getD_nat h
      have hp : prefixFault l[i].f0 l[i].f1 = 0 := hf _ (List.getElem_mem h)
      simp only [impl_longest.l0, hr, impl_Prefix_has_eq hp, hx, if_true, Option.bind_some]
      rw [if_pos (by omega), if_pos (by omega), if_pos (by omega), wrap_succ (by omega)]
      unfold longG
      by_cases hh : hasB l[i].f0 l[i].f1 x = true
      · rw [if_pos hh, if_pos hh]
        by_cases hb0 : b < 0
        · rw [if_pos hb0, if_pos hb0]
        · rw [if_neg hb0, if_neg hb0, if_pos (by omega), if_pos (by omega)]
          show (if l[i].f1 > (l.getD b.toNat z43).f1 then _ else _) = _
          by_cases hg : l[i].f1 > (l.getD b.toNat z43).f1
          · rw [if_pos hg, if_pos hg]
          · rw [if_neg hg, if_neg hg]
      · rw [if_neg hh, if_neg hh])
    (fun i b b' h hb e => by
      injection e with e
      exact e ▸ longG_bound hb)
    (fun k b _ => by simp only [impl_longest.l0]; rw [if_neg (by omega)]; rfl) ⟨by decide, by decide⟩ (by omega)

theorem impl_LongestFor_eq {k : Nat} {l : List S43} {x : Int} (hk : 220 ≤ k) : impl_LongestFor.f k l x = some (longestFor l x) := by
  unfold impl_LongestFor.f longestFor
  simp only [impl_listFault_eq hk, impl_isAddr_eq, Option.bind_some]
  by_cases h8 : (l.length : Int) > 200
  · simp only [if_pos h8]; rfl
  · simp only [if_neg h8]
    by_cases hf : firstFault prefF l = 0
    · rw [if_pos hf, if_pos hf]
      by_cases hx : inB x 0 65535 = true
      · rw [if_pos hx, if_pos hx, impl_longest_eq (firstFault_zero.1 hf) hx (by omega) (by omega)]
        simp only [Option.bind_some, ite_some]
        rfl
      · rw [if_neg hx, if_neg hx]
    · rw [if_neg hf, if_neg hf]

theorem laws_eqIntResult_refl (a b : Int) : laws_eqIntResult.f a b a b = some true := by
  simp only [laws_eqIntResult.f, if_true]

theorem laws_eqPrefix_refl (a b : Int) : laws_eqPrefix.f a b a b = some true := by
  simp only [laws_eqPrefix.f, if_true]

theorem laws_eqPrefixS_refl {k : Nat} {l : List S43} (hl : l.length ≤ 1048576) (hk : l.length < k) : laws_eqPrefixS.f k l l = some true := by
  unfold laws_eqPrefixS.f
  rw [if_pos rfl]
  exact all_loop (L := fun k i => laws_eqPrefixS.l0 k l l i) (n := l.length) (B := 0)
    (fun k i h _ => by
      simp only [laws_eqPrefixS.l0, laws_eqPrefix_refl, Option.bind_some]
      rw [if_pos (by omega), if_pos (by omega), if_pos (by omega)]
      simp only [if_true]
      rw [wrap_succ (by omega)])
    (fun k => by simp only [laws_eqPrefixS.l0]; rw [if_neg (by omega)]) (by omega)

theorem FnExactLongestFor (l0 : List S167) (a1 : Int)
    (w0 : (l0.length ≤ maxLen ∧ ∀ z1 ∈ l0, ((Lit.int .i64 z1.f0).wf = true) ∧ ((Lit.int .i64 z1.f1).wf = true))) (w1 : (Lit.int .i64 a1).wf = true) :
    ∃ k, laws_FnExactLongestFor.f k l0 a1 = some true := by
  refine ⟨2000000, ?_⟩
  unfold laws_FnExactLongestFor.f
  rw [laws_szPrefixS_eq w0.1 (by decide) (by decide)]
  simp only [Option.bind_some]
  by_cases hL : (1048576 : Int) < l0.length
  · rw [if_pos (szB_neg.2 hL)]
  · rw [if_neg (fun h => hL (szB_neg.1 h))]
    have h1 : l0.length ≤ 1048576 := by omega
    have h2 : l0.length < 2000000 := by omega
    have h3 : (l0.map cvtPrefix).length ≤ 1048576 := by simpa using h1
    have h4 : (l0.map cvtPrefix).length < 2000000 := by simpa using h2
    simp only [laws_toPrefixS_eq h1 h2, laws_eqPrefixS_refl h3 h4, spec_LongestFor_eq (show 220 ≤ 2000000 by decide), impl_LongestFor_eq (show 220 ≤ 2000000 by decide), laws_eqIntResult_refl, Option.bind_some, if_true]
end Go.Proofs.Ytmeaabgkndcikaa.Pure
