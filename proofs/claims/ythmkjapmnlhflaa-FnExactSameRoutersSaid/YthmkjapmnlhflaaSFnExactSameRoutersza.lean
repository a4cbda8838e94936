/- Words that the texts of the law FnExactSameRouters use. -/
import Derived.Test.YthmkjapmnlhflaaSFnExactSameRoutersa
section
namespace Go.Proofs.Ythmkjapmnlhflaa.B
open Go.RowKit Go.Proofs.YthmkjapmnlhflaaW.PrintWords Go.Proofs.YthmkjapmnlhflaaW.PrintLast Go.Proofs.YthmkjapmnlhflaaW.PrintMore
set_option linter.unusedVariables false
set_option linter.unusedSimpArgs false
theorem wrap_id {x : Int} (h1 : -9223372036854775808 ≤ x) (h2 : x ≤ 9223372036854775807) : wrap64 x = x := by unfold wrap64; omega
theorem wrap_succ {n : Nat} (h : n < 9223372036854775807) : wrap64 ((n : Int) + 1) = ((n + 1 : Nat) : Int) := by unfold wrap64; omega
theorem rd_nat {xs : List Int} {i : Nat} (h : i < xs.length) : rd xs (i : Int) = xs[i] := by
  simp [rd, List.getD_eq_getElem?_getD, List.getElem?_eq_getElem h]
theorem getD_nat {α : Type} {xs : List α} {z : α} {i : Nat} (h : i < xs.length) : xs.getD ((i : Int)).toNat z = xs[i] := by
  simp [List.getD_eq_getElem?_getD, List.getElem?_eq_getElem h]
theorem bind_of {α β : Type} {x : Option α} {a : α} {f : α → Option β} {r : Option β} (h : x = some a) (h2 : f a = r) : x.bind f = r := by rw [h]; exact h2
theorem ite_some {α : Type} (c : Prop) [Decidable c] (a b : α) : (if c then some a else some b) = some (if c then a else b) := by split <;> rfl
def scan {α ρ : Type} (step : α → Option ρ) (fin : ρ) : List α → ρ
  | [] => fin
  | x :: xs => match step x with | some r => r | none => scan step fin xs
theorem scan_from {α ρ : Type} {L : Nat → Int → Option ρ} {xs : List α} {step : α → Option ρ} {fin : ρ} {B : Nat}
    (hs : ∀ k (i : Nat) (h : i < xs.length), B ≤ k → L (k + 1) (i : Int) = match step xs[i] with | some r => some r | none => L k ((i + 1 : Nat) : Int))
    (he : ∀ k, L (k + 1) (xs.length : Int) = some fin) :
    ∀ (d i k : Nat), i + d = xs.length → d + B < k → L k (i : Int) = some (scan step fin (xs.drop i)) := by
  intro d
  induction d with
  | zero =>
    intro i k hi hk
    obtain ⟨k, rfl⟩ : ∃ m, k = m + 1 := ⟨k - 1, by omega⟩
    obtain rfl : i = xs.length := by omega
    rw [he, List.drop_length]; rfl
  | succ d ih =>
    intro i k hi hk
    obtain ⟨k, rfl⟩ : ∃ m, k = m + 1 := ⟨k - 1, by omega⟩
    have hlt : i < xs.length := by omega
    rw [hs k i hlt (by omega), List.drop_eq_getElem_cons hlt]
    show _ = some (match step xs[i] with | some r => r | none => scan step fin (xs.drop (i + 1)))
    cases step xs[i] with
    | some r => rfl
    | none => exact ih (i + 1) k (by omega) (by omega)
theorem scan_loop {α ρ : Type} {L : Nat → Int → Option ρ} {xs : List α} {step : α → Option ρ} {fin : ρ} {B : Nat}
    (hs : ∀ k (i : Nat) (h : i < xs.length), B ≤ k → L (k + 1) (i : Int) = match step xs[i] with | some r => some r | none => L k ((i + 1 : Nat) : Int))
    (he : ∀ k, L (k + 1) (xs.length : Int) = some fin) {k : Nat} (hk : xs.length + B < k) : L k 0 = some (scan step fin xs) := by
  have := scan_from hs he xs.length 0 k (by omega) hk
  simpa using this
def run {α σ ρ : Type} (step : Nat → σ → α → σ ⊕ ρ) (fin : σ → ρ) : Nat → σ → List α → ρ
  | _, s, [] => fin s
  | i, s, x :: xs => match step i s x with | .inl s' => run step fin (i + 1) s' xs | .inr r => r
theorem run_from {α σ ρ : Type} {L : Nat → σ → Int → Option ρ} {xs : List α} {step : Nat → σ → α → σ ⊕ ρ} {fin : σ → ρ} {B : Nat} (inv : Nat → σ → Prop)
    (hs : ∀ k (i : Nat) s (h : i < xs.length), B ≤ k → inv i s → L (k + 1) s (i : Int) = match step i s xs[i] with | .inl s' => L k s' ((i + 1 : Nat) : Int) | .inr r => some r)
    (hi : ∀ (i : Nat) s s' (h : i < xs.length), inv i s → step i s xs[i] = .inl s' → inv (i + 1) s')
    (he : ∀ k s, inv xs.length s → L (k + 1) s (xs.length : Int) = some (fin s)) :
    ∀ (d i : Nat) s (k : Nat), i + d = xs.length → inv i s → d + B < k → L k s (i : Int) = some (run step fin i s (xs.drop i)) := by
  intro d
  induction d with
  | zero =>
    intro i s k hd hinv hk
    obtain ⟨k, rfl⟩ : ∃ m, k = m + 1 := ⟨k - 1, by omega⟩
    obtain rfl : i = xs.length := by omega
    rw [he _ _ hinv, List.drop_length]; rfl
  | succ d ih =>
    intro i s k hd hinv hk
    obtain ⟨k, rfl⟩ : ∃ m, k = m + 1 := ⟨k - 1, by omega⟩
    have hlt : i < xs.length := by omega
    rw [hs k i s hlt (by omega) hinv, List.drop_eq_getElem_cons hlt]
    show _ = some (match step i s xs[i] with | .inl s' => run step fin (i + 1) s' (xs.drop (i + 1)) | .inr r => r)
    cases hst : step i s xs[i] with
    | inr r => rfl
    | inl s' => exact ih (i + 1) s' k (by omega) (hi i s s' hlt hinv hst) (by omega)
theorem run_loop {α σ ρ : Type} {L : Nat → σ → Int → Option ρ} {xs : List α} {step : Nat → σ → α → σ ⊕ ρ} {fin : σ → ρ} {B : Nat} (inv : Nat → σ → Prop)
    (hs : ∀ k (i : Nat) s (h : i < xs.length), B ≤ k → inv i s → L (k + 1) s (i : Int) = match step i s xs[i] with | .inl s' => L k s' ((i + 1 : Nat) : Int) | .inr r => some r)
    (hi : ∀ (i : Nat) s s' (h : i < xs.length), inv i s → step i s xs[i] = .inl s' → inv (i + 1) s')
    (he : ∀ k s, inv xs.length s → L (k + 1) s (xs.length : Int) = some (fin s)) {k : Nat} {s : σ} (h0 : inv 0 s) (hk : xs.length + B < k) : L k s 0 = some (run step fin 0 s xs) := by
  have := run_from inv hs hi he xs.length 0 s k (by omega) h0 hk
  simpa using this
theorem set_from {α β : Type} {L : Nat → List β → Int → Option (List β)} {xs : List α} {f : α → β} {B : Nat}
    (hs : ∀ k (i : Nat) acc (h : i < xs.length), B ≤ k → acc.length = xs.length → L (k + 1) acc (i : Int) = L k (acc.set i (f xs[i])) ((i + 1 : Nat) : Int))
    (he : ∀ k acc, acc.length = xs.length → L (k + 1) acc (xs.length : Int) = some acc) :
    ∀ (d i : Nat) acc (k : Nat), i + d = xs.length → acc.length = xs.length → d + B < k → L k acc (i : Int) = some (acc.take i ++ (xs.drop i).map f) := by
  intro d
  induction d with
  | zero =>
    intro i acc k hd hl hk
    obtain ⟨k, rfl⟩ : ∃ m, k = m + 1 := ⟨k - 1, by omega⟩
    obtain rfl : i = xs.length := by omega
    rw [he _ _ hl, List.drop_length, ← hl, List.take_length]; simp
  | succ d ih =>
    intro i acc k hd hl hk
    obtain ⟨k, rfl⟩ : ∃ m, k = m + 1 := ⟨k - 1, by omega⟩
    have hlt : i < xs.length := by omega
    rw [hs k i acc hlt (by omega) hl, ih (i + 1) _ k (by omega) (by simpa using hl) (by omega)]
    rw [List.drop_eq_getElem_cons hlt, List.map_cons]
    congr 1
    rw [List.take_succ_eq_append_getElem (by simp; omega), List.append_assoc]
    congr 1
    · rw [List.take_set_of_le (Nat.le_refl _)]
    · simp
theorem set_loop {α β : Type} {L : Nat → List β → Int → Option (List β)} {xs : List α} {f : α → β} {B : Nat}
    (hs : ∀ k (i : Nat) acc (h : i < xs.length), B ≤ k → acc.length = xs.length → L (k + 1) acc (i : Int) = L k (acc.set i (f xs[i])) ((i + 1 : Nat) : Int))
    (he : ∀ k acc, acc.length = xs.length → L (k + 1) acc (xs.length : Int) = some acc) {k : Nat} {acc : List β} (h0 : acc.length = xs.length) (hk : xs.length + B < k) :
    L k acc 0 = some (xs.map f) := by
  have := set_from hs he xs.length 0 acc k (by omega) h0 hk
  simpa using this
theorem all_from {ρ : Type} {L : Nat → Int → Option ρ} {n : Nat} {r : ρ} {B : Nat}
    (hs : ∀ k (i : Nat), i < n → B ≤ k → L (k + 1) (i : Int) = L k ((i + 1 : Nat) : Int)) (he : ∀ k, L (k + 1) (n : Int) = some r) :
    ∀ (d i k : Nat), i + d = n → d + B < k → L k (i : Int) = some r := by
  intro d
  induction d with
  | zero =>
    intro i k hi hk
    obtain ⟨k, rfl⟩ : ∃ m, k = m + 1 := ⟨k - 1, by omega⟩
    obtain rfl : i = n := by omega
    exact he k
  | succ d ih =>
    intro i k hi hk
    obtain ⟨k, rfl⟩ : ∃ m, k = m + 1 := ⟨k - 1, by omega⟩
    rw [hs k i (by omega) (by omega)]
    exact ih (i + 1) k (by omega) (by omega)
theorem all_loop {ρ : Type} {L : Nat → Int → Option ρ} {n : Nat} {r : ρ} {B : Nat}
    (hs : ∀ k (i : Nat), i < n → B ≤ k → L (k + 1) (i : Int) = L k ((i + 1 : Nat) : Int)) (he : ∀ k, L (k + 1) (n : Int) = some r) {k : Nat} (hk : n + B < k) : L k 0 = some r := by
  have := all_from hs he n 0 k (by omega) hk
  simpa using this
def szB (left : Int) (n : Nat) : Int := if left - n < 0 then -1 else left - n
theorem szB_eq {left : Int} {n : Nat} (h0 : -1 ≤ left) (h1 : left ≤ 1048576) (hn : n ≤ maxLen) :
    (if wrap64 (left - (n : Int)) < 0 then some (-1 : Int) else some (wrap64 (left - (n : Int)))) = some (szB left n) := by
  unfold maxLen at hn
  unfold szB
  rw [wrap_id (by omega) (by omega), ite_some]
theorem szB_bound {left : Int} {n : Nat} (h1 : left ≤ 1048576) : -1 ≤ szB left n ∧ szB left n ≤ 1048576 := by unfold szB; split <;> omega
theorem szB_neg {left : Int} {n : Nat} : szB left n < 0 ↔ left < n := by unfold szB; split <;> omega
theorem szB_again (left : Int) (n : Nat) : (if szB left n < 0 then some (-1 : Int) else some (szB left n)) = some (szB left n) := by
  unfold szB; split <;> simp_all
theorem scan_all {α : Type} (p : α → Bool) (l : List α) : scan (fun x => if p x = true then none else some false) true l = l.all p := by
  induction l with
  | nil => rfl
  | cons x xs ih =>
    unfold scan
    rw [List.all_cons]
    by_cases h : p x = true
    · simp only [if_pos h, h, Bool.true_and]; exact ih
    · have h2 : p x = false := by simpa using h
      simp [h2]
def zipAll {α β : Type} (p : α → β → Bool) (a : List α) (b : List β) : Bool := if a.length = b.length then (a.zip b).all (fun q => p q.1 q.2) else false
theorem zip_loop {α β : Type} {L : Nat → Int → Option Bool} {a : List α} {b : List β} {p : α → β → Bool} {B : Nat} (hl : a.length = b.length)
    (hs : ∀ k (i : Nat) (h : i < a.length) (h2 : i < b.length), B ≤ k → L (k + 1) (i : Int) = if p a[i] b[i] = true then L k ((i + 1 : Nat) : Int) else some false)
    (he : ∀ k, L (k + 1) (a.length : Int) = some true) {k : Nat} (hk : a.length + B < k) : L k 0 = some (zipAll p a b) := by
  have hz : (a.zip b).length = a.length := by simp [hl]
  unfold zipAll
  rw [if_pos hl, ← scan_all]
  refine scan_loop (B := B) (fun k i h hB => ?_) (fun k => by rw [hz]; exact he k) (by rw [hz]; exact hk)
  rw [hs k i (by omega) (by omega) hB, List.getElem_zip]
  by_cases hp : p (a[i]'(by omega)) (b[i]'(by omega)) = true <;> simp [hp]
def sameL (a b : List Int) : Bool := zipAll (fun x y => decide (x = y)) a b
def sameA (o : Int) (p : List Int) (n m l o' : Int) (p' : List Int) (n' m' l' : Int) : Bool := decide (o = o') && sameL p p' && decide (n = n') && decide (m = m') && decide (l = l')
def szL {α : Type} (f : α → Nat) : Int → List α → Int
  | left, [] => left
  | left, x :: xs => if szB left (f x) < 0 then -1 else szL f (szB left (f x)) xs
def szS {α : Type} (f : α → Nat) (left : Int) (l : List α) : Int := if szB left l.length < 0 then -1 else szL f (szB left l.length) l
theorem szL_bound {α : Type} (f : α → Nat) : ∀ (l : List α) (left : Int), -1 ≤ left → left ≤ 1048576 → -1 ≤ szL f left l ∧ szL f left l ≤ left
  | [], left, h0, h1 => ⟨h0, Int.le_refl _⟩
  | x :: xs, left, h0, h1 => by
    unfold szL
    split
    · exact ⟨by decide, h0⟩
    · rename_i h
      have hb : szB left (f x) ≤ left := by unfold szB; split <;> omega
      have := szL_bound f xs (szB left (f x)) (by omega) (by omega)
      exact ⟨this.1, by omega⟩
theorem szL_ok {α : Type} (f : α → Nat) : ∀ (l : List α) (left : Int), left ≤ 1048576 → ¬ szL f left l < 0 → ∀ x ∈ l, (f x : Int) ≤ left
  | [], _, _, _ => fun x hx => by simp at hx
  | y :: ys, left, h1, h => by
    unfold szL at h
    split at h
    · exact absurd (by decide) h
    · rename_i h2
      have hy : (f y : Int) ≤ left := by
        have := mt szB_neg.2 h2
        omega
      have hb : szB left (f y) ≤ left := by unfold szB; rw [if_neg (by omega)]; omega
      intro x hx
      rcases List.mem_cons.1 hx with rfl | hx
      · exact hy
      · have := szL_ok f ys (szB left (f y)) (by omega) h x hx
        omega
theorem szS_bound {α : Type} (f : α → Nat) (l : List α) {left : Int} (h0 : -1 ≤ left) (h1 : left ≤ 1048576) : -1 ≤ szS f left l ∧ szS f left l ≤ left := by
  unfold szS
  split
  · exact ⟨by decide, h0⟩
  · have hb : szB left l.length ≤ left := by unfold szB; split <;> omega
    have := szL_bound f l (szB left l.length) (by omega) (by omega)
    exact ⟨this.1, by omega⟩
theorem szS_ok {α : Type} {f : α → Nat} {l : List α} {left : Int} (h1 : left ≤ 1048576) (h : ¬ szS f left l < 0) : (l.length : Int) ≤ left ∧ ∀ x ∈ l, (f x : Int) ≤ left := by
  unfold szS at h
  split at h
  · exact absurd (by decide) h
  · rename_i h2
    have hy : (l.length : Int) ≤ left := by
      have := mt szB_neg.2 h2
      omega
    have hb : szB left l.length ≤ left := by unfold szB; rw [if_neg (by omega)]; omega
    have h3 := szL_ok f l (szB left l.length) (by omega) h
    refine ⟨by have := mt szB_neg.2 h2; omega, fun x hx => by have := h3 x hx; omega⟩
theorem run_szL {α : Type} (f : α → Nat) : ∀ (l : List α) (i : Nat) (left : Int), run (fun (_ : Nat) (s : Int) (x : α) => if szB s (f x) < 0 then Sum.inr (-1 : Int) else Sum.inl (szB s (f x))) id i left l = szL f left l
  | [], _, _ => rfl
  | x :: xs, i, left => by
    unfold run szL
    by_cases h : szB left (f x) < 0
    · simp only [if_pos h]
    · simp only [if_neg h]
      exact run_szL f xs (i + 1) _
end Go.Proofs.Ythmkjapmnlhflaa.B
end
section
namespace Go.Proofs.Ythmkjapmnlhflaa.Opn
open Go.RowKit Go.ChangeShapes Go.WideShapes Go.Proofs.YthmkjapmnlhflaaW.PrintWords
set_option linter.unusedVariables false
set_option linter.unusedSimpArgs false
structure Opens (P : Program) (t : TypeId) {α : Type} (d : Kd α) (wf : α → Prop) : Prop where
  cells : P.cellsOf t = d.sz
  op : ∀ {H : Type} {enc : TypeId × Value → H} {w : World} {base : Nat} {spare : Nat → Bool} {held : Bool} {fuel : Nat} {cs : List Value} {x : DataW H × List MemPlace},
    DataW.trod enc P w base spare held fuel t cs = some x → ∃ y, d.K w y cs ∧ wf y
structure OpensF (P : Program) (off : Nat) (fs : List Field) {α : Type} (d : Kd α) (wf : α → Prop) : Prop where
  op : ∀ {H : Type} {enc : TypeId × Value → H} {w : World} {base : Nat} {spare : Nat → Bool} {held : Bool} {n : Nat} {cs : List Value},
    cs.length = off + d.sz → (∀ (i : Nat) (f : Field), fs[i]? = some f → ∃ x, DataW.trod enc P w base spare held n f.type ((cs.drop f.offset).take (P.cellsOf f.type)) = some x) →
    ∃ y, d.K w y (cs.drop off) ∧ wf y
variable {P : Program}
theorem Opens.int {t : TypeId} {k : IntKind} (ht : P.underlying t = some (.int k)) (hc : P.cellsOf t = 1) : Opens P t (Kd.int k) (fun n => (Lit.int k n).wf = true) := by
  refine ⟨hc, fun h => ?_⟩
  obtain ⟨n, rfl, _, hw⟩ := DataW.trod_int ht h
  exact ⟨n, rfl, hw⟩
theorem Opens.bool {t : TypeId} (ht : P.underlying t = some .bool) (hc : P.cellsOf t = 1) : Opens P t Kd.bool (fun _ => True) := by
  refine ⟨hc, fun h => ?_⟩
  obtain ⟨n, rfl, _⟩ := DataW.trod_bool ht h
  exact ⟨n, rfl, trivial⟩
theorem Opens.string {t : TypeId} (ht : P.underlying t = some .string) (hc : P.cellsOf t = 1) : Opens P t Kd.string (fun s => s.size ≤ maxLen) := by
  refine ⟨hc, fun h => ?_⟩
  obtain ⟨n, rfl, _, hw⟩ := DataW.trod_string ht h
  exact ⟨n, rfl, hw⟩
theorem Opens.iso {t : TypeId} {α β : Type} {d : Kd α} {wf : α → Prop} (h : Opens P t d wf) (f : β → α) (g : α → β) (hfg : ∀ x, f (g x) = x) : Opens P t (Kd.iso d f) (fun y => wf (f y)) := by
  refine ⟨h.cells, fun hr => ?_⟩
  obtain ⟨y, hk, hw⟩ := h.op hr
  exact ⟨g y, by show d.K _ (f (g y)) _; rw [hfg]; exact hk, by show wf (f (g y)); rw [hfg]; exact hw⟩
theorem Opens.imp {t : TypeId} {α : Type} {d : Kd α} {wf wf' : α → Prop} (h : Opens P t d wf) (hw : ∀ x, wf x → wf' x) : Opens P t d wf' :=
  ⟨h.cells, fun hr => by obtain ⟨y, hk, hq⟩ := h.op hr; exact ⟨y, hk, hw y hq⟩⟩
theorem rows_of {H : Type} {α : Type} {d : Kd α} {wf : α → Prop} {e : TypeId} (h : Opens P e d wf) {enc : TypeId × Value → H} {w : World} {base : Nat} {spare : Nat → Bool} {held : Bool} {n : Nat} {a : Addr} :
    ∀ (len : Nat), (∀ i, i < len → ∃ x, (w.cells? base (a.add (i * P.cellsOf e)) (P.cellsOf e)).bind (DataW.trod enc P w base spare held n e) = some x) →
    ∃ ys : List α, ys.length = len ∧ (∀ j p, ys[j]? = some p → ∃ c, c.length = d.sz ∧ d.K w p c ∧ ∀ i u, c[i]? = some u → w.cell? (a.add (j * d.sz + i)) = some u) ∧ ∀ x ∈ ys, wf x := by
  intro len
  induction len with
  | zero => intro _; exact ⟨[], rfl, fun j p hp => by simp at hp, fun x hx => by simp at hx⟩
  | succ len ih =>
    intro hall
    obtain ⟨ys, hl, hy, hw⟩ := ih (fun i hi => hall i (by omega))
    obtain ⟨x, hx⟩ := hall len (by omega)
    obtain ⟨c, hc, ht⟩ := Option.bind_eq_some_iff.1 hx
    obtain ⟨y, hk, hwy⟩ := h.op ht
    refine ⟨ys ++ [y], by simp [hl], fun j p hp => ?_, fun z hz => ?_⟩
    · by_cases hj : j < len
      · rw [List.getElem?_append_left (by omega)] at hp
        exact hy j p hp
      · have hj2 : j = len := by
          have := (List.getElem?_eq_some_iff.1 hp).1
          simp [hl] at this
          omega
        subst hj2
        rw [List.getElem?_append_right (by omega), hl, Nat.sub_self] at hp
        simp at hp
        subst hp
        have hcs := World.cells?_some hc
        refine ⟨c, d.K_len hk, hk, fun i u hu => ?_⟩
        have hi := (List.getElem?_eq_some_iff.1 hu).1
        have hkl := d.K_len hk
        have h3 := hcs.2.2 i (by rw [h.cells]; omega)
        rw [hu, h.cells] at h3
        have e1 : (a.add (j * d.sz)).add i = a.add (j * d.sz + i) := by
          unfold Addr.add
          by_cases h1 : i = 0
          · simp [h1]
          · by_cases h2 : j * d.sz = 0
            · simp [h1, h2]
            · have h4 : ¬ (j * d.sz + i = 0) := by omega
              simp only [h1, h2, h4, if_false]
              congr 1
              omega
        rw [← e1]
        simpa using h3
    · rcases List.mem_append.1 hz with hz | hz
      · exact hw z hz
      · rw [List.mem_singleton.1 hz]; exact hwy
theorem Opens.slice {t e : TypeId} {α : Type} {d : Kd α} {wf : α → Prop} (ht : P.underlying t = some (.slice e)) (hc : P.cellsOf t = 1) (h : Opens P e d wf) :
    Opens P t (Kd.slice e d) (fun l => l.length ≤ maxLen ∧ ∀ x ∈ l, wf x) := by
  refine ⟨hc, fun hr => ?_⟩
  rcases DataW.trod_slice ht hr with ⟨rfl, _⟩ | ⟨a, len, cap, elems, rest, n, _, rfl, _, hb, hl, hm, hlen, hel, hsp, hns⟩
  · exact ⟨[], ⟨none, 0, rfl, Nat.le_refl _, rfl, by simp, fun h0 => absurd h0 (by simp)⟩, by simp [maxLen], fun x hx => by simp at hx⟩
  · obtain ⟨ys, hyl, hy, hw⟩ := rows_of h len (fun i hi => by
      have := hel i hi
      rw [List.getElem?_eq_getElem (by omega)] at this
      exact ⟨_, this⟩)
    have hmx : len ≤ 9223372036854775807 := by unfold maxLen at hm; omega
    exact ⟨ys, ⟨some a, cap, by rw [hyl], by omega, rfl, by omega, fun _ => ⟨a, rfl, hy⟩⟩, by unfold maxLen; omega, hw⟩
theorem OpensF.one {off : Nat} {f : Field} {α : Type} {d : Kd α} {wf : α → Prop} (ho : f.offset = off) (h : Opens P f.type d wf) : OpensF P off [f] d wf := by
  refine ⟨fun {_ enc w base spare held n cs} hl hall => ?_⟩
  obtain ⟨x, hx⟩ := hall 0 f rfl
  obtain ⟨y, hk, hw⟩ := h.op hx
  refine ⟨y, ?_, hw⟩
  rw [ho, h.cells] at hk
  rwa [List.take_of_length_le (by simp; omega)] at hk
theorem OpensF.cons {off : Nat} {f : Field} {fs : List Field} {α β : Type} {a : Kd α} {b : Kd β} {wa : α → Prop} {wb : β → Prop} (ho : f.offset = off) (h : Opens P f.type a wa) (hs : OpensF P (off + a.sz) fs b wb) :
    OpensF P off (f :: fs) (Kd.pair a b) (fun x => wa x.1 ∧ wb x.2) := by
  refine ⟨fun {_ enc w base spare held n cs} hl hall => ?_⟩
  have hl2 : cs.length = off + (a.sz + b.sz) := hl
  obtain ⟨x, hx⟩ := hall 0 f rfl
  obtain ⟨y, hk, hw⟩ := h.op hx
  obtain ⟨z, hz, hwz⟩ := hs.op (n := n) (cs := cs) (by omega) (fun i g hg => hall (i + 1) g (by simpa using hg))
  refine ⟨(y, z), ⟨(cs.drop off).take a.sz, cs.drop (off + a.sz), ?_, ?_, hz⟩, hw, hwz⟩
  · rw [← List.drop_drop, List.take_append_drop]
  · rw [ho, h.cells] at hk; exact hk
theorem Opens.struct {t : TypeId} {fs : Array Field} {α : Type} {d : Kd α} {wf : α → Prop} (ht : P.underlying t = some (.struct fs)) (hc : P.cellsOf t = d.sz) (h : OpensF P 0 fs.toList d wf) : Opens P t d wf := by
  refine ⟨hc, fun hr => ?_⟩
  obtain ⟨xs, n, _, _, hl, hxl, hall⟩ := DataW.trod_struct ht hr
  obtain ⟨y, hk, hw⟩ := h.op (n := n) (by rw [hl, hc]; omega) (fun i f hf => by
    have hf2 : fs[i]? = some f := by simpa using hf
    have := hall i f hf2
    have hi : i < xs.length := by rw [hxl]; exact (Array.getElem?_eq_some_iff.1 hf2).1
    rw [List.getElem?_eq_getElem hi] at this
    exact ⟨_, this⟩)
  exact ⟨y, by simpa using hk, hw⟩
theorem Opens.arg {H : Type} {t : TypeId} {fs : Array Field} {α : Type} {d : Kd α} {wf : α → Prop} (h : Opens P t d wf) (ht : P.underlying t = some (.struct fs)) {enc : TypeId × Value → H} {w : World} {b0 : Nat} {spare : Nat → Bool} {held : Bool} {r : Reach} {v : Value} {dd : DataW H} {ps : List MemPlace}
    (hv : Value.okWide P w r b0 t v) (hd : DataW.Trod enc P w 0 spare held t v dd ps) : ∃ y cs, v = .agg ⟨cs⟩ ∧ d.K w y cs ∧ wf y := by
  obtain ⟨cs, rfl, _⟩ := okWide_struct ht hv
  obtain ⟨fuel, hf⟩ := hd
  obtain ⟨y, hk, hw⟩ := h.op hf
  exact ⟨y, cs.toList, by simp, hk, hw⟩
end Go.Proofs.Ythmkjapmnlhflaa.Opn
end
