/- Plain facts on numbers, bits and lists, and the loops of the printed functions, each once: no Go and no memory in sight. -/
import Derived.Test.YtfbojdagjecjcaaWMore
import Derived.Laws.BitsLemmas
import Derived.DataShut
namespace Go.Proofs.Ytfbojdagjecjcaa.B
open Go.RowKit Go.Proofs.YtfbojdagjecjcaaW.PrintWords Go.Proofs.YtfbojdagjecjcaaW.PrintLast Go.Proofs.YtfbojdagjecjcaaW.PrintMore
set_option linter.unusedVariables false
set_option linter.unusedSimpArgs false

/-! ### numbers -/
theorem wrap_id {x : Int} (h1 : -9223372036854775808 ≤ x) (h2 : x ≤ 9223372036854775807) : wrap64 x = x := by unfold wrap64; omega
theorem wrap_nat {n : Nat} (h : n ≤ 9223372036854775807) : wrap64 (n : Int) = n := wrap_id (by omega) (by omega)
theorem wrap_succ {n : Nat} (h : n < 9223372036854775807) : wrap64 ((n : Int) + 1) = ((n + 1 : Nat) : Int) := by unfold wrap64; omega
theorem i64_wf {n : Int} (h : (Lit.int .i64 n).wf = true) : -9223372036854775808 ≤ n ∧ n ≤ 9223372036854775807 := by
  have := (Lit.wf_int_iff .i64 n).1 h
  simpa [IntKind.min, IntKind.max, IntKind.signed, IntKind.bits] using this
theorem u8_wf {n : Int} (h : (Lit.int .u8 n).wf = true) : 0 ≤ n ∧ n < 256 := by
  have := (Lit.wf_int_iff .u8 n).1 h
  simp [IntKind.min, IntKind.max, IntKind.signed, IntKind.bits] at this
  omega
theorem rd_nat {xs : List Int} {i : Nat} (h : i < xs.length) : rd xs (i : Int) = xs[i] := by
  simp [rd, List.getD_eq_getElem?_getD, List.getElem?_eq_getElem h]
theorem getD_nat {α : Type} {xs : List α} {z : α} {i : Nat} (h : i < xs.length) : xs.getD ((i : Int)).toNat z = xs[i] := by
  simp [List.getD_eq_getElem?_getD, List.getElem?_eq_getElem h]

/-! ### tests -/
def inB (n lo hi : Int) : Bool := decide (lo ≤ n) && decide (n ≤ hi)
theorem inB_eq (n lo hi : Int) : (if n ≥ lo then some (decide (n ≤ hi)) else some false) = some (inB n lo hi) := by
  unfold inB
  by_cases h : lo ≤ n <;> simp [h]
theorem inB_iff {n lo hi : Int} : inB n lo hi = true ↔ lo ≤ n ∧ n ≤ hi := by unfold inB; simp
theorem inB_not {n lo hi : Int} : inB n lo hi = false ↔ ¬ (lo ≤ n ∧ n ≤ hi) := by rw [← inB_iff]; simp
theorem ite_some {α : Type} (c : Prop) [Decidable c] (a b : α) : (if c then some a else some b) = some (if c then a else b) := by split <;> rfl
def holdB (n : Int) : Bool := if n = 0 then true else inB n 3 200

/-! ### loops -/
/-- A loop over a list that looks at each element and may answer. -/
def scan {α ρ : Type} (step : α → Option ρ) (fin : ρ) : List α → ρ
  | [] => fin
  | x :: xs => match step x with | some r => r | none => scan step fin xs
theorem scan_from {α ρ : Type} {L : Nat → Int → Option ρ} {xs : List α} {step : α → Option ρ} {fin : ρ} {B : Nat}
    (hs : ∀ k (i : Nat) (h : i < xs.length), B ≤ k → L (k + 1) (i : Int) = match step xs[i] with | some r => some r | none => L k ((i + 1 : Nat) : Int))
    (he : ∀ k, L (k + 1) (xs.length : Int) = some fin) :
    ∀ (d i k : Nat), i + d = xs.length → d + B < k → L k (i : Int) = some (scan step fin (xs.drop i)) := by
  intro d
  induction d with
  | zero =>
    intro i k hi hk
    obtain ⟨k, rfl⟩ : ∃ m, k = m + 1 := ⟨k - 1, by omega⟩
    obtain rfl : i = xs.length := by omega
    rw [he, List.drop_length]; rfl
  | succ d ih =>
    intro i k hi hk
    obtain ⟨k, rfl⟩ : ∃ m, k = m + 1 := ⟨k - 1, by omega⟩
    have hlt : i < xs.length := by omega
    rw [hs k i hlt (by omega), List.drop_eq_getElem_cons hlt]
    show _ = some (match step xs[i] with | some r => r | none => scan step fin (xs.drop (i + 1)))
    cases step xs[i] with
    | some r => rfl
    | none => exact ih (i + 1) k (by omega) (by omega)
theorem scan_loop {α ρ : Type} {L : Nat → Int → Option ρ} {xs : List α} {step : α → Option ρ} {fin : ρ} {B : Nat}
    (hs : ∀ k (i : Nat) (h : i < xs.length), B ≤ k → L (k + 1) (i : Int) = match step xs[i] with | some r => some r | none => L k ((i + 1 : Nat) : Int))
    (he : ∀ k, L (k + 1) (xs.length : Int) = some fin) {k : Nat} (hk : xs.length + B < k) : L k 0 = some (scan step fin xs) := by
  have := scan_from hs he xs.length 0 k (by omega) hk
  simpa using this
/-- A loop that looks for the first fault. -/
def firstFault {α : Type} (f : α → Int) : List α → Int
  | [] => 0
  | x :: xs => if f x = 0 then firstFault f xs else f x
theorem firstFault_scan {α : Type} (f : α → Int) (xs : List α) : scan (fun x => if f x = 0 then none else some (f x)) 0 xs = firstFault f xs := by
  induction xs with
  | nil => rfl
  | cons x xs ih =>
    unfold scan firstFault
    by_cases h : f x = 0
    · simp only [if_pos h]; exact ih
    · simp only [if_neg h]
theorem firstFault_zero {α : Type} {f : α → Int} {xs : List α} : firstFault f xs = 0 ↔ ∀ x ∈ xs, f x = 0 := by
  induction xs with
  | nil => simp [firstFault]
  | cons x xs ih =>
    unfold firstFault
    by_cases h : f x = 0 <;> simp [h, ih]
theorem fault_loop {α : Type} {L : Nat → Int → Option Int} {xs : List α} {f : α → Int} {B : Nat}
    (hs : ∀ k (i : Nat) (h : i < xs.length), B ≤ k → L (k + 1) (i : Int) = if f xs[i] = 0 then L k ((i + 1 : Nat) : Int) else some (f xs[i]))
    (he : ∀ k, L (k + 1) (xs.length : Int) = some 0) {k : Nat} (hk : xs.length + B < k) : L k 0 = some (firstFault f xs) := by
  rw [← firstFault_scan]
  refine scan_loop (B := B) (fun k i h hB => ?_) he hk
  rw [hs k i h hB]
  by_cases h0 : f xs[i] = 0 <;> simp [h0]
/-- A loop with a state. -/
def run {α σ ρ : Type} (step : Nat → σ → α → σ ⊕ ρ) (fin : σ → ρ) : Nat → σ → List α → ρ
  | _, s, [] => fin s
  | i, s, x :: xs => match step i s x with | .inl s' => run step fin (i + 1) s' xs | .inr r => r
theorem run_from {α σ ρ : Type} {L : Nat → σ → Int → Option ρ} {xs : List α} {step : Nat → σ → α → σ ⊕ ρ} {fin : σ → ρ} {B : Nat} (inv : Nat → σ → Prop)
    (hs : ∀ k (i : Nat) s (h : i < xs.length), B ≤ k → inv i s → L (k + 1) s (i : Int) = match step i s xs[i] with | .inl s' => L k s' ((i + 1 : Nat) : Int) | .inr r => some r)
    (hi : ∀ (i : Nat) s s' (h : i < xs.length), inv i s → step i s xs[i] = .inl s' → inv (i + 1) s')
    (he : ∀ k s, inv xs.length s → L (k + 1) s (xs.length : Int) = some (fin s)) :
    ∀ (d i : Nat) s (k : Nat), i + d = xs.length → inv i s → d + B < k → L k s (i : Int) = some (run step fin i s (xs.drop i)) := by
  intro d
  induction d with
  | zero =>
    intro i s k hd hinv hk
    obtain ⟨k, rfl⟩ : ∃ m, k = m + 1 := ⟨k - 1, by omega⟩
    obtain rfl : i = xs.length := by omega
    rw [he _ _ hinv, List.drop_length]; rfl
  | succ d ih =>
    intro i s k hd hinv hk
    obtain ⟨k, rfl⟩ : ∃ m, k = m + 1 := ⟨k - 1, by omega⟩
    have hlt : i < xs.length := by omega
    rw [hs k i s hlt (by omega) hinv, List.drop_eq_getElem_cons hlt]
    show _ = some (match step i s xs[i] with | .inl s' => run step fin (i + 1) s' (xs.drop (i + 1)) | .inr r => r)
    cases hst : step i s xs[i] with
    | inr r => rfl
    | inl s' => exact ih (i + 1) s' k (by omega) (hi i s s' hlt hinv hst) (by omega)
theorem run_loop {α σ ρ : Type} {L : Nat → σ → Int → Option ρ} {xs : List α} {step : Nat → σ → α → σ ⊕ ρ} {fin : σ → ρ} {B : Nat} (inv : Nat → σ → Prop)
    (hs : ∀ k (i : Nat) s (h : i < xs.length), B ≤ k → inv i s → L (k + 1) s (i : Int) = match step i s xs[i] with | .inl s' => L k s' ((i + 1 : Nat) : Int) | .inr r => some r)
    (hi : ∀ (i : Nat) s s' (h : i < xs.length), inv i s → step i s xs[i] = .inl s' → inv (i + 1) s')
    (he : ∀ k s, inv xs.length s → L (k + 1) s (xs.length : Int) = some (fin s)) {k : Nat} {s : σ} (h0 : inv 0 s) (hk : xs.length + B < k) : L k s 0 = some (run step fin 0 s xs) := by
  have := run_from inv hs hi he xs.length 0 s k (by omega) h0 hk
  simpa using this
def foldI {α σ : Type} (g : Nat → σ → α → σ) : Nat → σ → List α → σ
  | _, s, [] => s
  | i, s, x :: xs => foldI g (i + 1) (g i s x) xs
theorem run_foldI {α σ ρ : Type} (g : Nat → σ → α → σ) (fin : σ → ρ) : ∀ (xs : List α) (i : Nat) (s : σ), run (fun i s x => .inl (g i s x)) fin i s xs = fin (foldI g i s xs)
  | [], _, _ => rfl
  | _ :: xs, i, s => by
    show run (fun i s x => .inl (g i s x)) fin (i + 1) (g i s _) xs = _
    rw [run_foldI g fin xs (i + 1)]; rfl
/-- A loop that fills a list. -/
theorem set_from {α β : Type} {L : Nat → List β → Int → Option (List β)} {xs : List α} {f : α → β} {B : Nat}
    (hs : ∀ k (i : Nat) acc (h : i < xs.length), B ≤ k → acc.length = xs.length → L (k + 1) acc (i : Int) = L k (acc.set i (f xs[i])) ((i + 1 : Nat) : Int))
    (he : ∀ k acc, acc.length = xs.length → L (k + 1) acc (xs.length : Int) = some acc) :
    ∀ (d i : Nat) acc (k : Nat), i + d = xs.length → acc.length = xs.length → d + B < k → L k acc (i : Int) = some (acc.take i ++ (xs.drop i).map f) := by
  intro d
  induction d with
  | zero =>
    intro i acc k hd hl hk
    obtain ⟨k, rfl⟩ : ∃ m, k = m + 1 := ⟨k - 1, by omega⟩
    obtain rfl : i = xs.length := by omega
    rw [he _ _ hl, List.drop_length, ← hl, List.take_length]; simp
  | succ d ih =>
    intro i acc k hd hl hk
    obtain ⟨k, rfl⟩ : ∃ m, k = m + 1 := ⟨k - 1, by omega⟩
    have hlt : i < xs.length := by omega
    rw [hs k i acc hlt (by omega) hl, ih (i + 1) _ k (by omega) (by simpa using hl) (by omega)]
    rw [List.drop_eq_getElem_cons hlt, List.map_cons]
    congr 1
    rw [List.take_succ_eq_append_getElem (by simp; omega), List.append_assoc]
    congr 1
    · rw [List.take_set_of_le (Nat.le_refl _)]
    · simp
theorem set_loop {α β : Type} {L : Nat → List β → Int → Option (List β)} {xs : List α} {f : α → β} {B : Nat}
    (hs : ∀ k (i : Nat) acc (h : i < xs.length), B ≤ k → acc.length = xs.length → L (k + 1) acc (i : Int) = L k (acc.set i (f xs[i])) ((i + 1 : Nat) : Int))
    (he : ∀ k acc, acc.length = xs.length → L (k + 1) acc (xs.length : Int) = some acc) {k : Nat} {acc : List β} (h0 : acc.length = xs.length) (hk : xs.length + B < k) :
    L k acc 0 = some (xs.map f) := by
  have := set_from hs he xs.length 0 acc k (by omega) h0 hk
  simpa using this
/-- A loop that goes through. -/
theorem all_from {ρ : Type} {L : Nat → Int → Option ρ} {n : Nat} {r : ρ} {B : Nat}
    (hs : ∀ k (i : Nat), i < n → B ≤ k → L (k + 1) (i : Int) = L k ((i + 1 : Nat) : Int)) (he : ∀ k, L (k + 1) (n : Int) = some r) :
    ∀ (d i k : Nat), i + d = n → d + B < k → L k (i : Int) = some r := by
  intro d
  induction d with
  | zero =>
    intro i k hi hk
    obtain ⟨k, rfl⟩ : ∃ m, k = m + 1 := ⟨k - 1, by omega⟩
    obtain rfl : i = n := by omega
    exact he k
  | succ d ih =>
    intro i k hi hk
    obtain ⟨k, rfl⟩ : ∃ m, k = m + 1 := ⟨k - 1, by omega⟩
    rw [hs k i (by omega) (by omega)]
    exact ih (i + 1) k (by omega) (by omega)
theorem all_loop {ρ : Type} {L : Nat → Int → Option ρ} {n : Nat} {r : ρ} {B : Nat}
    (hs : ∀ k (i : Nat), i < n → B ≤ k → L (k + 1) (i : Int) = L k ((i + 1 : Nat) : Int)) (he : ∀ k, L (k + 1) (n : Int) = some r) {k : Nat} (hk : n + B < k) : L k 0 = some r := by
  have := all_from hs he n 0 k (by omega) hk
  simpa using this
/-- Marks, one behind the other. -/
def marks (g : Int → Int) (m : Int) (n : Nat) : List Int := (List.range n).map (fun (j : Nat) => g (m + (j : Int)))
theorem marks_length (g : Int → Int) (m : Int) (n : Nat) : (marks g m n).length = n := by simp [marks]
theorem marks_get (g : Int → Int) (m : Int) (n i : Nat) (h : i < (marks g m n).length) : (marks g m n)[i] = g (m + i) := by simp [marks]
theorem marks_succ (g : Int → Int) (m : Int) (n : Nat) : marks g m (n + 1) = g m :: marks g (m + 1) n := by
  unfold marks
  rw [List.range_succ_eq_map, List.map_cons, List.map_map]
  congr 1
  · simp
  · apply List.map_congr_left
    intro j _
    show g (m + ((j + 1 : Nat) : Int)) = g (m + 1 + j)
    congr 1
    omega
theorem mark_from {L : Nat → List Int → Int → Int → Option (Int × List Int)} {n : Nat} {g : Int → Int}
    (hs : ∀ k acc m (i : Nat), i < n → acc.length = n → 0 ≤ m → m ≤ 1000000000 → L (k + 1) acc m (i : Int) = L k (acc.set i (g m)) (m + 1) ((i + 1 : Nat) : Int))
    (he : ∀ k acc m, acc.length = n → L (k + 1) acc m (n : Int) = some (m, acc)) :
    ∀ (d i : Nat) (acc : List Int) (m : Int) (k : Nat), i + d = n → acc.length = n → 0 ≤ m → m + d ≤ 1000000000 → d < k → L k acc m (i : Int) = some (m + d, acc.take i ++ marks g m d) := by
  intro d
  induction d with
  | zero =>
    intro i acc m k hd hl h0 h1 hk
    obtain ⟨k, rfl⟩ : ∃ m, k = m + 1 := ⟨k - 1, by omega⟩
    obtain rfl : i = n := by omega
    rw [he _ _ _ hl, ← hl, List.take_length]; simp [marks]
  | succ d ih =>
    intro i acc m k hd hl h0 h1 hk
    obtain ⟨k, rfl⟩ : ∃ m, k = m + 1 := ⟨k - 1, by omega⟩
    have hlt : i < n := by omega
    rw [hs k acc m i hlt hl h0 (by omega), ih (i + 1) _ (m + 1) k (by omega) (by simpa using hl) (by omega) (by omega) (by omega), marks_succ]
    have e : (m + 1 + (d : Int)) = m + ((d + 1 : Nat) : Int) := by omega
    rw [e, List.take_succ_eq_append_getElem (by simp; omega), List.append_assoc]
    congr 3
    · rw [List.take_set_of_le (Nat.le_refl _)]
    · simp
theorem mark_loop {L : Nat → List Int → Int → Int → Option (Int × List Int)} {n : Nat} {g : Int → Int}
    (hs : ∀ k acc m (i : Nat), i < n → acc.length = n → 0 ≤ m → m ≤ 1000000000 → L (k + 1) acc m (i : Int) = L k (acc.set i (g m)) (m + 1) ((i + 1 : Nat) : Int))
    (he : ∀ k acc m, acc.length = n → L (k + 1) acc m (n : Int) = some (m, acc)) {acc : List Int} {m : Int} {k : Nat} (hl : acc.length = n) (h0 : 0 ≤ m) (h1 : m + n ≤ 1000000000) (hk : n < k) :
    L k acc m 0 = some (m + n, marks g m n) := by
  have := mark_from hs he n 0 acc m k (by omega) hl h0 h1 hk
  simpa using this
theorem held_from {L : Nat → Int → Int → Option Int} {n : Nat} {m0 : Int}
    (hs : ∀ k (i : Nat), i < n → L (k + 1) (m0 + i) (i : Int) = L k (m0 + ((i + 1 : Nat) : Int)) ((i + 1 : Nat) : Int)) (he : ∀ k m, L (k + 1) m (n : Int) = some m) :
    ∀ (d i k : Nat), i + d = n → d < k → L k (m0 + i) (i : Int) = some (m0 + n) := by
  intro d
  induction d with
  | zero =>
    intro i k hi hk
    obtain ⟨k, rfl⟩ : ∃ m, k = m + 1 := ⟨k - 1, by omega⟩
    obtain rfl : i = n := by omega
    exact he k _
  | succ d ih =>
    intro i k hi hk
    obtain ⟨k, rfl⟩ : ∃ m, k = m + 1 := ⟨k - 1, by omega⟩
    rw [hs k i (by omega)]
    exact ih (i + 1) k (by omega) (by omega)
theorem held_loop {L : Nat → Int → Int → Option Int} {n : Nat} {m0 : Int}
    (hs : ∀ k (i : Nat), i < n → L (k + 1) (m0 + i) (i : Int) = L k (m0 + ((i + 1 : Nat) : Int)) ((i + 1 : Nat) : Int)) (he : ∀ k m, L (k + 1) m (n : Int) = some m) {k : Nat} (hk : n < k) : L k m0 0 = some (m0 + n) := by
  have := held_from hs he n 0 k (by omega) hk
  simpa using this

/-! ### prefixes -/
theorem len_cases {l : Int} (h0 : 0 ≤ l) (h1 : l ≤ 16) : l = 0 ∨ l = 1 ∨ l = 2 ∨ l = 3 ∨ l = 4 ∨ l = 5 ∨ l = 6 ∨ l = 7 ∨ l = 8 ∨ l = 9 ∨ l = 10 ∨ l = 11 ∨ l = 12 ∨ l = 13 ∨ l = 14 ∨ l = 15 ∨ l = 16 := by omega
/-- How many addresses a prefix of that length has. -/
def span (l : Int) : Int := 2 ^ (16 - l).toNat
theorem span_pos (l : Int) : 0 < span l := by unfold span; exact Int.pow_pos (by decide)
theorem shl_span {l : Int} (h0 : 0 ≤ l) (h1 : l ≤ 16) : wrap64 (shl .i64 1 (wrap64 (16 - l)) - 1) = span l - 1 := by
  rcases len_cases h0 h1 with h | h | h | h | h | h | h | h | h | h | h | h | h | h | h | h | h <;> subst h <;> decide +kernel
theorem shl_span2 {l : Int} (h0 : 0 ≤ l) (h1 : l ≤ 16) : wrap64 (shl .i64 1 (IntKind.u64.wrap (wrap64 (16 - l))) - 1) = span l - 1 := by
  rcases len_cases h0 h1 with h | h | h | h | h | h | h | h | h | h | h | h | h | h | h | h | h <;> subst h <;> decide +kernel
theorem cnt_ok {l : Int} (h0 : 0 ≤ l) (h1 : l ≤ 16) : 0 ≤ wrap64 (16 - l) := by rw [wrap_id (by omega) (by omega)]; omega
theorem cnt_ok2 {l : Int} (h0 : 0 ≤ l) (h1 : l ≤ 16) : 0 ≤ IntKind.u64.wrap (wrap64 (16 - l)) := by
  rcases len_cases h0 h1 with h | h | h | h | h | h | h | h | h | h | h | h | h | h | h | h | h <;> subst h <;> decide +kernel
theorem shr_span {x l : Int} (h0 : 0 ≤ l) (h1 : l ≤ 16) : shr .i64 x (wrap64 (16 - l)) = x / span l := by
  rw [wrap_id (by omega) (by omega)]
  unfold shr span
  have hb : IntKind.i64.bits = 64 := rfl
  rw [Nat.min_eq_left (by rw [hb]; omega)]
theorem and_span {x l : Int} (h0 : 0 ≤ l) (h1 : l ≤ 16) (hx0 : 0 ≤ x) (hx1 : x ≤ 65535) : Go.bits .and .i64 x (span l - 1) = x % span l := by
  unfold span
  exact bits_mask .i64 62 (by decide) (fun n a b => by rw [IntKind.wrap_i64]; omega) _ (by omega) x hx0 (by omega)
theorem andNot_span {x l : Int} (h0 : 0 ≤ l) (h1 : l ≤ 16) (hx0 : 0 ≤ x) (hx1 : x ≤ 65535) : Go.bits .andNot .i64 x (span l - 1) = x - x % span l := by
  obtain ⟨a, rfl⟩ := Int.eq_ofNat_of_zero_le hx0
  have key : ∀ m : Nat, m ≤ 16 → ∀ n : Nat, n < 65536 → (BitVec.ofNat 64 n &&& ~~~ BitVec.ofNat 64 (2 ^ m - 1)).toNat = 2 ^ m * (n / 2 ^ m) := by
    intro m hm n hn
    apply Nat.eq_of_testBit_eq
    intro i
    rw [Nat.testBit_two_pow_mul, BitVec.testBit_toNat, BitVec.getLsbD_and, BitVec.getLsbD_not, BitVec.getLsbD_ofNat, BitVec.getLsbD_ofNat, Nat.testBit_two_pow_sub_one, Nat.testBit_div_two_pow]
    by_cases hi : i < 64
    · by_cases hmi : m ≤ i
      · have e : i - m + m = i := by omega
        simp [hi, hmi, e, Nat.not_lt.2 hmi]
      · simp [hi, hmi, Nat.lt_of_not_le hmi]
    · have hn2 : n.testBit i = false := Nat.testBit_lt_two_pow (Nat.lt_of_lt_of_le hn (Nat.le_trans (by decide) (Nat.pow_le_pow_right (by decide) (Nat.le_of_not_lt hi))))
      by_cases hmi : m ≤ i
      · have e : i - m + m = i := by omega
        simp [hi, hmi, e, hn2]
      · omega
  have hp : span l - 1 = ((2 ^ (16 - l).toNat - 1 : Nat) : Int) := by
    unfold span
    rw [Int.natCast_sub (Nat.two_pow_pos _)]; simp
  have hs : span l = ((2 ^ (16 - l).toNat : Nat) : Int) := by unfold span; simp
  have hb : Go.bits .andNot .i64 (a : Int) (span l - 1) = IntKind.i64.wrap ((BitVec.ofNat 64 a &&& ~~~ BitVec.ofNat 64 (2 ^ (16 - l).toNat - 1)).toNat : Int) := by
    rw [hp]
    show IntKind.i64.wrap ((BitVec.ofInt 64 _ &&& ~~~ BitVec.ofInt 64 _).toNat : Int) = _
    rw [BitVec.ofInt_natCast, BitVec.ofInt_natCast]
  have hdm := Nat.div_add_mod a (2 ^ (16 - l).toNat)
  rw [hb, key _ (by omega) a (by omega), hs]
  have hle : 2 ^ (16 - l).toNat * (a / 2 ^ (16 - l).toNat) ≤ a := Nat.mul_div_le _ _
  rw [IntKind.wrap_i64]
  have e2 : ((2 ^ (16 - l).toNat * (a / 2 ^ (16 - l).toNat) : Nat) : Int) = (a : Int) - ((a % 2 ^ (16 - l).toNat : Nat) : Int) := by omega
  have e5 : ((a % 2 ^ (16 - l).toNat : Nat) : Int) = (a : Int) % ((2 ^ (16 - l).toNat : Nat) : Int) := Int.natCast_emod _ _
  rw [e2, ← e5]
  have h3 : a % 2 ^ (16 - l).toNat ≤ a := Nat.mod_le _ _
  omega
/-- What is not right of a prefix. -/
def prefixFault (a l : Int) : Int := if inB a 0 65535 = true then (if inB l 0 16 = true then (if a % span l = 0 then 0 else 1) else 3) else 3
/-- Whether a good prefix has an address. -/
def hasB (a l x : Int) : Bool := decide (x - x % span l = a)
theorem prefixFault_ok {a l : Int} (h : prefixFault a l = 0) : 0 ≤ a ∧ a ≤ 65535 ∧ 0 ≤ l ∧ l ≤ 16 ∧ a % span l = 0 := by
  unfold prefixFault at h
  by_cases h1 : inB a 0 65535 = true
  · by_cases h2 : inB l 0 16 = true
    · by_cases h3 : a % span l = 0
      · have := inB_iff.1 h1; have := inB_iff.1 h2; exact ⟨by omega, by omega, by omega, by omega, h3⟩
      · simp [h1, h2, h3] at h
    · simp [h1, h2] at h
  · simp [h1] at h
theorem has_div {a l x : Int} (h : prefixFault a l = 0) : (x / span l == a / span l) = hasB a l x := by
  obtain ⟨_, _, _, _, hm⟩ := prefixFault_ok h
  unfold hasB
  have h1 := Int.mul_ediv_add_emod x (span l)
  have h2 := Int.mul_ediv_add_emod a (span l)
  have hp := span_pos l
  rw [Bool.eq_iff_iff]
  simp only [beq_iff_eq, decide_eq_true_eq]
  constructor
  · intro e
    rw [e] at h1
    omega
  · intro e
    have e3 : span l * (x / span l) = span l * (a / span l) := by omega
    exact Int.eq_of_mul_eq_mul_left (by omega) e3
def within (a l b m : Int) : Bool := if prefixFault a l = 0 then (if prefixFault b m = 0 then (if l ≥ m then hasB b m a else false) else false) else false
def hasAddr (a l x : Int) : Bool := if prefixFault a l = 0 then (if inB x 0 65535 = true then hasB a l x else false) else false
def configFault (a b c : Int) : Int := if inB a 1 65535 = true then (if inB b 1 65535 = true then (if holdB c = true then 0 else 3) else 3) else 3
def sessionFault (st peer hold since spoke : Int) : Int :=
  if (inB st 0 3 && inB peer 0 65535 && holdB hold && inB since 0 1000 && inB spoke 0 1000) = true then
    (if st = 0 then (if (peer = 0 ∧ hold = 0 ∧ since = 0 ∧ spoke = 0) then 0 else 1) else if st = 1 then (if (peer = 0 ∧ hold = 0) then 0 else 1) else (if peer = 0 then 1 else 0))
  else 3
def ruleFault (a l least most as_ : Int) (deny : Bool) (loc pre : Int) : Int :=
  if prefixFault a l = 0 then
    (if (inB least 0 16 && inB most 0 16 && inB as_ 0 65535 && inB loc (-1) 65535 && inB pre 0 3) = true then
      (if least > most then 1 else if deny = true then (if (loc = -1 ∧ pre = 0) then 0 else 1) else 0)
    else 3)
  else prefixFault a l
def frameFault (kind : Int) (n : Nat) : Int := if inB kind 1 4 = true then (if (n : Int) > 120 then 2 else 0) else 3

/-! ### bytes -/
def numOf (l : List Int) : Int := l.foldl (fun n b => n * 256 + b) 0
def sumOf (l : List Int) : Int := l.foldl (fun h b => (h * 257 + b + 1) % 65521) 7
theorem run_foldl {α σ ρ : Type} (g : σ → α → σ) (fin : σ → ρ) : ∀ (xs : List α) (i : Nat) (s : σ), run (fun _ s x => .inl (g s x)) fin i s xs = fin (xs.foldl g s)
  | [], _, _ => rfl
  | _ :: xs, i, s => by
    show run (fun _ s x => .inl (g s x)) fin (i + 1) (g s _) xs = _
    rw [run_foldl g fin xs (i + 1)]; rfl
theorem or_byte {x b : Int} (h0 : 0 ≤ x) (h1 : x < 281474976710656) (hb0 : 0 ≤ b) (hb1 : b < 256) : Go.bits .or .i64 (x * 256) b = x * 256 + b :=
  bits_join .i64 62 (by decide) (fun n a b => by rw [IntKind.wrap_i64]; omega) 8 _ _ (by omega) (by omega) (by omega) hb0 (by omega) (by omega)
theorem or_wrap {s b : Int} (h0 : 0 ≤ s) (h1 : s < 1099511627776) (hb0 : 0 ≤ b) (hb1 : b < 256) : Go.bits .or .i64 (wrap64 (s * 256)) (wrap64 b) = s * 256 + b := by
  rw [wrap_id (x := s * 256) (by omega) (by omega), wrap_id (x := b) (by omega) (by omega), or_byte h0 (by omega) hb0 hb1]
theorem take_wrap {s b : Int} (h0 : 0 ≤ s) (h1 : s < 1099511627776) (hb0 : 0 ≤ b) (hb1 : b < 256) : wrap64 (wrap64 (s * 256) + wrap64 b) = s * 256 + b := by
  rw [wrap_id (x := s * 256) (by omega) (by omega), wrap_id (x := b) (by omega) (by omega), wrap_id (by omega) (by omega)]
theorem pow256 {i : Nat} (h : i ≤ 5) : 256 ^ i ≤ 1099511627776 := Nat.pow_le_pow_right (n := 256) (by decide) h
theorem pow256_succ (i : Nat) : 256 ^ (i + 1) = 256 ^ i * 256 := Nat.pow_succ ..
theorem numOf_step {i : Nat} {s b : Int} (hi : i ≤ 5) (h0 : 0 ≤ s) (h1 : s < ((256 ^ i : Nat) : Int)) (hb0 : 0 ≤ b) (hb1 : b < 256) :
    0 ≤ s * 256 + b ∧ s * 256 + b < ((256 ^ (i + 1) : Nat) : Int) ∧ s < 1099511627776 := by
  have h2 := pow256 hi
  have h3 := pow256_succ i
  refine ⟨by omega, by omega, by omega⟩
theorem sumOf_step {s b : Int} (h0 : 0 ≤ s) (h1 : s < 65521) (hb0 : 0 ≤ b) (hb1 : b < 256) :
    Int.tmod (wrap64 (wrap64 (wrap64 (s * 257) + wrap64 b) + 1)) 65521 = (s * 257 + b + 1) % 65521 := by
  rw [wrap_id (x := s * 257) (by omega) (by omega), wrap_id (x := b) (by omega) (by omega), wrap_id (x := s * 257 + b) (by omega) (by omega), wrap_id (by omega) (by omega)]
  exact Int.tmod_eq_emod_of_nonneg (by omega)
theorem sumOf_bound {l : List Int} : 0 ≤ sumOf l ∧ sumOf l < 65521 := by
  have : ∀ (l : List Int) (h : Int), 0 ≤ h → h < 65521 → 0 ≤ l.foldl (fun h b => (h * 257 + b + 1) % 65521) h ∧ l.foldl (fun h b => (h * 257 + b + 1) % 65521) h < 65521 := by
    intro l
    induction l with
    | nil => intro h h0 h1; exact ⟨h0, h1⟩
    | cons x xs ih => intro h h0 h1; exact ih _ (Int.emod_nonneg _ (by decide)) (Int.emod_lt_of_pos _ (by decide))
  exact this l 7 (by decide) (by decide)
/-- A number in two bytes. -/
def two (n : Int) : List Int := [(n / 256) % 256, n % 256]
theorem two_length (n : Int) : (two n).length = 2 := rfl
def packF (kind : Int) (l : List Int) : List Int := [255, 255] ++ two (5 + (l.length : Int)) ++ [kind % 256] ++ l
theorem packF_length (kind : Int) (l : List Int) : (packF kind l).length = 5 + l.length := by simp [packF, two]; omega

/-! ### being in a list -/
def memB (l : List Int) (x : Int) : Bool := decide (x ∈ l)
theorem scan_mem (l : List Int) (x : Int) : scan (fun y => if y = x then some true else none) false l = memB l x := by
  induction l with
  | nil => rfl
  | cons y ys ih =>
    unfold scan memB
    by_cases h : y = x
    · simp [h]
    · have h2 : ¬ x = y := fun e => h e.symm
      simp only [if_neg h, List.mem_cons, h2, false_or]
      exact ih
theorem run_index (l : List Int) (x : Int) : ∀ i : Nat, decide (run (fun (i : Nat) (_ : Unit) (y : Int) => if x = y then Sum.inr (i : Int) else Sum.inl ()) (fun _ => (-1 : Int)) i () l ≥ 0) = memB l x := by
  induction l with
  | nil => intro i; rfl
  | cons y ys ih =>
    intro i
    unfold run memB
    by_cases h : x = y
    · simp [h]
    · simp only [if_neg h, List.mem_cons, h, false_or]
      exact ih (i + 1)
theorem run_indexP {α : Type} (p : α → Bool) (l : List α) : ∀ i : Nat, decide (run (fun (i : Nat) (_ : Unit) (y : α) => if p y = true then Sum.inr (i : Int) else Sum.inl ()) (fun _ => (-1 : Int)) i () l ≥ 0) = l.any p := by
  induction l with
  | nil => intro i; rfl
  | cons y ys ih =>
    intro i
    unfold run
    rw [List.any_cons]
    by_cases h : p y = true
    · simp [h]
    · have h2 : p y = false := by simpa using h
      simp only [if_neg h, h2, Bool.false_or]
      exact ih (i + 1)
theorem scan_anyNot (l : List Int) (a b : Int) : scan (fun y => if inB y 1 65535 = true then none else some a) b l = if l.any (fun x => !inB x 1 65535) = true then a else b := by
  induction l with
  | nil => rfl
  | cons y ys ih =>
    unfold scan
    rw [List.any_cons]
    by_cases h : inB y 1 65535 = true
    · simp only [if_pos h, h, Bool.not_true, Bool.false_or]; exact ih
    · have h2 : inB y 1 65535 = false := by simpa using h
      simp [h2]
def attrsFault (o : Int) (p : List Int) (n m l : Int) : Int :=
  if (inB o 0 2 && inB n 0 65535 && inB m 0 65535 && inB l 0 65535) = true then (if (6 : Int) < p.length then 2 else if p.any (fun x => !inB x 1 65535) = true then 3 else 0) else 3
theorem attrsFault_ok {o : Int} {p : List Int} {n m l : Int} (h : attrsFault o p n m l = 0) : 0 ≤ o ∧ o ≤ 2 ∧ p.length ≤ 6 ∧ (∀ x ∈ p, 1 ≤ x ∧ x ≤ 65535) ∧ (0 ≤ n ∧ n ≤ 65535) ∧ (0 ≤ m ∧ m ≤ 65535) ∧ 0 ≤ l ∧ l ≤ 65535 := by
  unfold attrsFault at h
  by_cases h0 : (inB o 0 2 && inB n 0 65535 && inB m 0 65535 && inB l 0 65535) = true
  · rw [if_pos h0] at h
    by_cases h6 : (6 : Int) < p.length
    · rw [if_pos h6] at h; exact absurd h (by decide)
    · rw [if_neg h6] at h
      by_cases ha : p.any (fun x => !inB x 1 65535) = true
      · rw [if_pos ha] at h; exact absurd h (by decide)
      · simp only [Bool.and_eq_true, inB_iff] at h0
        refine ⟨h0.1.1.1.1, h0.1.1.1.2, by omega, fun x hx => ?_, h0.1.1.2, h0.1.2, h0.2.1, h0.2.2⟩
        by_cases hb : inB x 1 65535 = true
        · exact inB_iff.1 hb
        · exact absurd (List.any_eq_true.2 ⟨x, hx, by simpa using hb⟩) ha
  · rw [if_neg h0] at h; exact absurd h (by decide)
theorem attrsFault_of {o : Int} {p : List Int} {n m l : Int} (h1 : 0 ≤ o ∧ o ≤ 2) (h2 : p.length ≤ 6) (h3 : ∀ x ∈ p, 1 ≤ x ∧ x ≤ 65535) (h4 : 0 ≤ n ∧ n ≤ 65535) (h5 : 0 ≤ m ∧ m ≤ 65535) (h6 : 0 ≤ l ∧ l ≤ 65535) : attrsFault o p n m l = 0 := by
  unfold attrsFault
  rw [if_pos (by simp only [Bool.and_eq_true, inB_iff]; exact ⟨⟨⟨h1, h4⟩, h5⟩, h6⟩), if_neg (by omega), if_neg]
  intro ha
  obtain ⟨x, hx, hb⟩ := List.any_eq_true.1 ha
  rw [inB_iff.2 (h3 x hx)] at hb
  cases hb
def exportAttrs (o : Int) (p : List Int) (n m l mine next : Int) : Int × Int × Int × List Int × Int × Int × Int :=
  if attrsFault o p n m l = 0 then
    (if (inB mine 1 65535 && inB next 0 65535) = true then (if (p.length : Int) ≥ 6 then (2, 0, 0, [], 0, 0, 0) else (0, -1, o, [mine] ++ p, next, 0, 0)) else (3, 0, 0, [], 0, 0, 0))
  else (attrsFault o p n m l, 0, 0, [], 0, 0, 0)
theorem exportAttrs_len (o : Int) (p : List Int) (n m l mine next : Int) : (exportAttrs o p n m l mine next).2.2.2.1.length ≤ 6 := by
  unfold exportAttrs
  repeat' split
  all_goals simp
  omega

/-! ### comparing -/
def cmpI (a b : Int) : Int := if a < b then -1 else if a > b then 1 else 0
def orI : List Int → Int
  | [] => 0
  | x :: xs => if x = 0 then orI xs else x
theorem scan_or (l : List Int) : scan (fun y => if y = 0 then none else some y) 0 l = orI l := by
  induction l with
  | nil => rfl
  | cons y ys ih =>
    unfold scan orI
    by_cases h : y = 0
    · simp only [if_pos h]; exact ih
    · simp only [if_neg h]
/-- Whether a route is better: peer, origin, length of the path, med, local of both. -/
def betterB (ap ao : Int) (an : Nat) (am al bp bo : Int) (bn : Nat) (bm bl : Int) : Bool :=
  if al = bl then (if an = bn then (if ao = bo then (if am = bm then decide (ap < bp) else decide (am < bm)) else decide (ao < bo)) else decide (an < bn)) else decide (al > bl)
theorem betterB_asymm {ap ao : Int} {an : Nat} {am al bp bo : Int} {bn : Nat} {bm bl : Int} (h : betterB ap ao an am al bp bo bn bm bl = true) : betterB bp bo bn bm bl ap ao an am al = false := by
  unfold betterB at *
  repeat' split at h
  all_goals (simp only [decide_eq_true_eq] at h; repeat' split)
  all_goals (simp only [decide_eq_false_iff_not]; omega)
theorem betterB_total {ap ao : Int} {an : Nat} {am al bp bo : Int} {bn : Nat} {bm bl : Int} (hne : ap ≠ bp) (h : betterB ap ao an am al bp bo bn bm bl = false) : betterB bp bo bn bm bl ap ao an am al = true := by
  unfold betterB at *
  repeat' split at h
  all_goals (simp only [decide_eq_false_iff_not] at h; repeat' split)
  all_goals (simp only [decide_eq_true_eq]; omega)
theorem betterB_trans {ap ao : Int} {an : Nat} {am al bp bo : Int} {bn : Nat} {bm bl cp co : Int} {cn : Nat} {cm cl : Int} (h : betterB ap ao an am al bp bo bn bm bl = true) (h2 : betterB bp bo bn bm bl cp co cn cm cl = true) : betterB ap ao an am al cp co cn cm cl = true := by
  unfold betterB at *
  repeat' split at h
  all_goals (simp only [decide_eq_true_eq] at h; repeat' split at h2)
  all_goals (simp only [decide_eq_true_eq] at h2; repeat' split)
  all_goals (simp only [decide_eq_true_eq]; omega)

/-! ### events and entries -/
def eventFault (kind peer : Int) (n : Nat) : Int :=
  if inB kind 1 4 = true then
    (if inB peer 0 2 = true then
      (if kind = 3 ∧ peer ≠ 0 then 3 else if (kind = 2) ↔ 0 < n then (if (n : Int) > 60 then 2 else 0) else 1)
    else 3)
  else 1
def entryFault (e kind peer : Int) (n : Nat) : Int := if inB e 1 1000 = true then eventFault kind peer n else 3

/-! ### sizes -/
/-- What is left behind a list of that length. -/
def szB (left : Int) (n : Nat) : Int := if left - n < 0 then -1 else left - n
theorem szB_eq {left : Int} {n : Nat} (h0 : -1 ≤ left) (h1 : left ≤ 1048576) (hn : n ≤ maxLen) :
    (if wrap64 (left - (n : Int)) < 0 then some (-1 : Int) else some (wrap64 (left - (n : Int)))) = some (szB left n) := by
  unfold maxLen at hn
  unfold szB
  rw [wrap_id (by omega) (by omega), ite_some]
theorem szB_bound {left : Int} {n : Nat} (h1 : left ≤ 1048576) : -1 ≤ szB left n ∧ szB left n ≤ 1048576 := by unfold szB; split <;> omega
theorem szB_neg {left : Int} {n : Nat} : szB left n < 0 ↔ left < n := by unfold szB; split <;> omega
theorem szB_neg_one {left : Int} {n : Nat} (h : szB left n < 0) : szB left n = -1 := by unfold szB at *; split at h <;> first | rfl | omega
theorem szB_again (left : Int) (n : Nat) : (if szB left n < 0 then some (-1 : Int) else some (szB left n)) = some (szB left n) := by
  unfold szB; split <;> simp_all
theorem scan_all {α : Type} (p : α → Bool) (l : List α) : scan (fun x => if p x = true then none else some false) true l = l.all p := by
  induction l with
  | nil => rfl
  | cons x xs ih =>
    unfold scan
    rw [List.all_cons]
    by_cases h : p x = true
    · simp only [if_pos h, h, Bool.true_and]; exact ih
    · have h2 : p x = false := by simpa using h
      simp [h2]
/-- Two lists, side by side. -/
def zipAll {α β : Type} (p : α → β → Bool) (a : List α) (b : List β) : Bool := if a.length = b.length then (a.zip b).all (fun q => p q.1 q.2) else false
theorem zip_loop {α β : Type} {L : Nat → Int → Option Bool} {a : List α} {b : List β} {p : α → β → Bool} {B : Nat} (hl : a.length = b.length)
    (hs : ∀ k (i : Nat) (h : i < a.length) (h2 : i < b.length), B ≤ k → L (k + 1) (i : Int) = if p a[i] b[i] = true then L k ((i + 1 : Nat) : Int) else some false)
    (he : ∀ k, L (k + 1) (a.length : Int) = some true) {k : Nat} (hk : a.length + B < k) : L k 0 = some (zipAll p a b) := by
  have hz : (a.zip b).length = a.length := by simp [hl]
  unfold zipAll
  rw [if_pos hl, ← scan_all]
  refine scan_loop (B := B) (fun k i h hB => ?_) (fun k => by rw [hz]; exact he k) (by rw [hz]; exact hk)
  rw [hs k i (by omega) (by omega) hB, List.getElem_zip]
  by_cases hp : p (a[i]'(by omega)) (b[i]'(by omega)) = true <;> simp [hp]
theorem zipAll_refl {α : Type} {p : α → α → Bool} {a : List α} (h : ∀ x ∈ a, p x x = true) : zipAll p a a = true := by
  unfold zipAll
  rw [if_pos rfl, List.all_eq_true]
  intro q hq
  induction a with
  | nil => simp at hq
  | cons x xs ih =>
    simp only [List.zip_cons_cons, List.mem_cons] at hq
    rcases hq with rfl | hq
    · exact h _ (by simp)
    · exact ih (fun y hy => h y (by simp [hy])) hq
def sameL (a b : List Int) : Bool := zipAll (fun x y => decide (x = y)) a b
def sameA (o : Int) (p : List Int) (n m l o' : Int) (p' : List Int) (n' m' l' : Int) : Bool := decide (o = o') && sameL p p' && decide (n = n') && decide (m = m') && decide (l = l')
/-- What is left behind a list of lists. -/
def szL {α : Type} (f : α → Nat) : Int → List α → Int
  | left, [] => left
  | left, x :: xs => if szB left (f x) < 0 then -1 else szL f (szB left (f x)) xs
def szS {α : Type} (f : α → Nat) (left : Int) (l : List α) : Int := if szB left l.length < 0 then -1 else szL f (szB left l.length) l
theorem szL_bound {α : Type} (f : α → Nat) : ∀ (l : List α) (left : Int), -1 ≤ left → left ≤ 1048576 → -1 ≤ szL f left l ∧ szL f left l ≤ left
  | [], left, h0, h1 => ⟨h0, Int.le_refl _⟩
  | x :: xs, left, h0, h1 => by
    unfold szL
    split
    · exact ⟨by decide, h0⟩
    · rename_i h
      have hb : szB left (f x) ≤ left := by unfold szB; split <;> omega
      have := szL_bound f xs (szB left (f x)) (by omega) (by omega)
      exact ⟨this.1, by omega⟩
theorem szL_ok {α : Type} (f : α → Nat) : ∀ (l : List α) (left : Int), left ≤ 1048576 → ¬ szL f left l < 0 → ∀ x ∈ l, (f x : Int) ≤ left
  | [], _, _, _ => fun x hx => by simp at hx
  | y :: ys, left, h1, h => by
    unfold szL at h
    split at h
    · exact absurd (by decide) h
    · rename_i h2
      have hy : (f y : Int) ≤ left := by
        have := mt szB_neg.2 h2
        omega
      have hb : szB left (f y) ≤ left := by unfold szB; rw [if_neg (by omega)]; omega
      intro x hx
      rcases List.mem_cons.1 hx with rfl | hx
      · exact hy
      · have := szL_ok f ys (szB left (f y)) (by omega) h x hx
        omega
theorem szS_bound {α : Type} (f : α → Nat) (l : List α) {left : Int} (h0 : -1 ≤ left) (h1 : left ≤ 1048576) : -1 ≤ szS f left l ∧ szS f left l ≤ left := by
  unfold szS
  split
  · exact ⟨by decide, h0⟩
  · have hb : szB left l.length ≤ left := by unfold szB; split <;> omega
    have := szL_bound f l (szB left l.length) (by omega) (by omega)
    exact ⟨this.1, by omega⟩
theorem szS_ok {α : Type} {f : α → Nat} {l : List α} {left : Int} (h1 : left ≤ 1048576) (h : ¬ szS f left l < 0) : (l.length : Int) ≤ left ∧ ∀ x ∈ l, (f x : Int) ≤ left := by
  unfold szS at h
  split at h
  · exact absurd (by decide) h
  · rename_i h2
    have hy : (l.length : Int) ≤ left := by
      have := mt szB_neg.2 h2
      omega
    have hb : szB left l.length ≤ left := by unfold szB; rw [if_neg (by omega)]; omega
    have h3 := szL_ok f l (szB left l.length) (by omega) h
    refine ⟨by have := mt szB_neg.2 h2; omega, fun x hx => by have := h3 x hx; omega⟩
theorem run_szL {α : Type} (f : α → Nat) : ∀ (l : List α) (i : Nat) (left : Int), run (fun (_ : Nat) (s : Int) (x : α) => if szB s (f x) < 0 then Sum.inr (-1 : Int) else Sum.inl (szB s (f x))) id i left l = szL f left l
  | [], _, _ => rfl
  | x :: xs, i, left => by
    unfold run szL
    by_cases h : szB left (f x) < 0
    · simp only [if_pos h]
    · simp only [if_neg h]
      exact run_szL f xs (i + 1) _
def aheadB (a l b m : Int) : Bool := if a = b then decide (l < m) else decide (a < b)
def cmpP (a l b m : Int) : Int := orI [cmpI a b, cmpI l m]
theorem cmpP_ahead (a l b m : Int) : (cmpP a l b m ≥ 0) ↔ aheadB a l b m = false := by
  unfold cmpP aheadB cmpI orI orI orI
  by_cases h1 : a = b
  · by_cases h2 : l < m
    · simp [h1, h2]
    · by_cases h3 : m < l <;> simp [h1, h2, h3] <;> omega
  · by_cases h2 : a < b
    · simp [h1, h2]
    · have h3 : b < a := by omega
      simp [h1, h2, h3] <;> omega
theorem cmpP_zero {a l b m : Int} : cmpP a l b m = 0 ↔ a = b ∧ l = m := by
  unfold cmpP cmpI orI orI orI
  by_cases h1 : a < b
  · simp [h1]; omega
  · by_cases h2 : b < a
    · simp [h1, h2]; omega
    · by_cases h3 : l < m
      · simp [h1, h2, h3]; omega
      · by_cases h4 : m < l
        · simp [h1, h2, h3, h4]; omega
        · simp [h1, h2, h3, h4]; omega
/-- Routes stand one behind the other: prefix, then peer. -/
def behindB (p a l q b m : Int) : Bool := if (!(a == b) || (!(l == m))) = true then aheadB a l b m else decide (p < q)
def cmpR (p a l q b m : Int) : Int := orI [cmpP a l b m, cmpI p q]
theorem cmpR_behind (p a l q b m : Int) : (cmpR p a l q b m ≥ 0) ↔ behindB p a l q b m = false := by
  have hz := cmpP_zero (a := a) (l := l) (b := b) (m := m)
  have ha := cmpP_ahead a l b m
  unfold cmpR behindB orI orI orI
  by_cases h : cmpP a l b m = 0
  · obtain ⟨rfl, rfl⟩ := hz.1 h
    rw [if_pos h]
    unfold cmpI
    by_cases h1 : p < q
    · simp [h1]
    · by_cases h2 : q < p <;> simp [h1, h2] <;> omega
  · have hne : (!(a == b) || (!(l == m))) = true := by
      by_cases h1 : a = b
      · have h2 : l ≠ m := fun e => h (hz.2 ⟨h1, e⟩)
        simp [h1, h2]
      · simp [h1]
    rw [if_neg h, if_pos hne]
    exact ha
end Go.Proofs.Ytfbojdagjecjcaa.B
