/- Plain facts on numbers, bits and lists, and the loops of the printed functions, each once: no Go and no memory in sight. -/
import Derived.Test.YtbahoffaamccoaaWMore
import Derived.Laws.BitsLemmas
import Derived.DataShut
namespace Go.Proofs.Ytbahoffaamccoaa.B
open Go.RowKit Go.Proofs.YtbahoffaamccoaaW.PrintWords Go.Proofs.YtbahoffaamccoaaW.PrintLast Go.Proofs.YtbahoffaamccoaaW.PrintMore

/-! ### numbers -/
theorem wrap_id {x : Int} (h1 : -9223372036854775808 ≤ x) (h2 : x ≤ 9223372036854775807) : wrap64 x = x := by unfold wrap64; omega
theorem wrap_nat {n : Nat} (h : n ≤ 9223372036854775807) : wrap64 (n : Int) = n := wrap_id (by omega) (by omega)
theorem wrap_succ {n : Nat} (h : n < 9223372036854775807) : wrap64 ((n : Int) + 1) = ((n + 1 : Nat) : Int) := by unfold wrap64; omega
theorem i64_wf {n : Int} (h : (Lit.int .i64 n).wf = true) : -9223372036854775808 ≤ n ∧ n ≤ 9223372036854775807 := by
  have := (Lit.wf_int_iff .i64 n).1 h
  simpa [IntKind.min, IntKind.max, IntKind.signed, IntKind.bits] using this
theorem u8_wf {n : Int} (h : (Lit.int .u8 n).wf = true) : 0 ≤ n ∧ n < 256 := by
  have := (Lit.wf_int_iff .u8 n).1 h
  simp [IntKind.min, IntKind.max, IntKind.signed, IntKind.bits] at this
  omega
theorem rd_nat {xs : List Int} {i : Nat} (h : i < xs.length) : rd xs (i : Int) = xs[i] := by
  simp [rd, List.getD_eq_getElem?_getD, List.getElem?_eq_getElem h]
theorem getD_nat {α : Type} {xs : List α} {z : α} {i : Nat} (h : i < xs.length) : xs.getD ((i : Int)).toNat z = xs[i] := by
  simp [List.getD_eq_getElem?_getD, List.getElem?_eq_getElem h]

/-! ### tests -/
def inB (n lo hi : Int) : Bool := decide (lo ≤ n) && decide (n ≤ hi)
theorem inB_eq (n lo hi : Int) : (if n ≥ lo then some (decide (n ≤ hi)) else some false) = some (inB n lo hi) := by
  unfold inB
  by_cases h : lo ≤ n <;> simp [h]
theorem inB_iff {n lo hi : Int} : inB n lo hi = true ↔ lo ≤ n ∧ n ≤ hi := by unfold inB; simp
theorem inB_not {n lo hi : Int} : inB n lo hi = false ↔ ¬ (lo ≤ n ∧ n ≤ hi) := by rw [← inB_iff]; simp
theorem ite_some {α : Type} (c : Prop) [Decidable c] (a b : α) : (if c then some a else some b) = some (if c then a else b) := by split <;> rfl
def holdB (n : Int) : Bool := if n = 0 then true else inB n 3 200

/-! ### loops -/
/-- A loop over a list that looks at each element and may answer. -/
def scan {α ρ : Type} (step : α → Option ρ) (fin : ρ) : List α → ρ
  | [] => fin
  | x :: xs => match step x with | some r => r | none => scan step fin xs
theorem scan_from {α ρ : Type} {L : Nat → Int → Option ρ} {xs : List α} {step : α → Option ρ} {fin : ρ} {B : Nat}
    (hs : ∀ k (i : Nat) (h : i < xs.length), B ≤ k → L (k + 1) (i : Int) = match step xs[i] with | some r => some r | none => L k ((i + 1 : Nat) : Int))
    (he : ∀ k, L (k + 1) (xs.length : Int) = some fin) :
    ∀ (d i k : Nat), i + d = xs.length → d + B < k → L k (i : Int) = some (scan step fin (xs.drop i)) := by
  intro d
  induction d with
  | zero =>
    intro i k hi hk
    obtain ⟨k, rfl⟩ : ∃ m, k = m + 1 := ⟨k - 1, by omega⟩
    obtain rfl : i = xs.length := by omega
    rw [he, List.drop_length]; rfl
  | succ d ih =>
    intro i k hi hk
    obtain ⟨k, rfl⟩ : ∃ m, k = m + 1 := ⟨k - 1, by omega⟩
    have hlt : i < xs.length := by omega
    rw [hs k i hlt (by omega), List.drop_eq_getElem_cons hlt]
    show _ = some (match step xs[i] with | some r => r | none => scan step fin (xs.drop (i + 1)))
    cases step xs[i] with
    | some r => rfl
    | none => exact ih (i + 1) k (by omega) (by omega)
theorem scan_loop {α ρ : Type} {L : Nat → Int → Option ρ} {xs : List α} {step : α → Option ρ} {fin : ρ} {B : Nat}
    (hs : ∀ k (i : Nat) (h : i < xs.length), B ≤ k → L (k + 1) (i : Int) = match step xs[i] with | some r => some r | none => L k ((i + 1 : Nat) : Int))
    (he : ∀ k, L (k + 1) (xs.length : Int) = some fin) {k : Nat} (hk : xs.length + B < k) : L k 0 = some (scan step fin xs) := by
  have := scan_from hs he xs.length 0 k (by omega) hk
  simpa using this
/-- A loop that looks for the first fault. -/
def firstFault {α : Type} (f : α → Int) : List α → Int
  | [] => 0
  | x :: xs => if f x = 0 then firstFault f xs else f x
theorem firstFault_scan {α : Type} (f : α → Int) (xs : List α) : scan (fun x => if f x = 0 then none else some (f x)) 0 xs = firstFault f xs := by
  induction xs with
  | nil => rfl
  | cons x xs ih =>
    unfold scan firstFault
    by_cases h : f x = 0
    · simp only [if_pos h]; exact ih
    · simp only [if_neg h]
theorem firstFault_zero {α : Type} {f : α → Int} {xs : List α} : firstFault f xs = 0 ↔ ∀ x ∈ xs, f x = 0 := by
  induction xs with
  | nil => simp [firstFault]
  | cons x xs ih =>
    unfold firstFault
    by_cases h : f x = 0 <;> simp [h, ih]
theorem fault_loop {α : Type} {L : Nat → Int → Option Int} {xs : List α} {f : α → Int} {B : Nat}
    (hs : ∀ k (i : Nat) (h : i < xs.length), B ≤ k → L (k + 1) (i : Int) = if f xs[i] = 0 then L k ((i + 1 : Nat) : Int) else some (f xs[i]))
    (he : ∀ k, L (k + 1) (xs.length : Int) = some 0) {k : Nat} (hk : xs.length + B < k) : L k 0 = some (firstFault f xs) := by
  rw [← firstFault_scan]
  refine scan_loop (B := B) (fun k i h hB => ?_) he hk
  rw [hs k i h hB]
  by_cases h0 : f xs[i] = 0 <;> simp [h0]
/-- A loop with a state. -/
def run {α σ ρ : Type} (step : Nat → σ → α → σ ⊕ ρ) (fin : σ → ρ) : Nat → σ → List α → ρ
  | _, s, [] => fin s
  | i, s, x :: xs => match step i s x with | .inl s' => run step fin (i + 1) s' xs | .inr r => r
theorem run_from {α σ ρ : Type} {L : Nat → σ → Int → Option ρ} {xs : List α} {step : Nat → σ → α → σ ⊕ ρ} {fin : σ → ρ} {B : Nat} (inv : Nat → σ → Prop)
    (hs : ∀ k (i : Nat) s (h : i < xs.length), B ≤ k → inv i s → L (k + 1) s (i : Int) = match step i s xs[i] with | .inl s' => L k s' ((i + 1 : Nat) : Int) | .inr r => some r)
    (hi : ∀ (i : Nat) s s' (h : i < xs.length), inv i s → step i s xs[i] = .inl s' → inv (i + 1) s')
    (he : ∀ k s, inv xs.length s → L (k + 1) s (xs.length : Int) = some (fin s)) :
    ∀ (d i : Nat) s (k : Nat), i + d = xs.length → inv i s → d + B < k → L k s (i : Int) = some (run step fin i s (xs.drop i)) := by
  intro d
  induction d with
  | zero =>
    intro i s k hd hinv hk
    obtain ⟨k, rfl⟩ : ∃ m, k = m + 1 := ⟨k - 1, by omega⟩
    obtain rfl : i = xs.length := by omega
    rw [he _ _ hinv, List.drop_length]; rfl
  | succ d ih =>
    intro i s k hd hinv hk
    obtain ⟨k, rfl⟩ : ∃ m, k = m + 1 := ⟨k - 1, by omega⟩
    have hlt : i < xs.length := by omega
    rw [hs k i s hlt (by omega) hinv, List.drop_eq_getElem_cons hlt]
    show _ = some (match step i s xs[i] with | .inl s' => run step fin (i + 1) s' (xs.drop (i + 1)) | .inr r => r)
    cases hst : step i s xs[i] with
    | inr r => rfl
    | inl s' => exact ih (i + 1) s' k (by omega) (hi i s s' hlt hinv hst) (by omega)
theorem run_loop {α σ ρ : Type} {L : Nat → σ → Int → Option ρ} {xs : List α} {step : Nat → σ → α → σ ⊕ ρ} {fin : σ → ρ} {B : Nat} (inv : Nat → σ → Prop)
    (hs : ∀ k (i : Nat) s (h : i < xs.length), B ≤ k → inv i s → L (k + 1) s (i : Int) = match step i s xs[i] with | .inl s' => L k s' ((i + 1 : Nat) : Int) | .inr r => some r)
    (hi : ∀ (i : Nat) s s' (h : i < xs.length), inv i s → step i s xs[i] = .inl s' → inv (i + 1) s')
    (he : ∀ k s, inv xs.length s → L (k + 1) s (xs.length : Int) = some (fin s)) {k : Nat} {s : σ} (h0 : inv 0 s) (hk : xs.length + B < k) : L k s 0 = some (run step fin 0 s xs) := by
  have := run_from inv hs hi he xs.length 0 s k (by omega) h0 hk
  simpa using this
/-- A loop that fills a list. -/
theorem set_from {α β : Type} {L : Nat → List β → Int → Option (List β)} {xs : List α} {f : α → β} {B : Nat}
    (hs : ∀ k (i : Nat) acc (h : i < xs.length), B ≤ k → acc.length = xs.length → L (k + 1) acc (i : Int) = L k (acc.set i (f xs[i])) ((i + 1 : Nat) : Int))
    (he : ∀ k acc, acc.length = xs.length → L (k + 1) acc (xs.length : Int) = some acc) :
    ∀ (d i : Nat) acc (k : Nat), i + d = xs.length → acc.length = xs.length → d + B < k → L k acc (i : Int) = some (acc.take i ++ (xs.drop i).map f) := by
  intro d
  induction d with
  | zero =>
    intro i acc k hd hl hk
    obtain ⟨k, rfl⟩ : ∃ m, k = m + 1 := ⟨k - 1, by omega⟩
    obtain rfl : i = xs.length := by omega
    rw [he _ _ hl, List.drop_length, ← hl, List.take_length]; simp
  | succ d ih =>
    intro i acc k hd hl hk
    obtain ⟨k, rfl⟩ : ∃ m, k = m + 1 := ⟨k - 1, by omega⟩
    have hlt : i < xs.length := by omega
    rw [hs k i acc hlt (by omega) hl, ih (i + 1) _ k (by omega) (by simpa using hl) (by omega)]
    rw [List.drop_eq_getElem_cons hlt, List.map_cons]
    congr 1
    rw [List.take_succ_eq_append_getElem (by simp; omega), List.append_assoc]
    congr 1
    · rw [List.take_set_of_le (Nat.le_refl _)]
    · simp
theorem set_loop {α β : Type} {L : Nat → List β → Int → Option (List β)} {xs : List α} {f : α → β} {B : Nat}
    (hs : ∀ k (i : Nat) acc (h : i < xs.length), B ≤ k → acc.length = xs.length → L (k + 1) acc (i : Int) = L k (acc.set i (f xs[i])) ((i + 1 : Nat) : Int))
    (he : ∀ k acc, acc.length = xs.length → L (k + 1) acc (xs.length : Int) = some acc) {k : Nat} {acc : List β} (h0 : acc.length = xs.length) (hk : xs.length + B < k) :
    L k acc 0 = some (xs.map f) := by
  have := set_from hs he xs.length 0 acc k (by omega) h0 hk
  simpa using this
/-- A loop that goes through. -/
theorem all_from {ρ : Type} {L : Nat → Int → Option ρ} {n : Nat} {r : ρ} {B : Nat}
    (hs : ∀ k (i : Nat), i < n → B ≤ k → L (k + 1) (i : Int) = L k ((i + 1 : Nat) : Int)) (he : ∀ k, L (k + 1) (n : Int) = some r) :
    ∀ (d i k : Nat), i + d = n → d + B < k → L k (i : Int) = some r := by
  intro d
  induction d with
  | zero =>
    intro i k hi hk
    obtain ⟨k, rfl⟩ : ∃ m, k = m + 1 := ⟨k - 1, by omega⟩
    obtain rfl : i = n := by omega
    exact he k
  | succ d ih =>
    intro i k hi hk
    obtain ⟨k, rfl⟩ : ∃ m, k = m + 1 := ⟨k - 1, by omega⟩
    rw [hs k i (by omega) (by omega)]
    exact ih (i + 1) k (by omega) (by omega)
theorem all_loop {ρ : Type} {L : Nat → Int → Option ρ} {n : Nat} {r : ρ} {B : Nat}
    (hs : ∀ k (i : Nat), i < n → B ≤ k → L (k + 1) (i : Int) = L k ((i + 1 : Nat) : Int)) (he : ∀ k, L (k + 1) (n : Int) = some r) {k : Nat} (hk : n + B < k) : L k 0 = some r := by
  have := all_from hs he n 0 k (by omega) hk
  simpa using this

/-! ### prefixes -/
theorem len_cases {l : Int} (h0 : 0 ≤ l) (h1 : l ≤ 16) : l = 0 ∨ l = 1 ∨ l = 2 ∨ l = 3 ∨ l = 4 ∨ l = 5 ∨ l = 6 ∨ l = 7 ∨ l = 8 ∨ l = 9 ∨ l = 10 ∨ l = 11 ∨ l = 12 ∨ l = 13 ∨ l = 14 ∨ l = 15 ∨ l = 16 := by omega
/-- How many addresses a prefix of that length has. -/
def span (l : Int) : Int := 2 ^ (16 - l).toNat
theorem span_pos (l : Int) : 0 < span l := by unfold span; exact Int.pow_pos (by decide)
theorem shl_span {l : Int} (h0 : 0 ≤ l) (h1 : l ≤ 16) : wrap64 (shl .i64 1 (wrap64 (16 - l)) - 1) = span l - 1 := by
  rcases len_cases h0 h1 with h | h | h | h | h | h | h | h | h | h | h | h | h | h | h | h | h <;> subst h <;> decide +kernel
theorem shl_span2 {l : Int} (h0 : 0 ≤ l) (h1 : l ≤ 16) : wrap64 (shl .i64 1 (IntKind.u64.wrap (wrap64 (16 - l))) - 1) = span l - 1 := by
  rcases len_cases h0 h1 with h | h | h | h | h | h | h | h | h | h | h | h | h | h | h | h | h <;> subst h <;> decide +kernel
theorem cnt_ok {l : Int} (h0 : 0 ≤ l) (h1 : l ≤ 16) : 0 ≤ wrap64 (16 - l) := by rw [wrap_id (by omega) (by omega)]; omega
theorem cnt_ok2 {l : Int} (h0 : 0 ≤ l) (h1 : l ≤ 16) : 0 ≤ IntKind.u64.wrap (wrap64 (16 - l)) := by
  rcases len_cases h0 h1 with h | h | h | h | h | h | h | h | h | h | h | h | h | h | h | h | h <;> subst h <;> decide +kernel
theorem shr_span {x l : Int} (h0 : 0 ≤ l) (h1 : l ≤ 16) : shr .i64 x (wrap64 (16 - l)) = x / span l := by
  rw [wrap_id (by omega) (by omega)]
  unfold shr span
  have hb : IntKind.i64.bits = 64 := rfl
  rw [Nat.min_eq_left (by rw [hb]; omega)]
theorem and_span {x l : Int} (h0 : 0 ≤ l) (h1 : l ≤ 16) (hx0 : 0 ≤ x) (hx1 : x ≤ 65535) : Go.bits .and .i64 x (span l - 1) = x % span l := by
  unfold span
  exact bits_mask .i64 62 (by decide) (fun n a b => by rw [IntKind.wrap_i64]; omega) _ (by omega) x hx0 (by omega)
theorem andNot_span {x l : Int} (h0 : 0 ≤ l) (h1 : l ≤ 16) (hx0 : 0 ≤ x) (hx1 : x ≤ 65535) : Go.bits .andNot .i64 x (span l - 1) = x - x % span l := by
  obtain ⟨a, rfl⟩ := Int.eq_ofNat_of_zero_le hx0
  have key : ∀ m : Nat, m ≤ 16 → ∀ n : Nat, n < 65536 → (BitVec.ofNat 64 n &&& ~~~ BitVec.ofNat 64 (2 ^ m - 1)).toNat = 2 ^ m * (n / 2 ^ m) := by
    intro m hm n hn
    apply Nat.eq_of_testBit_eq
    intro i
    rw [Nat.testBit_two_pow_mul, BitVec.testBit_toNat, BitVec.getLsbD_and, BitVec.getLsbD_not, BitVec.getLsbD_ofNat, BitVec.getLsbD_ofNat, Nat.testBit_two_pow_sub_one, Nat.testBit_div_two_pow]
    by_cases hi : i < 64
    · by_cases hmi : m ≤ i
      · have e : i - m + m = i := by omega
        simp [hi, hmi, e, Nat.not_lt.2 hmi]
      · simp [hi, hmi, Nat.lt_of_not_le hmi]
    · have hn2 : n.testBit i = false := Nat.testBit_lt_two_pow (Nat.lt_of_lt_of_le hn (Nat.le_trans (by decide) (Nat.pow_le_pow_right (by decide) (Nat.le_of_not_lt hi))))
      by_cases hmi : m ≤ i
      · have e : i - m + m = i := by omega
        simp [hi, hmi, e, hn2]
      · omega
  have hp : span l - 1 = ((2 ^ (16 - l).toNat - 1 : Nat) : Int) := by
    unfold span
    rw [Int.natCast_sub (Nat.two_pow_pos _)]; simp
  have hs : span l = ((2 ^ (16 - l).toNat : Nat) : Int) := by unfold span; simp
  have hb : Go.bits .andNot .i64 (a : Int) (span l - 1) = IntKind.i64.wrap ((BitVec.ofNat 64 a &&& ~~~ BitVec.ofNat 64 (2 ^ (16 - l).toNat - 1)).toNat : Int) := by
    rw [hp]
    show IntKind.i64.wrap ((BitVec.ofInt 64 _ &&& ~~~ BitVec.ofInt 64 _).toNat : Int) = _
    rw [BitVec.ofInt_natCast, BitVec.ofInt_natCast]
  have hdm := Nat.div_add_mod a (2 ^ (16 - l).toNat)
  rw [hb, key _ (by omega) a (by omega), hs]
  have hle : 2 ^ (16 - l).toNat * (a / 2 ^ (16 - l).toNat) ≤ a := Nat.mul_div_le _ _
  rw [IntKind.wrap_i64]
  have e2 : ((2 ^ (16 - l).toNat * (a / 2 ^ (16 - l).toNat) : Nat) : Int) = (a : Int) - ((a % 2 ^ (16 - l).toNat : Nat) : Int) := by omega
  have e5 : ((a % 2 ^ (16 - l).toNat : Nat) : Int) = (a : Int) % ((2 ^ (16 - l).toNat : Nat) : Int) := Int.natCast_emod _ _
  rw [e2, ← e5]
  have h3 : a % 2 ^ (16 - l).toNat ≤ a := Nat.mod_le _ _
  omega
/-- What is not right of a prefix. -/
def prefixFault (a l : Int) : Int := if inB a 0 65535 = true then (if inB l 0 16 = true then (if a % span l = 0 then 0 else 1) else 3) else 3
/-- Whether a good prefix has an address. -/
def hasB (a l x : Int) : Bool := decide (x - x % span l = a)
theorem prefixFault_ok {a l : Int} (h : prefixFault a l = 0) : 0 ≤ a ∧ a ≤ 65535 ∧ 0 ≤ l ∧ l ≤ 16 ∧ a % span l = 0 := by
  unfold prefixFault at h
  by_cases h1 : inB a 0 65535 = true
  · by_cases h2 : inB l 0 16 = true
    · by_cases h3 : a % span l = 0
      · have := inB_iff.1 h1; have := inB_iff.1 h2; exact ⟨by omega, by omega, by omega, by omega, h3⟩
      · simp [h1, h2, h3] at h
    · simp [h1, h2] at h
  · simp [h1] at h
theorem has_div {a l x : Int} (h : prefixFault a l = 0) : (x / span l == a / span l) = hasB a l x := by
  obtain ⟨_, _, _, _, hm⟩ := prefixFault_ok h
  unfold hasB
  have h1 := Int.mul_ediv_add_emod x (span l)
  have h2 := Int.mul_ediv_add_emod a (span l)
  have hp := span_pos l
  rw [Bool.eq_iff_iff]
  simp only [beq_iff_eq, decide_eq_true_eq]
  constructor
  · intro e
    rw [e] at h1
    omega
  · intro e
    have e3 : span l * (x / span l) = span l * (a / span l) := by omega
    exact Int.eq_of_mul_eq_mul_left (by omega) e3
def within (a l b m : Int) : Bool := if prefixFault a l = 0 then (if prefixFault b m = 0 then (if l ≥ m then hasB b m a else false) else false) else false
def hasAddr (a l x : Int) : Bool := if prefixFault a l = 0 then (if inB x 0 65535 = true then hasB a l x else false) else false
def configFault (a b c : Int) : Int := if inB a 1 65535 = true then (if inB b 1 65535 = true then (if holdB c = true then 0 else 3) else 3) else 3
end Go.Proofs.Ytbahoffaamccoaa.B
