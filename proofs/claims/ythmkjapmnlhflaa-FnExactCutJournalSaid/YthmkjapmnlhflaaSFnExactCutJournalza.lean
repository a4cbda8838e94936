/- Words that the texts of the law FnExactCutJournal use. -/
import Derived.Test.YthmkjapmnlhflaaSFnExactCutJournala
section
namespace Go.Proofs.Ythmkjapmnlhflaa.B
open Go.RowKit Go.Proofs.YthmkjapmnlhflaaW.PrintWords Go.Proofs.YthmkjapmnlhflaaW.PrintLast Go.Proofs.YthmkjapmnlhflaaW.PrintMore
set_option linter.unusedVariables false
set_option linter.unusedSimpArgs false
theorem wrap_id {x : Int} (h1 : -9223372036854775808 ≤ x) (h2 : x ≤ 9223372036854775807) : wrap64 x = x := by unfold wrap64; omega
theorem wrap_succ {n : Nat} (h : n < 9223372036854775807) : wrap64 ((n : Int) + 1) = ((n + 1 : Nat) : Int) := by unfold wrap64; omega
theorem u8_wf {n : Int} (h : (Lit.int .u8 n).wf = true) : 0 ≤ n ∧ n < 256 := by
  have := (Lit.wf_int_iff .u8 n).1 h
  simp [IntKind.min, IntKind.max, IntKind.signed, IntKind.bits] at this
  omega
theorem rd_nat {xs : List Int} {i : Nat} (h : i < xs.length) : rd xs (i : Int) = xs[i] := by
  simp [rd, List.getD_eq_getElem?_getD, List.getElem?_eq_getElem h]
theorem getD_nat {α : Type} {xs : List α} {z : α} {i : Nat} (h : i < xs.length) : xs.getD ((i : Int)).toNat z = xs[i] := by
  simp [List.getD_eq_getElem?_getD, List.getElem?_eq_getElem h]
theorem bind_of {α β : Type} {x : Option α} {a : α} {f : α → Option β} {r : Option β} (h : x = some a) (h2 : f a = r) : x.bind f = r := by rw [h]; exact h2
def inB (n lo hi : Int) : Bool := decide (lo ≤ n) && decide (n ≤ hi)
theorem inB_eq (n lo hi : Int) : (if n ≥ lo then some (decide (n ≤ hi)) else some false) = some (inB n lo hi) := by
  unfold inB
  by_cases h : lo ≤ n <;> simp [h]
theorem inB_iff {n lo hi : Int} : inB n lo hi = true ↔ lo ≤ n ∧ n ≤ hi := by unfold inB; simp
theorem ite_some {α : Type} (c : Prop) [Decidable c] (a b : α) : (if c then some a else some b) = some (if c then a else b) := by split <;> rfl
def run {α σ ρ : Type} (step : Nat → σ → α → σ ⊕ ρ) (fin : σ → ρ) : Nat → σ → List α → ρ
  | _, s, [] => fin s
  | i, s, x :: xs => match step i s x with | .inl s' => run step fin (i + 1) s' xs | .inr r => r
theorem run_from {α σ ρ : Type} {L : Nat → σ → Int → Option ρ} {xs : List α} {step : Nat → σ → α → σ ⊕ ρ} {fin : σ → ρ} {B : Nat} (inv : Nat → σ → Prop)
    (hs : ∀ k (i : Nat) s (h : i < xs.length), B ≤ k → inv i s → L (k + 1) s (i : Int) = match step i s xs[i] with | .inl s' => L k s' ((i + 1 : Nat) : Int) | .inr r => some r)
    (hi : ∀ (i : Nat) s s' (h : i < xs.length), inv i s → step i s xs[i] = .inl s' → inv (i + 1) s')
    (he : ∀ k s, inv xs.length s → L (k + 1) s (xs.length : Int) = some (fin s)) :
    ∀ (d i : Nat) s (k : Nat), i + d = xs.length → inv i s → d + B < k → L k s (i : Int) = some (run step fin i s (xs.drop i)) := by
  intro d
  induction d with
  | zero =>
    intro i s k hd hinv hk
    obtain ⟨k, rfl⟩ : ∃ m, k = m + 1 := ⟨k - 1, by omega⟩
    obtain rfl : i = xs.length := by omega
    rw [he _ _ hinv, List.drop_length]; rfl
  | succ d ih =>
    intro i s k hd hinv hk
    obtain ⟨k, rfl⟩ : ∃ m, k = m + 1 := ⟨k - 1, by omega⟩
    have hlt : i < xs.length := by omega
    rw [hs k i s hlt (by omega) hinv, List.drop_eq_getElem_cons hlt]
    show _ = some (match step i s xs[i] with | .inl s' => run step fin (i + 1) s' (xs.drop (i + 1)) | .inr r => r)
    cases hst : step i s xs[i] with
    | inr r => rfl
    | inl s' => exact ih (i + 1) s' k (by omega) (hi i s s' hlt hinv hst) (by omega)
theorem run_loop {α σ ρ : Type} {L : Nat → σ → Int → Option ρ} {xs : List α} {step : Nat → σ → α → σ ⊕ ρ} {fin : σ → ρ} {B : Nat} (inv : Nat → σ → Prop)
    (hs : ∀ k (i : Nat) s (h : i < xs.length), B ≤ k → inv i s → L (k + 1) s (i : Int) = match step i s xs[i] with | .inl s' => L k s' ((i + 1 : Nat) : Int) | .inr r => some r)
    (hi : ∀ (i : Nat) s s' (h : i < xs.length), inv i s → step i s xs[i] = .inl s' → inv (i + 1) s')
    (he : ∀ k s, inv xs.length s → L (k + 1) s (xs.length : Int) = some (fin s)) {k : Nat} {s : σ} (h0 : inv 0 s) (hk : xs.length + B < k) : L k s 0 = some (run step fin 0 s xs) := by
  have := run_from inv hs hi he xs.length 0 s k (by omega) h0 hk
  simpa using this
theorem set_from {α β : Type} {L : Nat → List β → Int → Option (List β)} {xs : List α} {f : α → β} {B : Nat}
    (hs : ∀ k (i : Nat) acc (h : i < xs.length), B ≤ k → acc.length = xs.length → L (k + 1) acc (i : Int) = L k (acc.set i (f xs[i])) ((i + 1 : Nat) : Int))
    (he : ∀ k acc, acc.length = xs.length → L (k + 1) acc (xs.length : Int) = some acc) :
    ∀ (d i : Nat) acc (k : Nat), i + d = xs.length → acc.length = xs.length → d + B < k → L k acc (i : Int) = some (acc.take i ++ (xs.drop i).map f) := by
  intro d
  induction d with
  | zero =>
    intro i acc k hd hl hk
    obtain ⟨k, rfl⟩ : ∃ m, k = m + 1 := ⟨k - 1, by omega⟩
    obtain rfl : i = xs.length := by omega
    rw [he _ _ hl, List.drop_length, ← hl, List.take_length]; simp
  | succ d ih =>
    intro i acc k hd hl hk
    obtain ⟨k, rfl⟩ : ∃ m, k = m + 1 := ⟨k - 1, by omega⟩
    have hlt : i < xs.length := by omega
    rw [hs k i acc hlt (by omega) hl, ih (i + 1) _ k (by omega) (by simpa using hl) (by omega)]
    rw [List.drop_eq_getElem_cons hlt, List.map_cons]
    congr 1
    rw [List.take_succ_eq_append_getElem (by simp; omega), List.append_assoc]
    congr 1
    · rw [List.take_set_of_le (Nat.le_refl _)]
    · simp
theorem set_loop {α β : Type} {L : Nat → List β → Int → Option (List β)} {xs : List α} {f : α → β} {B : Nat}
    (hs : ∀ k (i : Nat) acc (h : i < xs.length), B ≤ k → acc.length = xs.length → L (k + 1) acc (i : Int) = L k (acc.set i (f xs[i])) ((i + 1 : Nat) : Int))
    (he : ∀ k acc, acc.length = xs.length → L (k + 1) acc (xs.length : Int) = some acc) {k : Nat} {acc : List β} (h0 : acc.length = xs.length) (hk : xs.length + B < k) :
    L k acc 0 = some (xs.map f) := by
  have := set_from hs he xs.length 0 acc k (by omega) h0 hk
  simpa using this
theorem all_from {ρ : Type} {L : Nat → Int → Option ρ} {n : Nat} {r : ρ} {B : Nat}
    (hs : ∀ k (i : Nat), i < n → B ≤ k → L (k + 1) (i : Int) = L k ((i + 1 : Nat) : Int)) (he : ∀ k, L (k + 1) (n : Int) = some r) :
    ∀ (d i k : Nat), i + d = n → d + B < k → L k (i : Int) = some r := by
  intro d
  induction d with
  | zero =>
    intro i k hi hk
    obtain ⟨k, rfl⟩ : ∃ m, k = m + 1 := ⟨k - 1, by omega⟩
    obtain rfl : i = n := by omega
    exact he k
  | succ d ih =>
    intro i k hi hk
    obtain ⟨k, rfl⟩ : ∃ m, k = m + 1 := ⟨k - 1, by omega⟩
    rw [hs k i (by omega) (by omega)]
    exact ih (i + 1) k (by omega) (by omega)
theorem all_loop {ρ : Type} {L : Nat → Int → Option ρ} {n : Nat} {r : ρ} {B : Nat}
    (hs : ∀ k (i : Nat), i < n → B ≤ k → L (k + 1) (i : Int) = L k ((i + 1 : Nat) : Int)) (he : ∀ k, L (k + 1) (n : Int) = some r) {k : Nat} (hk : n + B < k) : L k 0 = some r := by
  have := all_from hs he n 0 k (by omega) hk
  simpa using this
def marks (g : Int → Int) (m : Int) (n : Nat) : List Int := (List.range n).map (fun (j : Nat) => g (m + (j : Int)))
theorem marks_length (g : Int → Int) (m : Int) (n : Nat) : (marks g m n).length = n := by simp [marks]
theorem marks_get (g : Int → Int) (m : Int) (n i : Nat) (h : i < (marks g m n).length) : (marks g m n)[i] = g (m + i) := by simp [marks]
theorem marks_succ (g : Int → Int) (m : Int) (n : Nat) : marks g m (n + 1) = g m :: marks g (m + 1) n := by
  unfold marks
  rw [List.range_succ_eq_map, List.map_cons, List.map_map]
  congr 1
  · simp
  · apply List.map_congr_left
    intro j _
    show g (m + ((j + 1 : Nat) : Int)) = g (m + 1 + j)
    congr 1
    omega
theorem mark_from {L : Nat → List Int → Int → Int → Option (Int × List Int)} {n : Nat} {g : Int → Int}
    (hs : ∀ k acc m (i : Nat), i < n → acc.length = n → 0 ≤ m → m ≤ 1000000000 → L (k + 1) acc m (i : Int) = L k (acc.set i (g m)) (m + 1) ((i + 1 : Nat) : Int))
    (he : ∀ k acc m, acc.length = n → L (k + 1) acc m (n : Int) = some (m, acc)) :
    ∀ (d i : Nat) (acc : List Int) (m : Int) (k : Nat), i + d = n → acc.length = n → 0 ≤ m → m + d ≤ 1000000000 → d < k → L k acc m (i : Int) = some (m + d, acc.take i ++ marks g m d) := by
  intro d
  induction d with
  | zero =>
    intro i acc m k hd hl h0 h1 hk
    obtain ⟨k, rfl⟩ : ∃ m, k = m + 1 := ⟨k - 1, by omega⟩
    obtain rfl : i = n := by omega
    rw [he _ _ _ hl, ← hl, List.take_length]; simp [marks]
  | succ d ih =>
    intro i acc m k hd hl h0 h1 hk
    obtain ⟨k, rfl⟩ : ∃ m, k = m + 1 := ⟨k - 1, by omega⟩
    have hlt : i < n := by omega
    rw [hs k acc m i hlt hl h0 (by omega), ih (i + 1) _ (m + 1) k (by omega) (by simpa using hl) (by omega) (by omega) (by omega), marks_succ]
    have e : (m + 1 + (d : Int)) = m + ((d + 1 : Nat) : Int) := by omega
    rw [e, List.take_succ_eq_append_getElem (by simp; omega), List.append_assoc]
    congr 3
    · rw [List.take_set_of_le (Nat.le_refl _)]
    · simp
theorem mark_loop {L : Nat → List Int → Int → Int → Option (Int × List Int)} {n : Nat} {g : Int → Int}
    (hs : ∀ k acc m (i : Nat), i < n → acc.length = n → 0 ≤ m → m ≤ 1000000000 → L (k + 1) acc m (i : Int) = L k (acc.set i (g m)) (m + 1) ((i + 1 : Nat) : Int))
    (he : ∀ k acc m, acc.length = n → L (k + 1) acc m (n : Int) = some (m, acc)) {acc : List Int} {m : Int} {k : Nat} (hl : acc.length = n) (h0 : 0 ≤ m) (h1 : m + n ≤ 1000000000) (hk : n < k) :
    L k acc m 0 = some (m + n, marks g m n) := by
  have := mark_from hs he n 0 acc m k (by omega) hl h0 h1 hk
  simpa using this
theorem held_from {L : Nat → Int → Int → Option Int} {n : Nat} {m0 : Int}
    (hs : ∀ k (i : Nat), i < n → L (k + 1) (m0 + i) (i : Int) = L k (m0 + ((i + 1 : Nat) : Int)) ((i + 1 : Nat) : Int)) (he : ∀ k m, L (k + 1) m (n : Int) = some m) :
    ∀ (d i k : Nat), i + d = n → d < k → L k (m0 + i) (i : Int) = some (m0 + n) := by
  intro d
  induction d with
  | zero =>
    intro i k hi hk
    obtain ⟨k, rfl⟩ : ∃ m, k = m + 1 := ⟨k - 1, by omega⟩
    obtain rfl : i = n := by omega
    exact he k _
  | succ d ih =>
    intro i k hi hk
    obtain ⟨k, rfl⟩ : ∃ m, k = m + 1 := ⟨k - 1, by omega⟩
    rw [hs k i (by omega)]
    exact ih (i + 1) k (by omega) (by omega)
theorem held_loop {L : Nat → Int → Int → Option Int} {n : Nat} {m0 : Int}
    (hs : ∀ k (i : Nat), i < n → L (k + 1) (m0 + i) (i : Int) = L k (m0 + ((i + 1 : Nat) : Int)) ((i + 1 : Nat) : Int)) (he : ∀ k m, L (k + 1) m (n : Int) = some m) {k : Nat} (hk : n < k) : L k m0 0 = some (m0 + n) := by
  have := held_from hs he n 0 k (by omega) hk
  simpa using this
def numOf (l : List Int) : Int := l.foldl (fun n b => n * 256 + b) 0
def sumOf (l : List Int) : Int := l.foldl (fun h b => (h * 257 + b + 1) % 65521) 7
theorem run_foldl {α σ ρ : Type} (g : σ → α → σ) (fin : σ → ρ) : ∀ (xs : List α) (i : Nat) (s : σ), run (fun _ s x => .inl (g s x)) fin i s xs = fin (xs.foldl g s)
  | [], _, _ => rfl
  | _ :: xs, i, s => by
    show run (fun _ s x => .inl (g s x)) fin (i + 1) (g s _) xs = _
    rw [run_foldl g fin xs (i + 1)]; rfl
theorem or_byte {x b : Int} (h0 : 0 ≤ x) (h1 : x < 281474976710656) (hb0 : 0 ≤ b) (hb1 : b < 256) : Go.bits .or .i64 (x * 256) b = x * 256 + b :=
  bits_join .i64 62 (by decide) (fun n a b => by rw [IntKind.wrap_i64]; omega) 8 _ _ (by omega) (by omega) (by omega) hb0 (by omega) (by omega)
theorem or_wrap {s b : Int} (h0 : 0 ≤ s) (h1 : s < 1099511627776) (hb0 : 0 ≤ b) (hb1 : b < 256) : Go.bits .or .i64 (wrap64 (s * 256)) (wrap64 b) = s * 256 + b := by
  rw [wrap_id (x := s * 256) (by omega) (by omega), wrap_id (x := b) (by omega) (by omega), or_byte h0 (by omega) hb0 hb1]
theorem take_wrap {s b : Int} (h0 : 0 ≤ s) (h1 : s < 1099511627776) (hb0 : 0 ≤ b) (hb1 : b < 256) : wrap64 (wrap64 (s * 256) + wrap64 b) = s * 256 + b := by
  rw [wrap_id (x := s * 256) (by omega) (by omega), wrap_id (x := b) (by omega) (by omega), wrap_id (by omega) (by omega)]
theorem pow256 {i : Nat} (h : i ≤ 5) : 256 ^ i ≤ 1099511627776 := Nat.pow_le_pow_right (n := 256) (by decide) h
theorem pow256_succ (i : Nat) : 256 ^ (i + 1) = 256 ^ i * 256 := Nat.pow_succ ..
theorem numOf_step {i : Nat} {s b : Int} (hi : i ≤ 5) (h0 : 0 ≤ s) (h1 : s < ((256 ^ i : Nat) : Int)) (hb0 : 0 ≤ b) (hb1 : b < 256) :
    0 ≤ s * 256 + b ∧ s * 256 + b < ((256 ^ (i + 1) : Nat) : Int) ∧ s < 1099511627776 := by
  have h2 := pow256 hi
  have h3 := pow256_succ i
  refine ⟨by omega, by omega, by omega⟩
theorem sumOf_step {s b : Int} (h0 : 0 ≤ s) (h1 : s < 65521) (hb0 : 0 ≤ b) (hb1 : b < 256) :
    Int.tmod (wrap64 (wrap64 (wrap64 (s * 257) + wrap64 b) + 1)) 65521 = (s * 257 + b + 1) % 65521 := by
  rw [wrap_id (x := s * 257) (by omega) (by omega), wrap_id (x := b) (by omega) (by omega), wrap_id (x := s * 257 + b) (by omega) (by omega), wrap_id (by omega) (by omega)]
  exact Int.tmod_eq_emod_of_nonneg (by omega)
theorem sumOf_bound {l : List Int} : 0 ≤ sumOf l ∧ sumOf l < 65521 := by
  have : ∀ (l : List Int) (h : Int), 0 ≤ h → h < 65521 → 0 ≤ l.foldl (fun h b => (h * 257 + b + 1) % 65521) h ∧ l.foldl (fun h b => (h * 257 + b + 1) % 65521) h < 65521 := by
    intro l
    induction l with
    | nil => intro h h0 h1; exact ⟨h0, h1⟩
    | cons x xs ih => intro h h0 h1; exact ih _ (Int.emod_nonneg _ (by decide)) (Int.emod_lt_of_pos _ (by decide))
  exact this l 7 (by decide) (by decide)
def two (n : Int) : List Int := [(n / 256) % 256, n % 256]
def eventFault (kind peer : Int) (n : Nat) : Int :=
  if inB kind 1 4 = true then
    (if inB peer 0 2 = true then
      (if kind = 3 ∧ peer ≠ 0 then 3 else if (kind = 2) ↔ 0 < n then (if (n : Int) > 60 then 2 else 0) else 1)
    else 3)
  else 1
def entryFault (e kind peer : Int) (n : Nat) : Int := if inB e 1 1000 = true then eventFault kind peer n else 3
def szB (left : Int) (n : Nat) : Int := if left - n < 0 then -1 else left - n
theorem szB_eq {left : Int} {n : Nat} (h0 : -1 ≤ left) (h1 : left ≤ 1048576) (hn : n ≤ maxLen) :
    (if wrap64 (left - (n : Int)) < 0 then some (-1 : Int) else some (wrap64 (left - (n : Int)))) = some (szB left n) := by
  unfold maxLen at hn
  unfold szB
  rw [wrap_id (by omega) (by omega), ite_some]
theorem szB_bound {left : Int} {n : Nat} (h1 : left ≤ 1048576) : -1 ≤ szB left n ∧ szB left n ≤ 1048576 := by unfold szB; split <;> omega
theorem szB_neg {left : Int} {n : Nat} : szB left n < 0 ↔ left < n := by unfold szB; split <;> omega
theorem szB_again (left : Int) (n : Nat) : (if szB left n < 0 then some (-1 : Int) else some (szB left n)) = some (szB left n) := by
  unfold szB; split <;> simp_all
end Go.Proofs.Ythmkjapmnlhflaa.B
end
section
namespace Go.Proofs.Ythmkjapmnlhflaa.Opn
open Go.RowKit Go.ChangeShapes Go.WideShapes Go.Proofs.YthmkjapmnlhflaaW.PrintWords
set_option linter.unusedVariables false
set_option linter.unusedSimpArgs false
structure Opens (P : Program) (t : TypeId) {α : Type} (d : Kd α) (wf : α → Prop) : Prop where
  cells : P.cellsOf t = d.sz
  op : ∀ {H : Type} {enc : TypeId × Value → H} {w : World} {base : Nat} {spare : Nat → Bool} {held : Bool} {fuel : Nat} {cs : List Value} {x : DataW H × List MemPlace},
    DataW.trod enc P w base spare held fuel t cs = some x → ∃ y, d.K w y cs ∧ wf y
structure OpensF (P : Program) (off : Nat) (fs : List Field) {α : Type} (d : Kd α) (wf : α → Prop) : Prop where
  op : ∀ {H : Type} {enc : TypeId × Value → H} {w : World} {base : Nat} {spare : Nat → Bool} {held : Bool} {n : Nat} {cs : List Value},
    cs.length = off + d.sz → (∀ (i : Nat) (f : Field), fs[i]? = some f → ∃ x, DataW.trod enc P w base spare held n f.type ((cs.drop f.offset).take (P.cellsOf f.type)) = some x) →
    ∃ y, d.K w y (cs.drop off) ∧ wf y
variable {P : Program}
theorem Opens.int {t : TypeId} {k : IntKind} (ht : P.underlying t = some (.int k)) (hc : P.cellsOf t = 1) : Opens P t (Kd.int k) (fun n => (Lit.int k n).wf = true) := by
  refine ⟨hc, fun h => ?_⟩
  obtain ⟨n, rfl, _, hw⟩ := DataW.trod_int ht h
  exact ⟨n, rfl, hw⟩
theorem Opens.bool {t : TypeId} (ht : P.underlying t = some .bool) (hc : P.cellsOf t = 1) : Opens P t Kd.bool (fun _ => True) := by
  refine ⟨hc, fun h => ?_⟩
  obtain ⟨n, rfl, _⟩ := DataW.trod_bool ht h
  exact ⟨n, rfl, trivial⟩
theorem Opens.string {t : TypeId} (ht : P.underlying t = some .string) (hc : P.cellsOf t = 1) : Opens P t Kd.string (fun s => s.size ≤ maxLen) := by
  refine ⟨hc, fun h => ?_⟩
  obtain ⟨n, rfl, _, hw⟩ := DataW.trod_string ht h
  exact ⟨n, rfl, hw⟩
theorem Opens.iso {t : TypeId} {α β : Type} {d : Kd α} {wf : α → Prop} (h : Opens P t d wf) (f : β → α) (g : α → β) (hfg : ∀ x, f (g x) = x) : Opens P t (Kd.iso d f) (fun y => wf (f y)) := by
  refine ⟨h.cells, fun hr => ?_⟩
  obtain ⟨y, hk, hw⟩ := h.op hr
  exact ⟨g y, by show d.K _ (f (g y)) _; rw [hfg]; exact hk, by show wf (f (g y)); rw [hfg]; exact hw⟩
theorem Opens.imp {t : TypeId} {α : Type} {d : Kd α} {wf wf' : α → Prop} (h : Opens P t d wf) (hw : ∀ x, wf x → wf' x) : Opens P t d wf' :=
  ⟨h.cells, fun hr => by obtain ⟨y, hk, hq⟩ := h.op hr; exact ⟨y, hk, hw y hq⟩⟩
theorem rows_of {H : Type} {α : Type} {d : Kd α} {wf : α → Prop} {e : TypeId} (h : Opens P e d wf) {enc : TypeId × Value → H} {w : World} {base : Nat} {spare : Nat → Bool} {held : Bool} {n : Nat} {a : Addr} :
    ∀ (len : Nat), (∀ i, i < len → ∃ x, (w.cells? base (a.add (i * P.cellsOf e)) (P.cellsOf e)).bind (DataW.trod enc P w base spare held n e) = some x) →
    ∃ ys : List α, ys.length = len ∧ (∀ j p, ys[j]? = some p → ∃ c, c.length = d.sz ∧ d.K w p c ∧ ∀ i u, c[i]? = some u → w.cell? (a.add (j * d.sz + i)) = some u) ∧ ∀ x ∈ ys, wf x := by
  intro len
  induction len with
  | zero => intro _; exact ⟨[], rfl, fun j p hp => by simp at hp, fun x hx => by simp at hx⟩
  | succ len ih =>
    intro hall
    obtain ⟨ys, hl, hy, hw⟩ := ih (fun i hi => hall i (by omega))
    obtain ⟨x, hx⟩ := hall len (by omega)
    obtain ⟨c, hc, ht⟩ := Option.bind_eq_some_iff.1 hx
    obtain ⟨y, hk, hwy⟩ := h.op ht
    refine ⟨ys ++ [y], by simp [hl], fun j p hp => ?_, fun z hz => ?_⟩
    · by_cases hj : j < len
      · rw [List.getElem?_append_left (by omega)] at hp
        exact hy j p hp
      · have hj2 : j = len := by
          have := (List.getElem?_eq_some_iff.1 hp).1
          simp [hl] at this
          omega
        subst hj2
        rw [List.getElem?_append_right (by omega), hl, Nat.sub_self] at hp
        simp at hp
        subst hp
        have hcs := World.cells?_some hc
        refine ⟨c, d.K_len hk, hk, fun i u hu => ?_⟩
        have hi := (List.getElem?_eq_some_iff.1 hu).1
        have hkl := d.K_len hk
        have h3 := hcs.2.2 i (by rw [h.cells]; omega)
        rw [hu, h.cells] at h3
        have e1 : (a.add (j * d.sz)).add i = a.add (j * d.sz + i) := by
          unfold Addr.add
          by_cases h1 : i = 0
          · simp [h1]
          · by_cases h2 : j * d.sz = 0
            · simp [h1, h2]
            · have h4 : ¬ (j * d.sz + i = 0) := by omega
              simp only [h1, h2, h4, if_false]
              congr 1
              omega
        rw [← e1]
        simpa using h3
    · rcases List.mem_append.1 hz with hz | hz
      · exact hw z hz
      · rw [List.mem_singleton.1 hz]; exact hwy
theorem Opens.slice {t e : TypeId} {α : Type} {d : Kd α} {wf : α → Prop} (ht : P.underlying t = some (.slice e)) (hc : P.cellsOf t = 1) (h : Opens P e d wf) :
    Opens P t (Kd.slice e d) (fun l => l.length ≤ maxLen ∧ ∀ x ∈ l, wf x) := by
  refine ⟨hc, fun hr => ?_⟩
  rcases DataW.trod_slice ht hr with ⟨rfl, _⟩ | ⟨a, len, cap, elems, rest, n, _, rfl, _, hb, hl, hm, hlen, hel, hsp, hns⟩
  · exact ⟨[], ⟨none, 0, rfl, Nat.le_refl _, rfl, by simp, fun h0 => absurd h0 (by simp)⟩, by simp [maxLen], fun x hx => by simp at hx⟩
  · obtain ⟨ys, hyl, hy, hw⟩ := rows_of h len (fun i hi => by
      have := hel i hi
      rw [List.getElem?_eq_getElem (by omega)] at this
      exact ⟨_, this⟩)
    have hmx : len ≤ 9223372036854775807 := by unfold maxLen at hm; omega
    exact ⟨ys, ⟨some a, cap, by rw [hyl], by omega, rfl, by omega, fun _ => ⟨a, rfl, hy⟩⟩, by unfold maxLen; omega, hw⟩
theorem OpensF.one {off : Nat} {f : Field} {α : Type} {d : Kd α} {wf : α → Prop} (ho : f.offset = off) (h : Opens P f.type d wf) : OpensF P off [f] d wf := by
  refine ⟨fun {_ enc w base spare held n cs} hl hall => ?_⟩
  obtain ⟨x, hx⟩ := hall 0 f rfl
  obtain ⟨y, hk, hw⟩ := h.op hx
  refine ⟨y, ?_, hw⟩
  rw [ho, h.cells] at hk
  rwa [List.take_of_length_le (by simp; omega)] at hk
theorem OpensF.cons {off : Nat} {f : Field} {fs : List Field} {α β : Type} {a : Kd α} {b : Kd β} {wa : α → Prop} {wb : β → Prop} (ho : f.offset = off) (h : Opens P f.type a wa) (hs : OpensF P (off + a.sz) fs b wb) :
    OpensF P off (f :: fs) (Kd.pair a b) (fun x => wa x.1 ∧ wb x.2) := by
  refine ⟨fun {_ enc w base spare held n cs} hl hall => ?_⟩
  have hl2 : cs.length = off + (a.sz + b.sz) := hl
  obtain ⟨x, hx⟩ := hall 0 f rfl
  obtain ⟨y, hk, hw⟩ := h.op hx
  obtain ⟨z, hz, hwz⟩ := hs.op (n := n) (cs := cs) (by omega) (fun i g hg => hall (i + 1) g (by simpa using hg))
  refine ⟨(y, z), ⟨(cs.drop off).take a.sz, cs.drop (off + a.sz), ?_, ?_, hz⟩, hw, hwz⟩
  · rw [← List.drop_drop, List.take_append_drop]
  · rw [ho, h.cells] at hk; exact hk
theorem Opens.struct {t : TypeId} {fs : Array Field} {α : Type} {d : Kd α} {wf : α → Prop} (ht : P.underlying t = some (.struct fs)) (hc : P.cellsOf t = d.sz) (h : OpensF P 0 fs.toList d wf) : Opens P t d wf := by
  refine ⟨hc, fun hr => ?_⟩
  obtain ⟨xs, n, _, _, hl, hxl, hall⟩ := DataW.trod_struct ht hr
  obtain ⟨y, hk, hw⟩ := h.op (n := n) (by rw [hl, hc]; omega) (fun i f hf => by
    have hf2 : fs[i]? = some f := by simpa using hf
    have := hall i f hf2
    have hi : i < xs.length := by rw [hxl]; exact (Array.getElem?_eq_some_iff.1 hf2).1
    rw [List.getElem?_eq_getElem hi] at this
    exact ⟨_, this⟩)
  exact ⟨y, by simpa using hk, hw⟩
theorem Opens.arg {H : Type} {t : TypeId} {fs : Array Field} {α : Type} {d : Kd α} {wf : α → Prop} (h : Opens P t d wf) (ht : P.underlying t = some (.struct fs)) {enc : TypeId × Value → H} {w : World} {b0 : Nat} {spare : Nat → Bool} {held : Bool} {r : Reach} {v : Value} {dd : DataW H} {ps : List MemPlace}
    (hv : Value.okWide P w r b0 t v) (hd : DataW.Trod enc P w 0 spare held t v dd ps) : ∃ y cs, v = .agg ⟨cs⟩ ∧ d.K w y cs ∧ wf y := by
  obtain ⟨cs, rfl, _⟩ := okWide_struct ht hv
  obtain ⟨fuel, hf⟩ := hd
  obtain ⟨y, hk, hw⟩ := h.op hf
  exact ⟨y, cs.toList, by simp, hk, hw⟩
end Go.Proofs.Ythmkjapmnlhflaa.Opn
end
