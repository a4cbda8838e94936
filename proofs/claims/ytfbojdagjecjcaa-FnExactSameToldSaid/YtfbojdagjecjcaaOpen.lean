/- How the data of a law's arguments are opened: for every type of the arguments a reading of its cells gives an element of the kind that the printed contracts speak of, with its bounds. No program in sight: it holds of whatever program the type numbers are of. -/
import Derived.Test.YtfbojdagjecjcaaWWords
import Derived.ChangeArms
import Derived.ChangeSlices
import Derived.WideShapes
namespace Go.Proofs.Ytfbojdagjecjcaa.Opn
open Go.RowKit Go.ChangeShapes Go.WideShapes Go.Proofs.YtfbojdagjecjcaaW.PrintWords
set_option linter.unusedVariables false
set_option linter.unusedSimpArgs false

/-- A type, read, gives an element of the kind d that fits. -/
structure Opens (P : Program) (t : TypeId) {α : Type} (d : Kd α) (wf : α → Prop) : Prop where
  cells : P.cellsOf t = d.sz
  op : ∀ {H : Type} {enc : TypeId × Value → H} {w : World} {base : Nat} {spare : Nat → Bool} {held : Bool} {fuel : Nat} {cs : List Value} {x : DataW H × List MemPlace},
    DataW.trod enc P w base spare held fuel t cs = some x → ∃ y, d.K w y cs ∧ wf y

/-- The fields of a struct from one of them on. -/
structure OpensF (P : Program) (off : Nat) (fs : List Field) {α : Type} (d : Kd α) (wf : α → Prop) : Prop where
  op : ∀ {H : Type} {enc : TypeId × Value → H} {w : World} {base : Nat} {spare : Nat → Bool} {held : Bool} {n : Nat} {cs : List Value},
    cs.length = off + d.sz → (∀ (i : Nat) (f : Field), fs[i]? = some f → ∃ x, DataW.trod enc P w base spare held n f.type ((cs.drop f.offset).take (P.cellsOf f.type)) = some x) →
    ∃ y, d.K w y (cs.drop off) ∧ wf y

variable {P : Program}

theorem Opens.int {t : TypeId} {k : IntKind} (ht : P.underlying t = some (.int k)) (hc : P.cellsOf t = 1) : Opens P t (Kd.int k) (fun n => (Lit.int k n).wf = true) := by
  refine ⟨hc, fun h => ?_⟩
  obtain ⟨n, rfl, _, hw⟩ := DataW.trod_int ht h
  exact ⟨n, rfl, hw⟩

theorem Opens.bool {t : TypeId} (ht : P.underlying t = some .bool) (hc : P.cellsOf t = 1) : Opens P t Kd.bool (fun _ => True) := by
  refine ⟨hc, fun h => ?_⟩
  obtain ⟨n, rfl, _⟩ := DataW.trod_bool ht h
  exact ⟨n, rfl, trivial⟩

theorem Opens.string {t : TypeId} (ht : P.underlying t = some .string) (hc : P.cellsOf t = 1) : Opens P t Kd.string (fun s => s.size ≤ maxLen) := by
  refine ⟨hc, fun h => ?_⟩
  obtain ⟨n, rfl, _, hw⟩ := DataW.trod_string ht h
  exact ⟨n, rfl, hw⟩

theorem Opens.iso {t : TypeId} {α β : Type} {d : Kd α} {wf : α → Prop} (h : Opens P t d wf) (f : β → α) (g : α → β) (hfg : ∀ x, f (g x) = x) : Opens P t (Kd.iso d f) (fun y => wf (f y)) := by
  refine ⟨h.cells, fun hr => ?_⟩
  obtain ⟨y, hk, hw⟩ := h.op hr
  exact ⟨g y, by show d.K _ (f (g y)) _; rw [hfg]; exact hk, by show wf (f (g y)); rw [hfg]; exact hw⟩

theorem Opens.imp {t : TypeId} {α : Type} {d : Kd α} {wf wf' : α → Prop} (h : Opens P t d wf) (hw : ∀ x, wf x → wf' x) : Opens P t d wf' :=
  ⟨h.cells, fun hr => by obtain ⟨y, hk, hq⟩ := h.op hr; exact ⟨y, hk, hw y hq⟩⟩

/-- The rows of a slice. -/
theorem rows_of {H : Type} {α : Type} {d : Kd α} {wf : α → Prop} {e : TypeId} (h : Opens P e d wf) {enc : TypeId × Value → H} {w : World} {base : Nat} {spare : Nat → Bool} {held : Bool} {n : Nat} {a : Addr} :
    ∀ (len : Nat), (∀ i, i < len → ∃ x, (w.cells? base (a.add (i * P.cellsOf e)) (P.cellsOf e)).bind (DataW.trod enc P w base spare held n e) = some x) →
    ∃ ys : List α, ys.length = len ∧ (∀ j p, ys[j]? = some p → ∃ c, c.length = d.sz ∧ d.K w p c ∧ ∀ i u, c[i]? = some u → w.cell? (a.add (j * d.sz + i)) = some u) ∧ ∀ x ∈ ys, wf x := by
  intro len
  induction len with
  | zero => intro _; exact ⟨[], rfl, fun j p hp => by simp at hp, fun x hx => by simp at hx⟩
  | succ len ih =>
    intro hall
    obtain ⟨ys, hl, hy, hw⟩ := ih (fun i hi => hall i (by omega))
    obtain ⟨x, hx⟩ := hall len (by omega)
    obtain ⟨c, hc, ht⟩ := Option.bind_eq_some_iff.1 hx
    obtain ⟨y, hk, hwy⟩ := h.op ht
    refine ⟨ys ++ [y], by simp [hl], fun j p hp => ?_, fun z hz => ?_⟩
    · by_cases hj : j < len
      · rw [List.getElem?_append_left (by omega)] at hp
        exact hy j p hp
      · have hj2 : j = len := by
          have := (List.getElem?_eq_some_iff.1 hp).1
          simp [hl] at this
          omega
        subst hj2
        rw [List.getElem?_append_right (by omega), hl, Nat.sub_self] at hp
        simp at hp
        subst hp
        have hcs := World.cells?_some hc
        refine ⟨c, d.K_len hk, hk, fun i u hu => ?_⟩
        have hi := (List.getElem?_eq_some_iff.1 hu).1
        have hkl := d.K_len hk
        have h3 := hcs.2.2 i (by rw [h.cells]; omega)
        rw [hu, h.cells] at h3
        have e1 : (a.add (j * d.sz)).add i = a.add (j * d.sz + i) := by
          unfold Addr.add
          by_cases h1 : i = 0
          · simp [h1]
          · by_cases h2 : j * d.sz = 0
            · simp [h1, h2]
            · have h4 : ¬ (j * d.sz + i = 0) := by omega
              simp only [h1, h2, h4, if_false]
              congr 1
              omega
        rw [← e1]
        simpa using h3
    · rcases List.mem_append.1 hz with hz | hz
      · exact hw z hz
      · rw [List.mem_singleton.1 hz]; exact hwy

theorem Opens.slice {t e : TypeId} {α : Type} {d : Kd α} {wf : α → Prop} (ht : P.underlying t = some (.slice e)) (hc : P.cellsOf t = 1) (h : Opens P e d wf) :
    Opens P t (Kd.slice e d) (fun l => l.length ≤ maxLen ∧ ∀ x ∈ l, wf x) := by
  refine ⟨hc, fun hr => ?_⟩
  rcases DataW.trod_slice ht hr with ⟨rfl, _⟩ | ⟨a, len, cap, elems, rest, n, _, rfl, _, hb, hl, hm, hlen, hel, hsp, hns⟩
  · exact ⟨[], ⟨none, 0, rfl, Nat.le_refl _, rfl, by simp, fun h0 => absurd h0 (by simp)⟩, by simp [maxLen], fun x hx => by simp at hx⟩
  · obtain ⟨ys, hyl, hy, hw⟩ := rows_of h len (fun i hi => by
      have := hel i hi
      rw [List.getElem?_eq_getElem (by omega)] at this
      exact ⟨_, this⟩)
    have hmx : len ≤ 9223372036854775807 := by unfold maxLen at hm; omega
    exact ⟨ys, ⟨some a, cap, by rw [hyl], by omega, rfl, by omega, fun _ => ⟨a, rfl, hy⟩⟩, by unfold maxLen; omega, hw⟩

theorem OpensF.one {off : Nat} {f : Field} {α : Type} {d : Kd α} {wf : α → Prop} (ho : f.offset = off) (h : Opens P f.type d wf) : OpensF P off [f] d wf := by
  refine ⟨fun {_ enc w base spare held n cs} hl hall => ?_⟩
  obtain ⟨x, hx⟩ := hall 0 f rfl
  obtain ⟨y, hk, hw⟩ := h.op hx
  refine ⟨y, ?_, hw⟩
  rw [ho, h.cells] at hk
  rwa [List.take_of_length_le (by simp; omega)] at hk

theorem OpensF.cons {off : Nat} {f : Field} {fs : List Field} {α β : Type} {a : Kd α} {b : Kd β} {wa : α → Prop} {wb : β → Prop} (ho : f.offset = off) (h : Opens P f.type a wa) (hs : OpensF P (off + a.sz) fs b wb) :
    OpensF P off (f :: fs) (Kd.pair a b) (fun x => wa x.1 ∧ wb x.2) := by
  refine ⟨fun {_ enc w base spare held n cs} hl hall => ?_⟩
  have hl2 : cs.length = off + (a.sz + b.sz) := hl
  obtain ⟨x, hx⟩ := hall 0 f rfl
  obtain ⟨y, hk, hw⟩ := h.op hx
  obtain ⟨z, hz, hwz⟩ := hs.op (n := n) (cs := cs) (by omega) (fun i g hg => hall (i + 1) g (by simpa using hg))
  refine ⟨(y, z), ⟨(cs.drop off).take a.sz, cs.drop (off + a.sz), ?_, ?_, hz⟩, hw, hwz⟩
  · rw [← List.drop_drop, List.take_append_drop]
  · rw [ho, h.cells] at hk; exact hk

theorem Opens.struct {t : TypeId} {fs : Array Field} {α : Type} {d : Kd α} {wf : α → Prop} (ht : P.underlying t = some (.struct fs)) (hc : P.cellsOf t = d.sz) (h : OpensF P 0 fs.toList d wf) : Opens P t d wf := by
  refine ⟨hc, fun hr => ?_⟩
  obtain ⟨xs, n, _, _, hl, hxl, hall⟩ := DataW.trod_struct ht hr
  obtain ⟨y, hk, hw⟩ := h.op (n := n) (by rw [hl, hc]; omega) (fun i f hf => by
    have hf2 : fs[i]? = some f := by simpa using hf
    have := hall i f hf2
    have hi : i < xs.length := by rw [hxl]; exact (Array.getElem?_eq_some_iff.1 hf2).1
    rw [List.getElem?_eq_getElem hi] at this
    exact ⟨_, this⟩)
  exact ⟨y, by simpa using hk, hw⟩

/-- An argument of a struct type. -/
theorem Opens.arg {H : Type} {t : TypeId} {fs : Array Field} {α : Type} {d : Kd α} {wf : α → Prop} (h : Opens P t d wf) (ht : P.underlying t = some (.struct fs)) {enc : TypeId × Value → H} {w : World} {b0 : Nat} {spare : Nat → Bool} {held : Bool} {r : Reach} {v : Value} {dd : DataW H} {ps : List MemPlace}
    (hv : Value.okWide P w r b0 t v) (hd : DataW.Trod enc P w 0 spare held t v dd ps) : ∃ y cs, v = .agg ⟨cs⟩ ∧ d.K w y cs ∧ wf y := by
  obtain ⟨cs, rfl, _⟩ := okWide_struct ht hv
  obtain ⟨fuel, hf⟩ := hd
  obtain ⟨y, hk, hw⟩ := h.op hf
  exact ⟨y, cs.toList, by simp, hk, hw⟩

/-- An argument of a slice type. -/
theorem Opens.argS {H : Type} {t e : TypeId} {α : Type} {d : Kd α} {wf : List α → Prop} (h : Opens P t (Kd.slice e d) wf) (ht : P.underlying t = some (.slice e)) {enc : TypeId × Value → H} {w : World} {b0 : Nat} {spare : Nat → Bool} {held : Bool} {r : Reach} {v : Value} {dd : DataW H} {ps : List MemPlace}
    (hv : Value.okWide P w r b0 t v) (hd : DataW.Trod enc P w 0 spare held t v dd ps) : ∃ A c l, v = .slice A l.length c ∧ l.length ≤ c ∧ d.C w A l.length l ∧ wf l := by
  obtain ⟨a, len, cap, rfl⟩ := okWide_slice ht hv
  obtain ⟨fuel, hf⟩ := hd
  obtain ⟨y, ⟨A, c, he, hl, hC⟩, hw⟩ := h.op hf
  have he2 : ([Value.slice a len cap] : List Value) = [.slice A y.length c] := he
  simp only [List.cons.injEq, and_true] at he2
  exact ⟨A, c, y, he2, hl, hC, hw⟩
end Go.Proofs.Ytfbojdagjecjcaa.Opn
