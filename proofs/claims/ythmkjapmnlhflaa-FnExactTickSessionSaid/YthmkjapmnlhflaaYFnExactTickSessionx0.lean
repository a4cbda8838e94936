/- The functions that the law FnExactTickSession reaches: each as a plain Lean function, with the proof that the call does what it says. -/
import Derived.Test.YthmkjapmnlhflaaSFnExactTickSessiona
import Derived.Test.YthmkjapmnlhflaaProg
import Derived.Below
import Derived.Deep.Draws
import Derived.Deep.AppendLies
import Derived.Maps.AppendAt
import Derived.OwnWalk
import Derived.Laws.BytesArg
import Derived.Laws.MakeOwn
import Derived.Laws.OwnMore
import Derived.Deep.OwnRows
import Derived.Tactics
import Derived.Lib.ConvBytes
import Derived.Laws.Slices
import Derived.WalkKit
import Derived.KernelRfl
import Derived.RowKit3
import Derived.Deep.LoopGhost
import Derived.Deep.QuietTactic
import Derived.BigQuiet
import Derived.WideLaws
import Derived.Deep.DeepCutAuto
import Derived.Deep.CutBlock
import Derived.Deep.RegionHeld3
import Derived.Laws.Rows
import Derived.Lib.AppendStr
import Derived.ArgAppend
import Derived.Laws.IdiomCopy
import Derived.OrdersHeld
import Derived.Laws.BitsLemmas
import Derived.RowKit
namespace Go.Proofs.Ythmkjapmnlhflaa.PFnExactTickSession
open Go.RowKit Go.Proofs.YthmkjapmnlhflaaW.PrintWords Go.Proofs.YthmkjapmnlhflaaW.PrintLast Go.Proofs.YthmkjapmnlhflaaW.PrintMore
attribute [local go_sem] max2_int min2_int max_two min_two max_three min_three max_four min_four
set_option linter.unusedVariables false
set_option linter.unusedSimpArgs false
def errW : Option Int → Value
  | none => .nilIface
  | some c => .iface 0 (.int .i64 c)
theorem errW_none : errW none = .nilIface := rfl
theorem errW_some (c : Int) : errW (some c) = .iface 0 (.int .i64 c) := rfl
theorem info136 : (Try.prog.info? 136).map (fun i => (i.zero, i.size, i.bytes)) = some (some (.agg #[(.int .i64 0), (.int .i64 0), (.int .i64 0), (.int .i64 0), (.int .i64 0), (.int .i64 0), (.slice none 0 0), (.bool false), (.int .i64 0), (.slice none 0 0), (.int .i64 0), (.int .i64 0), (.int .i64 0), (.slice none 0 0)]), 14, 160) := by kernel_rfl
structure S167 where
  f0 : Int
  f1 : Int
def z167 : S167 := ⟨(0 : Int), (0 : Int)⟩
def k167 : Kd S167 := Kd.iso (Kd.pair (Kd.int .i64) (Kd.int .i64)) (fun x : S167 => (x.f0, x.f1))
theorem k167_open {w : World} {x : S167} {cs : List Value} (h : k167.K w x cs) : cs = [.int .i64 x.f0, .int .i64 x.f1] := by
  obtain ⟨_, _, rfl, rfl, rfl⟩ := h
  exact rfl
theorem k167_openM {w : World} {base : Nat} {ok : Nat → Prop} {x : S167} {cs : List Value} (h : k167.M w base ok x cs) : cs = [.int .i64 x.f0, .int .i64 x.f1] := by
  obtain ⟨_, _, rfl, rfl, rfl⟩ := h
  exact rfl
theorem k167_mk (w : World) (x : S167)  : k167.K w x [.int .i64 x.f0, .int .i64 x.f1] := ⟨[.int .i64 x.f0], [.int .i64 x.f1], rfl, rfl, rfl⟩
theorem k167_mkM (w : World) (base : Nat) (ok : Nat → Prop) (x : S167)  : k167.M w base ok x [.int .i64 x.f0, .int .i64 x.f1] := ⟨[.int .i64 x.f0], [.int .i64 x.f1], rfl, rfl, rfl⟩
theorem k167_mkF (W : World) (ok : Nat → Prop) (x : S167) : Kd.FK k167 W ok x [.int .i64 x.f0, .int .i64 x.f1] := fun W2 _ => k167_mk W2 x
def rd_T167 (xs : List S167) (i : Int) : S167 := xs.getD i.toNat z167
theorem at_T167 {w : World} {A : Option Addr} {n : Nat} {xs : List S167} (h : Kd.C k167 w A n xs) (i : Int) (h0 : 0 ≤ i) (h1 : i < n) : ∃ ad , A = some ad ∧ w.cell? (ad.add (i.toNat * 2)) = some (.int .i64 (rd_T167 xs i).f0) ∧ w.cell? ⟨(ad.add (i.toNat * 2)).block, (ad.add (i.toNat * 2)).off + 1, none⟩ = some (.int .i64 (rd_T167 xs i).f1) := by
  obtain ⟨ad, c, e, _, hK, hc0⟩ := Kd.C_get h z167 i h0 h1
  have hc : ∀ j u, c[j]? = some u → w.cell? (ad.add (i.toNat * 2 + j)) = some u := hc0
  obtain rfl := k167_open hK
  exact ⟨ad, e, hc 0 _ rfl, by rw [← add_field _ _ 1 (by omega)]; exact hc 1 _ rfl⟩
def rd_L2 (xs : List (List S167)) (i : Int) : (List S167) := xs.getD i.toNat ([] : List S167)
theorem at_L2 {w : World} {A : Option Addr} {n : Nat} {xs : List (List S167)} (h : Kd.C (Kd.slice 167 k167) w A n xs) (i : Int) (h0 : 0 ≤ i) (h1 : i < n) : ∃ ad A0 c0, A = some ad ∧ w.cell? (ad.add i.toNat) = some (.slice A0 (rd_L2 xs i).length c0) ∧ (rd_L2 xs i).length ≤ c0 ∧ k167.C w A0 (rd_L2 xs i).length (rd_L2 xs i) := by
  obtain ⟨ad, c, e, _, hK, hc0⟩ := Kd.C_get h ([] : List S167) i h0 h1
  have hc : ∀ j u, c[j]? = some u → w.cell? (ad.add (i.toNat * 1 + j)) = some u := hc0
  obtain ⟨A0, c0, rfl, l0, g0⟩ := hK
  exact ⟨ad, A0, c0, e, by have hq := hc 0 _ rfl; rwa [Nat.mul_one, Nat.add_zero] at hq, l0, g0⟩
def rd_L4 (xs : List (List Int)) (i : Int) : (List Int) := xs.getD i.toNat ([] : List Int)
theorem at_L4 {w : World} {A : Option Addr} {n : Nat} {xs : List (List Int)} (h : Kd.C (Kd.slice 2 (Kd.int .i64)) w A n xs) (i : Int) (h0 : 0 ≤ i) (h1 : i < n) : ∃ ad A0 c0, A = some ad ∧ w.cell? (ad.add i.toNat) = some (.slice A0 (rd_L4 xs i).length c0) ∧ (rd_L4 xs i).length ≤ c0 ∧ (Kd.int .i64).C w A0 (rd_L4 xs i).length (rd_L4 xs i) := by
  obtain ⟨ad, c, e, _, hK, hc0⟩ := Kd.C_get h ([] : List Int) i h0 h1
  have hc : ∀ j u, c[j]? = some u → w.cell? (ad.add (i.toNat * 1 + j)) = some u := hc0
  obtain ⟨A0, c0, rfl, l0, g0⟩ := hK
  exact ⟨ad, A0, c0, e, by have hq := hc 0 _ rfl; rwa [Nat.mul_one, Nat.add_zero] at hq, l0, g0⟩
structure S132 where
  f0 : Int
  f1 : (List Int)
  f2 : Int
  f3 : Int
  f4 : Int
def z132 : S132 := ⟨(0 : Int), ([] : List Int), (0 : Int), (0 : Int), (0 : Int)⟩
def k132 : Kd S132 := Kd.iso (Kd.pair (Kd.int .i64) (Kd.pair (Kd.slice 2 (Kd.int .i64)) (Kd.pair (Kd.int .i64) (Kd.pair (Kd.int .i64) (Kd.int .i64))))) (fun x : S132 => (x.f0, x.f1, x.f2, x.f3, x.f4))
theorem k132_open {w : World} {x : S132} {cs : List Value} (h : k132.K w x cs) : ∃ A1 c1, cs = [.int .i64 x.f0, .slice A1 x.f1.length c1, .int .i64 x.f2, .int .i64 x.f3, .int .i64 x.f4] ∧ x.f1.length ≤ c1 ∧ (Kd.int .i64).C w A1 x.f1.length x.f1 := by
  obtain ⟨_, _, rfl, rfl, ⟨_, _, rfl, ⟨A1, c1, rfl, l1, g1⟩, ⟨_, _, rfl, rfl, ⟨_, _, rfl, rfl, rfl⟩⟩⟩⟩ := h
  exact ⟨A1, c1, rfl, l1, g1⟩
theorem k132_openM {w : World} {base : Nat} {ok : Nat → Prop} {x : S132} {cs : List Value} (h : k132.M w base ok x cs) : ∃ v1, cs = [.int .i64 x.f0, v1, .int .i64 x.f2, .int .i64 x.f3, .int .i64 x.f4] ∧ (Kd.int .i64).R 2 w base ok v1 x.f1 := by
  obtain ⟨_, _, rfl, rfl, ⟨_, _, rfl, ⟨v1, rfl, g1⟩, ⟨_, _, rfl, rfl, ⟨_, _, rfl, rfl, rfl⟩⟩⟩⟩ := h
  exact ⟨v1, rfl, g1⟩
theorem k132_mk (w : World) (x : S132) {A1 : Option Addr} {c1 : Nat} (l1 : x.f1.length ≤ c1) (g1 : (Kd.int .i64).C w A1 x.f1.length x.f1) : k132.K w x [.int .i64 x.f0, .slice A1 x.f1.length c1, .int .i64 x.f2, .int .i64 x.f3, .int .i64 x.f4] := ⟨[.int .i64 x.f0], [.slice A1 x.f1.length c1, .int .i64 x.f2, .int .i64 x.f3, .int .i64 x.f4], rfl, rfl, ⟨[.slice A1 x.f1.length c1], [.int .i64 x.f2, .int .i64 x.f3, .int .i64 x.f4], rfl, ⟨A1, c1, rfl, l1, g1⟩, ⟨[.int .i64 x.f2], [.int .i64 x.f3, .int .i64 x.f4], rfl, rfl, ⟨[.int .i64 x.f3], [.int .i64 x.f4], rfl, rfl, rfl⟩⟩⟩⟩
theorem k132_mkM (w : World) (base : Nat) (ok : Nat → Prop) (x : S132) {v1 : Value} (g1 : (Kd.int .i64).R 2 w base ok v1 x.f1) : k132.M w base ok x [.int .i64 x.f0, v1, .int .i64 x.f2, .int .i64 x.f3, .int .i64 x.f4] := ⟨[.int .i64 x.f0], [v1, .int .i64 x.f2, .int .i64 x.f3, .int .i64 x.f4], rfl, rfl, ⟨[v1], [.int .i64 x.f2, .int .i64 x.f3, .int .i64 x.f4], rfl, ⟨v1, rfl, g1⟩, ⟨[.int .i64 x.f2], [.int .i64 x.f3, .int .i64 x.f4], rfl, rfl, ⟨[.int .i64 x.f3], [.int .i64 x.f4], rfl, rfl, rfl⟩⟩⟩⟩
theorem k132_openF {W : World} {ok : Nat → Prop} {x : S132} {cs : List Value} (h : Kd.FK k132 W ok x cs) : ∃ A1 c1, cs = [.int .i64 x.f0, .slice A1 x.f1.length c1, .int .i64 x.f2, .int .i64 x.f3, .int .i64 x.f4] ∧ x.f1.length ≤ c1 ∧ Kd.F (Kd.int .i64) W ok A1 x.f1.length x.f1 := by
  obtain ⟨A1, c1, rfl, l1, _⟩ := k132_open (Kd.FK_now h)
  exact ⟨A1, c1, rfl, l1, (fun W' hW => by obtain ⟨A1_, c1_, he, l1_, g1_⟩ := k132_open (h W' hW); injection (Option.some.inj (show some (Value.slice A1 x.f1.length c1) = some (Value.slice A1_ x.f1.length c1_) from congrArg (fun l => l[1]?) he)) with ha_ _ _; rw [ha_]; exact g1_)⟩
theorem k132_mkF (W : World) (ok : Nat → Prop) (x : S132) {A1 : Option Addr} {c1 : Nat} (l1 : x.f1.length ≤ c1) (g1 : Kd.F (Kd.int .i64) W ok A1 x.f1.length x.f1) : Kd.FK k132 W ok x [.int .i64 x.f0, .slice A1 x.f1.length c1, .int .i64 x.f2, .int .i64 x.f3, .int .i64 x.f4] := fun W2 hW => k132_mk W2 x l1 (g1 W2 hW)
def rd_T132 (xs : List S132) (i : Int) : S132 := xs.getD i.toNat z132
theorem at_T132 {w : World} {A : Option Addr} {n : Nat} {xs : List S132} (h : Kd.C k132 w A n xs) (i : Int) (h0 : 0 ≤ i) (h1 : i < n) : ∃ ad A1 c1, A = some ad ∧ w.cell? (ad.add (i.toNat * 5)) = some (.int .i64 (rd_T132 xs i).f0) ∧ w.cell? ⟨(ad.add (i.toNat * 5)).block, (ad.add (i.toNat * 5)).off + 1, none⟩ = some (.slice A1 (rd_T132 xs i).f1.length c1) ∧ w.cell? ⟨(ad.add (i.toNat * 5)).block, (ad.add (i.toNat * 5)).off + 2, none⟩ = some (.int .i64 (rd_T132 xs i).f2) ∧ w.cell? ⟨(ad.add (i.toNat * 5)).block, (ad.add (i.toNat * 5)).off + 3, none⟩ = some (.int .i64 (rd_T132 xs i).f3) ∧ w.cell? ⟨(ad.add (i.toNat * 5)).block, (ad.add (i.toNat * 5)).off + 4, none⟩ = some (.int .i64 (rd_T132 xs i).f4) ∧ (rd_T132 xs i).f1.length ≤ c1 ∧ (Kd.int .i64).C w A1 (rd_T132 xs i).f1.length (rd_T132 xs i).f1 := by
  obtain ⟨ad, c, e, _, hK, hc0⟩ := Kd.C_get h z132 i h0 h1
  have hc : ∀ j u, c[j]? = some u → w.cell? (ad.add (i.toNat * 5 + j)) = some u := hc0
  obtain ⟨A1, c1, rfl, l1, g1⟩ := k132_open hK
  exact ⟨ad, A1, c1, e, hc 0 _ rfl, by rw [← add_field _ _ 1 (by omega)]; exact hc 1 _ rfl, by rw [← add_field _ _ 2 (by omega)]; exact hc 2 _ rfl, by rw [← add_field _ _ 3 (by omega)]; exact hc 3 _ rfl, by rw [← add_field _ _ 4 (by omega)]; exact hc 4 _ rfl, l1, g1⟩
structure S134 where
  f0 : (List S167)
  f1 : Bool
  f2 : S132
  f3 : (List S167)
def z134 : S134 := ⟨([] : List S167), false, z132, ([] : List S167)⟩
def k134 : Kd S134 := Kd.iso (Kd.pair (Kd.slice 167 k167) (Kd.pair Kd.bool (Kd.pair k132 (Kd.slice 167 k167)))) (fun x : S134 => (x.f0, x.f1, x.f2, x.f3))
theorem k134_open {w : World} {x : S134} {cs : List Value} (h : k134.K w x cs) : ∃ A0 c0 A3 c3 A7 c7, cs = [.slice A0 x.f0.length c0, .bool x.f1, .int .i64 x.f2.f0, .slice A3 x.f2.f1.length c3, .int .i64 x.f2.f2, .int .i64 x.f2.f3, .int .i64 x.f2.f4, .slice A7 x.f3.length c7] ∧ x.f0.length ≤ c0 ∧ k167.C w A0 x.f0.length x.f0 ∧ x.f2.f1.length ≤ c3 ∧ (Kd.int .i64).C w A3 x.f2.f1.length x.f2.f1 ∧ x.f3.length ≤ c7 ∧ k167.C w A7 x.f3.length x.f3 := by
  obtain ⟨_, _, rfl, ⟨A0, c0, rfl, l0, g0⟩, ⟨_, _, rfl, rfl, ⟨_, _, rfl, s2, ⟨A7, c7, rfl, l7, g7⟩⟩⟩⟩ := h
  obtain ⟨A3, c3, rfl, l3, g3⟩ := k132_open s2
  exact ⟨A0, c0, A3, c3, A7, c7, rfl, l0, g0, l3, g3, l7, g7⟩
theorem k134_openM {w : World} {base : Nat} {ok : Nat → Prop} {x : S134} {cs : List Value} (h : k134.M w base ok x cs) : ∃ v0 v3 v7, cs = [v0, .bool x.f1, .int .i64 x.f2.f0, v3, .int .i64 x.f2.f2, .int .i64 x.f2.f3, .int .i64 x.f2.f4, v7] ∧ k167.R 167 w base ok v0 x.f0 ∧ (Kd.int .i64).R 2 w base ok v3 x.f2.f1 ∧ k167.R 167 w base ok v7 x.f3 := by
  obtain ⟨_, _, rfl, ⟨v0, rfl, g0⟩, ⟨_, _, rfl, rfl, ⟨_, _, rfl, s2, ⟨v7, rfl, g7⟩⟩⟩⟩ := h
  obtain ⟨v3, rfl, g3⟩ := k132_openM s2
  exact ⟨v0, v3, v7, rfl, g0, g3, g7⟩
theorem k134_mk (w : World) (x : S134) {A0 : Option Addr} {c0 : Nat} (l0 : x.f0.length ≤ c0) (g0 : k167.C w A0 x.f0.length x.f0) {A3 : Option Addr} {c3 : Nat} (l3 : x.f2.f1.length ≤ c3) (g3 : (Kd.int .i64).C w A3 x.f2.f1.length x.f2.f1) {A7 : Option Addr} {c7 : Nat} (l7 : x.f3.length ≤ c7) (g7 : k167.C w A7 x.f3.length x.f3) : k134.K w x [.slice A0 x.f0.length c0, .bool x.f1, .int .i64 x.f2.f0, .slice A3 x.f2.f1.length c3, .int .i64 x.f2.f2, .int .i64 x.f2.f3, .int .i64 x.f2.f4, .slice A7 x.f3.length c7] := ⟨[.slice A0 x.f0.length c0], [.bool x.f1, .int .i64 x.f2.f0, .slice A3 x.f2.f1.length c3, .int .i64 x.f2.f2, .int .i64 x.f2.f3, .int .i64 x.f2.f4, .slice A7 x.f3.length c7], rfl, ⟨A0, c0, rfl, l0, g0⟩, ⟨[.bool x.f1], [.int .i64 x.f2.f0, .slice A3 x.f2.f1.length c3, .int .i64 x.f2.f2, .int .i64 x.f2.f3, .int .i64 x.f2.f4, .slice A7 x.f3.length c7], rfl, rfl, ⟨[.int .i64 x.f2.f0, .slice A3 x.f2.f1.length c3, .int .i64 x.f2.f2, .int .i64 x.f2.f3, .int .i64 x.f2.f4], [.slice A7 x.f3.length c7], rfl, (k132_mk w x.f2 l3 g3), ⟨A7, c7, rfl, l7, g7⟩⟩⟩⟩
theorem k134_mkM (w : World) (base : Nat) (ok : Nat → Prop) (x : S134) {v0 : Value} (g0 : k167.R 167 w base ok v0 x.f0) {v3 : Value} (g3 : (Kd.int .i64).R 2 w base ok v3 x.f2.f1) {v7 : Value} (g7 : k167.R 167 w base ok v7 x.f3) : k134.M w base ok x [v0, .bool x.f1, .int .i64 x.f2.f0, v3, .int .i64 x.f2.f2, .int .i64 x.f2.f3, .int .i64 x.f2.f4, v7] := ⟨[v0], [.bool x.f1, .int .i64 x.f2.f0, v3, .int .i64 x.f2.f2, .int .i64 x.f2.f3, .int .i64 x.f2.f4, v7], rfl, ⟨v0, rfl, g0⟩, ⟨[.bool x.f1], [.int .i64 x.f2.f0, v3, .int .i64 x.f2.f2, .int .i64 x.f2.f3, .int .i64 x.f2.f4, v7], rfl, rfl, ⟨[.int .i64 x.f2.f0, v3, .int .i64 x.f2.f2, .int .i64 x.f2.f3, .int .i64 x.f2.f4], [v7], rfl, (k132_mkM w base ok x.f2 g3), ⟨v7, rfl, g7⟩⟩⟩⟩
theorem k134_openF {W : World} {ok : Nat → Prop} {x : S134} {cs : List Value} (h : Kd.FK k134 W ok x cs) : ∃ A0 c0 A3 c3 A7 c7, cs = [.slice A0 x.f0.length c0, .bool x.f1, .int .i64 x.f2.f0, .slice A3 x.f2.f1.length c3, .int .i64 x.f2.f2, .int .i64 x.f2.f3, .int .i64 x.f2.f4, .slice A7 x.f3.length c7] ∧ x.f0.length ≤ c0 ∧ Kd.F k167 W ok A0 x.f0.length x.f0 ∧ x.f2.f1.length ≤ c3 ∧ Kd.F (Kd.int .i64) W ok A3 x.f2.f1.length x.f2.f1 ∧ x.f3.length ≤ c7 ∧ Kd.F k167 W ok A7 x.f3.length x.f3 := by
  obtain ⟨A0, c0, A3, c3, A7, c7, rfl, l0, _, l3, _, l7, _⟩ := k134_open (Kd.FK_now h)
  exact ⟨A0, c0, A3, c3, A7, c7, rfl, l0, (fun W' hW => by obtain ⟨A0_, c0_, A3_, c3_, A7_, c7_, he, l0_, g0_, l3_, g3_, l7_, g7_⟩ := k134_open (h W' hW); injection (Option.some.inj (show some (Value.slice A0 x.f0.length c0) = some (Value.slice A0_ x.f0.length c0_) from congrArg (fun l => l[0]?) he)) with ha_ _ _; rw [ha_]; exact g0_), l3, (fun W' hW => by obtain ⟨A0_, c0_, A3_, c3_, A7_, c7_, he, l0_, g0_, l3_, g3_, l7_, g7_⟩ := k134_open (h W' hW); injection (Option.some.inj (show some (Value.slice A3 x.f2.f1.length c3) = some (Value.slice A3_ x.f2.f1.length c3_) from congrArg (fun l => l[3]?) he)) with ha_ _ _; rw [ha_]; exact g3_), l7, (fun W' hW => by obtain ⟨A0_, c0_, A3_, c3_, A7_, c7_, he, l0_, g0_, l3_, g3_, l7_, g7_⟩ := k134_open (h W' hW); injection (Option.some.inj (show some (Value.slice A7 x.f3.length c7) = some (Value.slice A7_ x.f3.length c7_) from congrArg (fun l => l[7]?) he)) with ha_ _ _; rw [ha_]; exact g7_)⟩
theorem k134_mkF (W : World) (ok : Nat → Prop) (x : S134) {A0 : Option Addr} {c0 : Nat} (l0 : x.f0.length ≤ c0) (g0 : Kd.F k167 W ok A0 x.f0.length x.f0) {A3 : Option Addr} {c3 : Nat} (l3 : x.f2.f1.length ≤ c3) (g3 : Kd.F (Kd.int .i64) W ok A3 x.f2.f1.length x.f2.f1) {A7 : Option Addr} {c7 : Nat} (l7 : x.f3.length ≤ c7) (g7 : Kd.F k167 W ok A7 x.f3.length x.f3) : Kd.FK k134 W ok x [.slice A0 x.f0.length c0, .bool x.f1, .int .i64 x.f2.f0, .slice A3 x.f2.f1.length c3, .int .i64 x.f2.f2, .int .i64 x.f2.f3, .int .i64 x.f2.f4, .slice A7 x.f3.length c7] := fun W2 hW => k134_mk W2 x l0 (g0 W2 hW) l3 (g3 W2 hW) l7 (g7 W2 hW)
def rd_T134 (xs : List S134) (i : Int) : S134 := xs.getD i.toNat z134
theorem at_T134 {w : World} {A : Option Addr} {n : Nat} {xs : List S134} (h : Kd.C k134 w A n xs) (i : Int) (h0 : 0 ≤ i) (h1 : i < n) : ∃ ad A0 c0 A3 c3 A7 c7, A = some ad ∧ w.cell? (ad.add (i.toNat * 8)) = some (.slice A0 (rd_T134 xs i).f0.length c0) ∧ w.cell? ⟨(ad.add (i.toNat * 8)).block, (ad.add (i.toNat * 8)).off + 1, none⟩ = some (.bool (rd_T134 xs i).f1) ∧ w.cell? ⟨(ad.add (i.toNat * 8)).block, (ad.add (i.toNat * 8)).off + 2, none⟩ = some (.int .i64 (rd_T134 xs i).f2.f0) ∧ w.cell? ⟨(ad.add (i.toNat * 8)).block, (ad.add (i.toNat * 8)).off + 3, none⟩ = some (.slice A3 (rd_T134 xs i).f2.f1.length c3) ∧ w.cell? ⟨(ad.add (i.toNat * 8)).block, (ad.add (i.toNat * 8)).off + 4, none⟩ = some (.int .i64 (rd_T134 xs i).f2.f2) ∧ w.cell? ⟨(ad.add (i.toNat * 8)).block, (ad.add (i.toNat * 8)).off + 5, none⟩ = some (.int .i64 (rd_T134 xs i).f2.f3) ∧ w.cell? ⟨(ad.add (i.toNat * 8)).block, (ad.add (i.toNat * 8)).off + 6, none⟩ = some (.int .i64 (rd_T134 xs i).f2.f4) ∧ w.cell? ⟨(ad.add (i.toNat * 8)).block, (ad.add (i.toNat * 8)).off + 7, none⟩ = some (.slice A7 (rd_T134 xs i).f3.length c7) ∧ (rd_T134 xs i).f0.length ≤ c0 ∧ k167.C w A0 (rd_T134 xs i).f0.length (rd_T134 xs i).f0 ∧ (rd_T134 xs i).f2.f1.length ≤ c3 ∧ (Kd.int .i64).C w A3 (rd_T134 xs i).f2.f1.length (rd_T134 xs i).f2.f1 ∧ (rd_T134 xs i).f3.length ≤ c7 ∧ k167.C w A7 (rd_T134 xs i).f3.length (rd_T134 xs i).f3 := by
  obtain ⟨ad, c, e, _, hK, hc0⟩ := Kd.C_get h z134 i h0 h1
  have hc : ∀ j u, c[j]? = some u → w.cell? (ad.add (i.toNat * 8 + j)) = some u := hc0
  obtain ⟨A0, c0, A3, c3, A7, c7, rfl, l0, g0, l3, g3, l7, g7⟩ := k134_open hK
  exact ⟨ad, A0, c0, A3, c3, A7, c7, e, hc 0 _ rfl, by rw [← add_field _ _ 1 (by omega)]; exact hc 1 _ rfl, by rw [← add_field _ _ 2 (by omega)]; exact hc 2 _ rfl, by rw [← add_field _ _ 3 (by omega)]; exact hc 3 _ rfl, by rw [← add_field _ _ 4 (by omega)]; exact hc 4 _ rfl, by rw [← add_field _ _ 5 (by omega)]; exact hc 5 _ rfl, by rw [← add_field _ _ 6 (by omega)]; exact hc 6 _ rfl, by rw [← add_field _ _ 7 (by omega)]; exact hc 7 _ rfl, l0, g0, l3, g3, l7, g7⟩
structure S136 where
  f0 : Int
  f1 : Int
  f2 : Int
  f3 : Int
  f4 : Int
  f5 : Int
  f6 : S134
def z136 : S136 := ⟨(0 : Int), (0 : Int), (0 : Int), (0 : Int), (0 : Int), (0 : Int), z134⟩
def k136 : Kd S136 := Kd.iso (Kd.pair (Kd.int .i64) (Kd.pair (Kd.int .i64) (Kd.pair (Kd.int .i64) (Kd.pair (Kd.int .i64) (Kd.pair (Kd.int .i64) (Kd.pair (Kd.int .i64) k134)))))) (fun x : S136 => (x.f0, x.f1, x.f2, x.f3, x.f4, x.f5, x.f6))
theorem k136_open {w : World} {x : S136} {cs : List Value} (h : k136.K w x cs) : ∃ A6 c6 A9 c9 A13 c13, cs = [.int .i64 x.f0, .int .i64 x.f1, .int .i64 x.f2, .int .i64 x.f3, .int .i64 x.f4, .int .i64 x.f5, .slice A6 x.f6.f0.length c6, .bool x.f6.f1, .int .i64 x.f6.f2.f0, .slice A9 x.f6.f2.f1.length c9, .int .i64 x.f6.f2.f2, .int .i64 x.f6.f2.f3, .int .i64 x.f6.f2.f4, .slice A13 x.f6.f3.length c13] ∧ x.f6.f0.length ≤ c6 ∧ k167.C w A6 x.f6.f0.length x.f6.f0 ∧ x.f6.f2.f1.length ≤ c9 ∧ (Kd.int .i64).C w A9 x.f6.f2.f1.length x.f6.f2.f1 ∧ x.f6.f3.length ≤ c13 ∧ k167.C w A13 x.f6.f3.length x.f6.f3 := by
  obtain ⟨_, _, rfl, rfl, ⟨_, _, rfl, rfl, ⟨_, _, rfl, rfl, ⟨_, _, rfl, rfl, ⟨_, _, rfl, rfl, ⟨_, _, rfl, rfl, s6⟩⟩⟩⟩⟩⟩ := h
  obtain ⟨A6, c6, A9, c9, A13, c13, rfl, l6, g6, l9, g9, l13, g13⟩ := k134_open s6
  exact ⟨A6, c6, A9, c9, A13, c13, rfl, l6, g6, l9, g9, l13, g13⟩
theorem k136_openM {w : World} {base : Nat} {ok : Nat → Prop} {x : S136} {cs : List Value} (h : k136.M w base ok x cs) : ∃ v6 v9 v13, cs = [.int .i64 x.f0, .int .i64 x.f1, .int .i64 x.f2, .int .i64 x.f3, .int .i64 x.f4, .int .i64 x.f5, v6, .bool x.f6.f1, .int .i64 x.f6.f2.f0, v9, .int .i64 x.f6.f2.f2, .int .i64 x.f6.f2.f3, .int .i64 x.f6.f2.f4, v13] ∧ k167.R 167 w base ok v6 x.f6.f0 ∧ (Kd.int .i64).R 2 w base ok v9 x.f6.f2.f1 ∧ k167.R 167 w base ok v13 x.f6.f3 := by
  obtain ⟨_, _, rfl, rfl, ⟨_, _, rfl, rfl, ⟨_, _, rfl, rfl, ⟨_, _, rfl, rfl, ⟨_, _, rfl, rfl, ⟨_, _, rfl, rfl, s6⟩⟩⟩⟩⟩⟩ := h
  obtain ⟨v6, v9, v13, rfl, g6, g9, g13⟩ := k134_openM s6
  exact ⟨v6, v9, v13, rfl, g6, g9, g13⟩
theorem k136_mk (w : World) (x : S136) {A6 : Option Addr} {c6 : Nat} (l6 : x.f6.f0.length ≤ c6) (g6 : k167.C w A6 x.f6.f0.length x.f6.f0) {A9 : Option Addr} {c9 : Nat} (l9 : x.f6.f2.f1.length ≤ c9) (g9 : (Kd.int .i64).C w A9 x.f6.f2.f1.length x.f6.f2.f1) {A13 : Option Addr} {c13 : Nat} (l13 : x.f6.f3.length ≤ c13) (g13 : k167.C w A13 x.f6.f3.length x.f6.f3) : k136.K w x [.int .i64 x.f0, .int .i64 x.f1, .int .i64 x.f2, .int .i64 x.f3, .int .i64 x.f4, .int .i64 x.f5, .slice A6 x.f6.f0.length c6, .bool x.f6.f1, .int .i64 x.f6.f2.f0, .slice A9 x.f6.f2.f1.length c9, .int .i64 x.f6.f2.f2, .int .i64 x.f6.f2.f3, .int .i64 x.f6.f2.f4, .slice A13 x.f6.f3.length c13] := ⟨[.int .i64 x.f0], [.int .i64 x.f1, .int .i64 x.f2, .int .i64 x.f3, .int .i64 x.f4, .int .i64 x.f5, .slice A6 x.f6.f0.length c6, .bool x.f6.f1, .int .i64 x.f6.f2.f0, .slice A9 x.f6.f2.f1.length c9, .int .i64 x.f6.f2.f2, .int .i64 x.f6.f2.f3, .int .i64 x.f6.f2.f4, .slice A13 x.f6.f3.length c13], rfl, rfl, ⟨[.int .i64 x.f1], [.int .i64 x.f2, .int .i64 x.f3, .int .i64 x.f4, .int .i64 x.f5, .slice A6 x.f6.f0.length c6, .bool x.f6.f1, .int .i64 x.f6.f2.f0, .slice A9 x.f6.f2.f1.length c9, .int .i64 x.f6.f2.f2, .int .i64 x.f6.f2.f3, .int .i64 x.f6.f2.f4, .slice A13 x.f6.f3.length c13], rfl, rfl, ⟨[.int .i64 x.f2], [.int .i64 x.f3, .int .i64 x.f4, .int .i64 x.f5, .slice A6 x.f6.f0.length c6, .bool x.f6.f1, .int .i64 x.f6.f2.f0, .slice A9 x.f6.f2.f1.length c9, .int .i64 x.f6.f2.f2, .int .i64 x.f6.f2.f3, .int .i64 x.f6.f2.f4, .slice A13 x.f6.f3.length c13], rfl, rfl, ⟨[.int .i64 x.f3], [.int .i64 x.f4, .int .i64 x.f5, .slice A6 x.f6.f0.length c6, .bool x.f6.f1, .int .i64 x.f6.f2.f0, .slice A9 x.f6.f2.f1.length c9, .int .i64 x.f6.f2.f2, .int .i64 x.f6.f2.f3, .int .i64 x.f6.f2.f4, .slice A13 x.f6.f3.length c13], rfl, rfl, ⟨[.int .i64 x.f4], [.int .i64 x.f5, .slice A6 x.f6.f0.length c6, .bool x.f6.f1, .int .i64 x.f6.f2.f0, .slice A9 x.f6.f2.f1.length c9, .int .i64 x.f6.f2.f2, .int .i64 x.f6.f2.f3, .int .i64 x.f6.f2.f4, .slice A13 x.f6.f3.length c13], rfl, rfl, ⟨[.int .i64 x.f5], [.slice A6 x.f6.f0.length c6, .bool x.f6.f1, .int .i64 x.f6.f2.f0, .slice A9 x.f6.f2.f1.length c9, .int .i64 x.f6.f2.f2, .int .i64 x.f6.f2.f3, .int .i64 x.f6.f2.f4, .slice A13 x.f6.f3.length c13], rfl, rfl, (k134_mk w x.f6 l6 g6 l9 g9 l13 g13)⟩⟩⟩⟩⟩⟩
theorem k136_mkM (w : World) (base : Nat) (ok : Nat → Prop) (x : S136) {v6 : Value} (g6 : k167.R 167 w base ok v6 x.f6.f0) {v9 : Value} (g9 : (Kd.int .i64).R 2 w base ok v9 x.f6.f2.f1) {v13 : Value} (g13 : k167.R 167 w base ok v13 x.f6.f3) : k136.M w base ok x [.int .i64 x.f0, .int .i64 x.f1, .int .i64 x.f2, .int .i64 x.f3, .int .i64 x.f4, .int .i64 x.f5, v6, .bool x.f6.f1, .int .i64 x.f6.f2.f0, v9, .int .i64 x.f6.f2.f2, .int .i64 x.f6.f2.f3, .int .i64 x.f6.f2.f4, v13] := ⟨[.int .i64 x.f0], [.int .i64 x.f1, .int .i64 x.f2, .int .i64 x.f3, .int .i64 x.f4, .int .i64 x.f5, v6, .bool x.f6.f1, .int .i64 x.f6.f2.f0, v9, .int .i64 x.f6.f2.f2, .int .i64 x.f6.f2.f3, .int .i64 x.f6.f2.f4, v13], rfl, rfl, ⟨[.int .i64 x.f1], [.int .i64 x.f2, .int .i64 x.f3, .int .i64 x.f4, .int .i64 x.f5, v6, .bool x.f6.f1, .int .i64 x.f6.f2.f0, v9, .int .i64 x.f6.f2.f2, .int .i64 x.f6.f2.f3, .int .i64 x.f6.f2.f4, v13], rfl, rfl, ⟨[.int .i64 x.f2], [.int .i64 x.f3, .int .i64 x.f4, .int .i64 x.f5, v6, .bool x.f6.f1, .int .i64 x.f6.f2.f0, v9, .int .i64 x.f6.f2.f2, .int .i64 x.f6.f2.f3, .int .i64 x.f6.f2.f4, v13], rfl, rfl, ⟨[.int .i64 x.f3], [.int .i64 x.f4, .int .i64 x.f5, v6, .bool x.f6.f1, .int .i64 x.f6.f2.f0, v9, .int .i64 x.f6.f2.f2, .int .i64 x.f6.f2.f3, .int .i64 x.f6.f2.f4, v13], rfl, rfl, ⟨[.int .i64 x.f4], [.int .i64 x.f5, v6, .bool x.f6.f1, .int .i64 x.f6.f2.f0, v9, .int .i64 x.f6.f2.f2, .int .i64 x.f6.f2.f3, .int .i64 x.f6.f2.f4, v13], rfl, rfl, ⟨[.int .i64 x.f5], [v6, .bool x.f6.f1, .int .i64 x.f6.f2.f0, v9, .int .i64 x.f6.f2.f2, .int .i64 x.f6.f2.f3, .int .i64 x.f6.f2.f4, v13], rfl, rfl, (k134_mkM w base ok x.f6 g6 g9 g13)⟩⟩⟩⟩⟩⟩
theorem k136_openF {W : World} {ok : Nat → Prop} {x : S136} {cs : List Value} (h : Kd.FK k136 W ok x cs) : ∃ A6 c6 A9 c9 A13 c13, cs = [.int .i64 x.f0, .int .i64 x.f1, .int .i64 x.f2, .int .i64 x.f3, .int .i64 x.f4, .int .i64 x.f5, .slice A6 x.f6.f0.length c6, .bool x.f6.f1, .int .i64 x.f6.f2.f0, .slice A9 x.f6.f2.f1.length c9, .int .i64 x.f6.f2.f2, .int .i64 x.f6.f2.f3, .int .i64 x.f6.f2.f4, .slice A13 x.f6.f3.length c13] ∧ x.f6.f0.length ≤ c6 ∧ Kd.F k167 W ok A6 x.f6.f0.length x.f6.f0 ∧ x.f6.f2.f1.length ≤ c9 ∧ Kd.F (Kd.int .i64) W ok A9 x.f6.f2.f1.length x.f6.f2.f1 ∧ x.f6.f3.length ≤ c13 ∧ Kd.F k167 W ok A13 x.f6.f3.length x.f6.f3 := by
  obtain ⟨A6, c6, A9, c9, A13, c13, rfl, l6, _, l9, _, l13, _⟩ := k136_open (Kd.FK_now h)
  exact ⟨A6, c6, A9, c9, A13, c13, rfl, l6, (fun W' hW => by obtain ⟨A6_, c6_, A9_, c9_, A13_, c13_, he, l6_, g6_, l9_, g9_, l13_, g13_⟩ := k136_open (h W' hW); injection (Option.some.inj (show some (Value.slice A6 x.f6.f0.length c6) = some (Value.slice A6_ x.f6.f0.length c6_) from congrArg (fun l => l[6]?) he)) with ha_ _ _; rw [ha_]; exact g6_), l9, (fun W' hW => by obtain ⟨A6_, c6_, A9_, c9_, A13_, c13_, he, l6_, g6_, l9_, g9_, l13_, g13_⟩ := k136_open (h W' hW); injection (Option.some.inj (show some (Value.slice A9 x.f6.f2.f1.length c9) = some (Value.slice A9_ x.f6.f2.f1.length c9_) from congrArg (fun l => l[9]?) he)) with ha_ _ _; rw [ha_]; exact g9_), l13, (fun W' hW => by obtain ⟨A6_, c6_, A9_, c9_, A13_, c13_, he, l6_, g6_, l9_, g9_, l13_, g13_⟩ := k136_open (h W' hW); injection (Option.some.inj (show some (Value.slice A13 x.f6.f3.length c13) = some (Value.slice A13_ x.f6.f3.length c13_) from congrArg (fun l => l[13]?) he)) with ha_ _ _; rw [ha_]; exact g13_)⟩
theorem k136_mkF (W : World) (ok : Nat → Prop) (x : S136) {A6 : Option Addr} {c6 : Nat} (l6 : x.f6.f0.length ≤ c6) (g6 : Kd.F k167 W ok A6 x.f6.f0.length x.f6.f0) {A9 : Option Addr} {c9 : Nat} (l9 : x.f6.f2.f1.length ≤ c9) (g9 : Kd.F (Kd.int .i64) W ok A9 x.f6.f2.f1.length x.f6.f2.f1) {A13 : Option Addr} {c13 : Nat} (l13 : x.f6.f3.length ≤ c13) (g13 : Kd.F k167 W ok A13 x.f6.f3.length x.f6.f3) : Kd.FK k136 W ok x [.int .i64 x.f0, .int .i64 x.f1, .int .i64 x.f2, .int .i64 x.f3, .int .i64 x.f4, .int .i64 x.f5, .slice A6 x.f6.f0.length c6, .bool x.f6.f1, .int .i64 x.f6.f2.f0, .slice A9 x.f6.f2.f1.length c9, .int .i64 x.f6.f2.f2, .int .i64 x.f6.f2.f3, .int .i64 x.f6.f2.f4, .slice A13 x.f6.f3.length c13] := fun W2 hW => k136_mk W2 x l6 (g6 W2 hW) l9 (g9 W2 hW) l13 (g13 W2 hW)
def rd_T136 (xs : List S136) (i : Int) : S136 := xs.getD i.toNat z136
theorem at_T136 {w : World} {A : Option Addr} {n : Nat} {xs : List S136} (h : Kd.C k136 w A n xs) (i : Int) (h0 : 0 ≤ i) (h1 : i < n) : ∃ ad A6 c6 A9 c9 A13 c13, A = some ad ∧ w.cell? (ad.add (i.toNat * 14)) = some (.int .i64 (rd_T136 xs i).f0) ∧ w.cell? ⟨(ad.add (i.toNat * 14)).block, (ad.add (i.toNat * 14)).off + 1, none⟩ = some (.int .i64 (rd_T136 xs i).f1) ∧ w.cell? ⟨(ad.add (i.toNat * 14)).block, (ad.add (i.toNat * 14)).off + 2, none⟩ = some (.int .i64 (rd_T136 xs i).f2) ∧ w.cell? ⟨(ad.add (i.toNat * 14)).block, (ad.add (i.toNat * 14)).off + 3, none⟩ = some (.int .i64 (rd_T136 xs i).f3) ∧ w.cell? ⟨(ad.add (i.toNat * 14)).block, (ad.add (i.toNat * 14)).off + 4, none⟩ = some (.int .i64 (rd_T136 xs i).f4) ∧ w.cell? ⟨(ad.add (i.toNat * 14)).block, (ad.add (i.toNat * 14)).off + 5, none⟩ = some (.int .i64 (rd_T136 xs i).f5) ∧ w.cell? ⟨(ad.add (i.toNat * 14)).block, (ad.add (i.toNat * 14)).off + 6, none⟩ = some (.slice A6 (rd_T136 xs i).f6.f0.length c6) ∧ w.cell? ⟨(ad.add (i.toNat * 14)).block, (ad.add (i.toNat * 14)).off + 7, none⟩ = some (.bool (rd_T136 xs i).f6.f1) ∧ w.cell? ⟨(ad.add (i.toNat * 14)).block, (ad.add (i.toNat * 14)).off + 8, none⟩ = some (.int .i64 (rd_T136 xs i).f6.f2.f0) ∧ w.cell? ⟨(ad.add (i.toNat * 14)).block, (ad.add (i.toNat * 14)).off + 9, none⟩ = some (.slice A9 (rd_T136 xs i).f6.f2.f1.length c9) ∧ w.cell? ⟨(ad.add (i.toNat * 14)).block, (ad.add (i.toNat * 14)).off + 10, none⟩ = some (.int .i64 (rd_T136 xs i).f6.f2.f2) ∧ w.cell? ⟨(ad.add (i.toNat * 14)).block, (ad.add (i.toNat * 14)).off + 11, none⟩ = some (.int .i64 (rd_T136 xs i).f6.f2.f3) ∧ w.cell? ⟨(ad.add (i.toNat * 14)).block, (ad.add (i.toNat * 14)).off + 12, none⟩ = some (.int .i64 (rd_T136 xs i).f6.f2.f4) ∧ w.cell? ⟨(ad.add (i.toNat * 14)).block, (ad.add (i.toNat * 14)).off + 13, none⟩ = some (.slice A13 (rd_T136 xs i).f6.f3.length c13) ∧ (rd_T136 xs i).f6.f0.length ≤ c6 ∧ k167.C w A6 (rd_T136 xs i).f6.f0.length (rd_T136 xs i).f6.f0 ∧ (rd_T136 xs i).f6.f2.f1.length ≤ c9 ∧ (Kd.int .i64).C w A9 (rd_T136 xs i).f6.f2.f1.length (rd_T136 xs i).f6.f2.f1 ∧ (rd_T136 xs i).f6.f3.length ≤ c13 ∧ k167.C w A13 (rd_T136 xs i).f6.f3.length (rd_T136 xs i).f6.f3 := by
  obtain ⟨ad, c, e, _, hK, hc0⟩ := Kd.C_get h z136 i h0 h1
  have hc : ∀ j u, c[j]? = some u → w.cell? (ad.add (i.toNat * 14 + j)) = some u := hc0
  obtain ⟨A6, c6, A9, c9, A13, c13, rfl, l6, g6, l9, g9, l13, g13⟩ := k136_open hK
  exact ⟨ad, A6, c6, A9, c9, A13, c13, e, hc 0 _ rfl, by rw [← add_field _ _ 1 (by omega)]; exact hc 1 _ rfl, by rw [← add_field _ _ 2 (by omega)]; exact hc 2 _ rfl, by rw [← add_field _ _ 3 (by omega)]; exact hc 3 _ rfl, by rw [← add_field _ _ 4 (by omega)]; exact hc 4 _ rfl, by rw [← add_field _ _ 5 (by omega)]; exact hc 5 _ rfl, by rw [← add_field _ _ 6 (by omega)]; exact hc 6 _ rfl, by rw [← add_field _ _ 7 (by omega)]; exact hc 7 _ rfl, by rw [← add_field _ _ 8 (by omega)]; exact hc 8 _ rfl, by rw [← add_field _ _ 9 (by omega)]; exact hc 9 _ rfl, by rw [← add_field _ _ 10 (by omega)]; exact hc 10 _ rfl, by rw [← add_field _ _ 11 (by omega)]; exact hc 11 _ rfl, by rw [← add_field _ _ 12 (by omega)]; exact hc 12 _ rfl, by rw [← add_field _ _ 13 (by omega)]; exact hc 13 _ rfl, l6, g6, l9, g9, l13, g13⟩
end Go.Proofs.Ythmkjapmnlhflaa.PFnExactTickSession
