/- The law FnExactSameTold: for every input the call returns true, and every argument reads behind the call as it read before. No condition. -/
import Derived.Test.YtfbojdagjecjcaaRows
import Derived.Test.YtfbojdagjecjcaaXFnExactSameToldx9
import Derived.Test.YtfbojdagjecjcaaPureFnExactSameTold
import Derived.Test.YtfbojdagjecjcaaOpen
import Derived.WalkKit
import Derived.ProofKit
import Derived.OpenShut
import Derived.ShutString
import Derived.ChangeOld
import Derived.Below
import Derived.SizedLaws
namespace Go.Proofs.Ytfbojdagjecjcaa.fnExactSameToldR
open Go.ChangeShapes Go.WideShapes Go.ChangeAt Go.RowKit Go.Proofs.Ytfbojdagjecjcaa.Opn Go.Proofs.Ytfbojdagjecjcaa.PFnExactSameTold Go.Proofs.YtfbojdagjecjcaaW.PrintWords
open Go.ChangeMaps (open_string shut_string)
set_option linter.unusedVariables false
theorem own : ownKnob Try.prog.godebug = none := by kernel_rfl
theorem laidOut : laidOutB Try.prog = true := by kernel_rfl
theorem opens23 : Opens Try.prog 23 k23 (fun x : S23 => ((Lit.int .i64 x.f0).wf = true) ∧ ((Lit.int .i64 x.f1).wf = true)) :=
  (Opens.iso (β := S23) (Opens.struct Try.underlying23 (by kernel_rfl) (OpensF.cons rfl (Opens.int Try.underlying2 (by kernel_rfl)) (OpensF.one rfl (Opens.int Try.underlying2 (by kernel_rfl))))) (fun x : S23 => (x.f0, x.f1)) (fun p => ⟨p.1, p.2⟩) (fun _ => rfl)).imp (fun _ h => h)
theorem opens26 : Opens Try.prog 26 k26 (fun x : S26 => ((Lit.int .i64 x.f0).wf = true) ∧ ((x.f1.length ≤ maxLen ∧ ∀ z1 ∈ x.f1, (Lit.int .i64 z1).wf = true)) ∧ ((Lit.int .i64 x.f2).wf = true) ∧ ((Lit.int .i64 x.f3).wf = true) ∧ ((Lit.int .i64 x.f4).wf = true)) :=
  (Opens.iso (β := S26) (Opens.struct Try.underlying26 (by kernel_rfl) (OpensF.cons rfl (Opens.int Try.underlying2 (by kernel_rfl)) (OpensF.cons rfl (Opens.slice Try.underlying24 (by kernel_rfl) (Opens.int Try.underlying2 (by kernel_rfl))) (OpensF.cons rfl (Opens.int Try.underlying2 (by kernel_rfl)) (OpensF.cons rfl (Opens.int Try.underlying2 (by kernel_rfl)) (OpensF.one rfl (Opens.int Try.underlying2 (by kernel_rfl)))))))) (fun x : S26 => (x.f0, x.f1, x.f2, x.f3, x.f4)) (fun p => ⟨p.1, p.2.1, p.2.2.1, p.2.2.2.1, p.2.2.2.2⟩) (fun _ => rfl)).imp (fun _ h => h)
theorem opens136 : Opens Try.prog 136 k136 (fun x : S136 => (((Lit.int .i64 x.f0.f0).wf = true) ∧ ((Lit.int .i64 x.f0.f1).wf = true)) ∧ (((Lit.int .i64 x.f1.f0).wf = true) ∧ ((x.f1.f1.length ≤ maxLen ∧ ∀ z2 ∈ x.f1.f1, (Lit.int .i64 z2).wf = true)) ∧ ((Lit.int .i64 x.f1.f2).wf = true) ∧ ((Lit.int .i64 x.f1.f3).wf = true) ∧ ((Lit.int .i64 x.f1.f4).wf = true))) :=
  (Opens.iso (β := S136) (Opens.struct Try.underlying136 (by kernel_rfl) (OpensF.cons rfl opens23 (OpensF.one rfl opens26))) (fun x : S136 => (x.f0, x.f1)) (fun p => ⟨p.1, p.2⟩) (fun _ => rfl)).imp (fun _ h => h)
set_option maxRecDepth 100000 in
theorem lifted (os : Os) (started : os.Started) (H : Type) (enc : TypeId × Value → H) :
    ReturnsInHanded {} Try.checked os 4 .any (Rows.fnExactSameToldSpec.pre6 enc Try.prog Try.f4 Rows.fnExactSameToldRow.domain false) (Rows.fnExactSameToldSpec.post enc Try.prog Try.f4 false true false false) := by
  refine returnsInHanded_of_change_sized (C := Try.checked) own started (by kernel_rfl) Try.func4
    (ChangeSpec.witness6 (enc := enc) (C := Try.checked) false ⟨#[], #[.slice none 0 0, .slice none 0 0], []⟩ 8 (by kernel_rfl) (by kernel_rfl) (by kernel_rfl) (by kernel_rfl)) ?_
  intro W base args ds gs before hval0 hW hcnd hsz0 _
  have hval : ∀ (j : Nat) t v, Try.f4.params[j]? = some t → args[j]? = some v → Value.okWide Try.prog W .any base t v := hval0
  have hW' := hW
  obtain ⟨p, q, hA0, hV, rfl, hfz, hnd⟩ := hW
  have hA : DataW.TrodAll enc Try.prog W 0 (fun _ => true) true Try.f4.params.toList args.toList ds p := hA0
  rw [Try.params4] at hA hval
  obtain ⟨v0, vs0, d0, ds0, p0, q0, hargs, rfl, rfl, h0, r0⟩ := trodAll_cons hA
  obtain ⟨v1, vs1, d1, ds1, p1, q1, rfl, rfl, rfl, h1, r1⟩ := trodAll_cons r0
  obtain ⟨rfl, rfl, rfl⟩ := trodAll_nil r1
  obtain rfl : args = #[v0, v1] := by cases args; simp_all
  obtain ⟨rfl, rfl⟩ := trodVars_none hV
  have k0 := h0
  have lt0 : ∀ x ∈ p0, x.block < W.heap.size := by obtain ⟨m, hm⟩ := k0; exact DataW.trod_lt m _ _ _ hm
  obtain ⟨A0, c0, l0, rfl, hl0, hC0, hw0⟩ := (Opens.slice Try.underlying37 (by kernel_rfl) opens136).argS Try.underlying37 (hval 0 37 v0 rfl rfl) h0
  have k1 := h1
  have lt1 : ∀ x ∈ p1, x.block < W.heap.size := by obtain ⟨m, hm⟩ := k1; exact DataW.trod_lt m _ _ _ hm
  obtain ⟨A1, c1, l1, rfl, hl1, hC1, hw1⟩ := (Opens.slice Try.underlying37 (by kernel_rfl) opens136).argS Try.underlying37 (hval 1 37 v1 rfl rfl) h1
  clear hA0 hval0 hsz0
  obtain ⟨k, hp⟩ := Pure.FnExactSameTold l0 l1 hw0 hw1
  refine Calls.mono (laws_FnExactSameTold.calls k A0 c0 l0 A1 c1 l1 W hC0 hl0 hC1 hl1 hp) fun e W' he2 => ?_
  obtain ⟨he, bel0⟩ := he2
  have bel : Below W.heap.size W W' := bel0
  subst he
  exact ⟨_, rfl, _, _, _, [], _, [], hW', trodAll_mk1 (shut_bool Try.underlying4 _), (trodAll_cons_mk (Below.trod laidOut (by kernel_rfl) (of_decide_eq_true (by kernel_rfl)) k0 bel lt0) (trodAll_cons_mk (Below.trod laidOut (by kernel_rfl) (of_decide_eq_true (by kernel_rfl)) k1 bel lt1) trodAll_mk0)), rfl, bel.frame _, fun h => by cases h⟩
theorem over : Rows.fnExactSameToldRow.holds Try.pinned (OpenSpec.ofChange Rows.fnExactSameToldSpec) :=
  OpenClaim.holds_of_wide 4 Try.f4 rfl rfl rfl rfl rfl rfl rfl ⟨rfl, rfl, rfl, rfl, rfl⟩ rfl rfl rfl rfl rfl (by kernel_rfl) Try.func4 (by kernel_rfl)
    (of_decide_eq_true (by kernel_rfl)) (by unfold Func.isWrapper; first | (rw [if_pos (by decide +kernel)]; kernel_rfl) | (rw [if_neg (by decide +kernel)]; exact ⟨rfl, rfl⟩))
    (fun os started H enc _ => lifted os started H enc)
theorem proved : Rows.FnExactSameToldSaid := over
#print axioms proved
end Go.Proofs.Ytfbojdagjecjcaa.fnExactSameToldR
namespace Go.Proofs.Ytfbojdagjecjcaa
/-- The row, under a short name, for the claim. -/
theorem fnExactSameTold_holds : Rows.FnExactSameToldSaid := fnExactSameToldR.proved
end Go.Proofs.Ytfbojdagjecjcaa
