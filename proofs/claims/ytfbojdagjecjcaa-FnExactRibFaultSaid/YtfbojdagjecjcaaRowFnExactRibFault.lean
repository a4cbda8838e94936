/- The law FnExactRibFault: for every input the call returns true, and every argument reads behind the call as it read before. No condition. -/
import Derived.Test.YtfbojdagjecjcaaRows
import Derived.Test.YtfbojdagjecjcaaXFnExactRibFaultx12
import Derived.Test.YtfbojdagjecjcaaPureFnExactRibFault
import Derived.Test.YtfbojdagjecjcaaOpen
import Derived.WalkKit
import Derived.ProofKit
import Derived.OpenShut
import Derived.ShutString
import Derived.ChangeOld
import Derived.Below
import Derived.SizedLaws
namespace Go.Proofs.Ytfbojdagjecjcaa.fnExactRibFaultR
open Go.ChangeShapes Go.WideShapes Go.ChangeAt Go.RowKit Go.Proofs.Ytfbojdagjecjcaa.Opn Go.Proofs.Ytfbojdagjecjcaa.PFnExactRibFault Go.Proofs.YtfbojdagjecjcaaW.PrintWords
open Go.ChangeMaps (open_string shut_string)
set_option linter.unusedVariables false
theorem own : ownKnob Try.prog.godebug = none := by kernel_rfl
theorem laidOut : laidOutB Try.prog = true := by kernel_rfl
theorem opens23 : Opens Try.prog 23 k23 (fun x : S23 => ((Lit.int .i64 x.f0).wf = true) ∧ ((Lit.int .i64 x.f1).wf = true)) :=
  (Opens.iso (β := S23) (Opens.struct Try.underlying23 (by kernel_rfl) (OpensF.cons rfl (Opens.int Try.underlying2 (by kernel_rfl)) (OpensF.one rfl (Opens.int Try.underlying2 (by kernel_rfl))))) (fun x : S23 => (x.f0, x.f1)) (fun p => ⟨p.1, p.2⟩) (fun _ => rfl)).imp (fun _ h => h)
theorem opens26 : Opens Try.prog 26 k26 (fun x : S26 => ((Lit.int .i64 x.f0).wf = true) ∧ ((x.f1.length ≤ maxLen ∧ ∀ z1 ∈ x.f1, (Lit.int .i64 z1).wf = true)) ∧ ((Lit.int .i64 x.f2).wf = true) ∧ ((Lit.int .i64 x.f3).wf = true) ∧ ((Lit.int .i64 x.f4).wf = true)) :=
  (Opens.iso (β := S26) (Opens.struct Try.underlying26 (by kernel_rfl) (OpensF.cons rfl (Opens.int Try.underlying2 (by kernel_rfl)) (OpensF.cons rfl (Opens.slice Try.underlying24 (by kernel_rfl) (Opens.int Try.underlying2 (by kernel_rfl))) (OpensF.cons rfl (Opens.int Try.underlying2 (by kernel_rfl)) (OpensF.cons rfl (Opens.int Try.underlying2 (by kernel_rfl)) (OpensF.one rfl (Opens.int Try.underlying2 (by kernel_rfl)))))))) (fun x : S26 => (x.f0, x.f1, x.f2, x.f3, x.f4)) (fun p => ⟨p.1, p.2.1, p.2.2.1, p.2.2.2.1, p.2.2.2.2⟩) (fun _ => rfl)).imp (fun _ h => h)
theorem opens28 : Opens Try.prog 28 k28 (fun x : S28 => ((Lit.int .i64 x.f0).wf = true) ∧ (((Lit.int .i64 x.f1.f0).wf = true) ∧ ((Lit.int .i64 x.f1.f1).wf = true)) ∧ (((Lit.int .i64 x.f2.f0).wf = true) ∧ ((x.f2.f1.length ≤ maxLen ∧ ∀ z2 ∈ x.f2.f1, (Lit.int .i64 z2).wf = true)) ∧ ((Lit.int .i64 x.f2.f2).wf = true) ∧ ((Lit.int .i64 x.f2.f3).wf = true) ∧ ((Lit.int .i64 x.f2.f4).wf = true))) :=
  (Opens.iso (β := S28) (Opens.struct Try.underlying28 (by kernel_rfl) (OpensF.cons rfl (Opens.int Try.underlying2 (by kernel_rfl)) (OpensF.cons rfl opens23 (OpensF.one rfl opens26)))) (fun x : S28 => (x.f0, x.f1, x.f2)) (fun p => ⟨p.1, p.2.1, p.2.2⟩) (fun _ => rfl)).imp (fun _ h => h)
set_option maxRecDepth 100000 in
theorem lifted (os : Os) (started : os.Started) (H : Type) (enc : TypeId × Value → H) :
    ReturnsInHanded {} Try.checked os 14 .any (Rows.fnExactRibFaultSpec.pre6 enc Try.prog Try.f14 Rows.fnExactRibFaultRow.domain false) (Rows.fnExactRibFaultSpec.post enc Try.prog Try.f14 false true false false) := by
  refine returnsInHanded_of_change_sized (C := Try.checked) own started (by kernel_rfl) Try.func14
    (ChangeSpec.witness6 (enc := enc) (C := Try.checked) false ⟨#[], #[.slice none 0 0], []⟩ 8 (by kernel_rfl) (by kernel_rfl) (by kernel_rfl) (by kernel_rfl)) ?_
  intro W base args ds gs before hval0 hW hcnd hsz0 _
  have hval : ∀ (j : Nat) t v, Try.f14.params[j]? = some t → args[j]? = some v → Value.okWide Try.prog W .any base t v := hval0
  have hW' := hW
  obtain ⟨p, q, hA0, hV, rfl, hfz, hnd⟩ := hW
  have hA : DataW.TrodAll enc Try.prog W 0 (fun _ => true) true Try.f14.params.toList args.toList ds p := hA0
  rw [Try.params14] at hA hval
  obtain ⟨v0, vs0, d0, ds0, p0, q0, hargs, rfl, rfl, h0, r0⟩ := trodAll_cons hA
  obtain ⟨rfl, rfl, rfl⟩ := trodAll_nil r0
  obtain rfl : args = #[v0] := by cases args; simp_all
  obtain ⟨rfl, rfl⟩ := trodVars_none hV
  have k0 := h0
  have lt0 : ∀ x ∈ p0, x.block < W.heap.size := by obtain ⟨m, hm⟩ := k0; exact DataW.trod_lt m _ _ _ hm
  obtain ⟨A0, c0, l0, rfl, hl0, hC0, hw0⟩ := (Opens.slice Try.underlying126 (by kernel_rfl) opens28).argS Try.underlying126 (hval 0 126 v0 rfl rfl) h0
  clear hA0 hval0 hsz0
  obtain ⟨k, hp⟩ := Pure.FnExactRibFault l0 hw0
  refine Calls.mono (laws_FnExactRibFault.calls k A0 c0 l0 W hC0 hl0 hp) fun e W' he2 => ?_
  obtain ⟨he, bel0⟩ := he2
  have bel : Below W.heap.size W W' := bel0
  subst he
  exact ⟨_, rfl, _, _, _, [], _, [], hW', trodAll_mk1 (shut_bool Try.underlying4 _), (trodAll_cons_mk (Below.trod laidOut (by kernel_rfl) (of_decide_eq_true (by kernel_rfl)) k0 bel lt0) trodAll_mk0), rfl, bel.frame _, fun h => by cases h⟩
theorem over : Rows.fnExactRibFaultRow.holds Try.pinned (OpenSpec.ofChange Rows.fnExactRibFaultSpec) :=
  OpenClaim.holds_of_wide 14 Try.f14 rfl rfl rfl rfl rfl rfl rfl ⟨rfl, rfl, rfl, rfl, rfl⟩ rfl rfl rfl rfl rfl (by kernel_rfl) Try.func14 (by kernel_rfl)
    (of_decide_eq_true (by kernel_rfl)) (by unfold Func.isWrapper; first | (rw [if_pos (by decide +kernel)]; kernel_rfl) | (rw [if_neg (by decide +kernel)]; exact ⟨rfl, rfl⟩))
    (fun os started H enc _ => lifted os started H enc)
theorem proved : Rows.FnExactRibFaultSaid := over
#print axioms proved
end Go.Proofs.Ytfbojdagjecjcaa.fnExactRibFaultR
namespace Go.Proofs.Ytfbojdagjecjcaa
/-- The row, under a short name, for the claim. -/
theorem fnExactRibFault_holds : Rows.FnExactRibFaultSaid := fnExactRibFaultR.proved
end Go.Proofs.Ytfbojdagjecjcaa
