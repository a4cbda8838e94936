/- The law FnExactBetterRoute: for every input the call returns true, and every argument reads behind the call as it read before. No condition. -/
import Derived.Test.YtfbojdagjecjcaaRows
import Derived.Test.YtfbojdagjecjcaaXFnExactBetterRoutex5
import Derived.Test.YtfbojdagjecjcaaPureFnExactBetterRoute
import Derived.Test.YtfbojdagjecjcaaOpen
import Derived.WalkKit
import Derived.ProofKit
import Derived.OpenShut
import Derived.ShutString
import Derived.ChangeOld
import Derived.Below
import Derived.SizedLaws
namespace Go.Proofs.Ytfbojdagjecjcaa.fnExactBetterRouteR
open Go.ChangeShapes Go.WideShapes Go.ChangeAt Go.RowKit Go.Proofs.Ytfbojdagjecjcaa.Opn Go.Proofs.Ytfbojdagjecjcaa.PFnExactBetterRoute Go.Proofs.YtfbojdagjecjcaaW.PrintWords
open Go.ChangeMaps (open_string shut_string)
set_option linter.unusedVariables false
theorem own : ownKnob Try.prog.godebug = none := by kernel_rfl
theorem laidOut : laidOutB Try.prog = true := by kernel_rfl
set_option maxRecDepth 100000 in
theorem lifted (os : Os) (started : os.Started) (H : Type) (enc : TypeId × Value → H) :
    ReturnsInHanded {} Try.checked os 3 .any (Rows.fnExactBetterRouteSpec.pre6 enc Try.prog Try.f3 Rows.fnExactBetterRouteRow.domain false) (Rows.fnExactBetterRouteSpec.post enc Try.prog Try.f3 false true false false) := by
  refine returnsInHanded_of_change_sized (C := Try.checked) own started (by kernel_rfl) Try.func3
    (ChangeSpec.witness6 (enc := enc) (C := Try.checked) false ⟨#[], #[.agg #[.int .i64 0, .int .i64 0, .int .i64 0, .int .i64 0, .slice none 0 0, .int .i64 0, .int .i64 0, .int .i64 0], .agg #[.int .i64 0, .int .i64 0, .int .i64 0, .int .i64 0, .slice none 0 0, .int .i64 0, .int .i64 0, .int .i64 0]], []⟩ 8 (by kernel_rfl) (by kernel_rfl) (by kernel_rfl) (by kernel_rfl)) ?_
  intro W base args ds gs before hval0 hW hcnd hsz0 _
  have hval : ∀ (j : Nat) t v, Try.f3.params[j]? = some t → args[j]? = some v → Value.okWide Try.prog W .any base t v := hval0
  have hW' := hW
  obtain ⟨p, q, hA0, hV, rfl, hfz, hnd⟩ := hW
  have hA : DataW.TrodAll enc Try.prog W 0 (fun _ => true) true Try.f3.params.toList args.toList ds p := hA0
  rw [Try.params3] at hA hval
  obtain ⟨v0, vs0, d0, ds0, p0, q0, hargs, rfl, rfl, h0, r0⟩ := trodAll_cons hA
  obtain ⟨v1, vs1, d1, ds1, p1, q1, rfl, rfl, rfl, h1, r1⟩ := trodAll_cons r0
  obtain ⟨rfl, rfl, rfl⟩ := trodAll_nil r1
  obtain rfl : args = #[v0, v1] := by cases args; simp_all
  obtain ⟨rfl, rfl⟩ := trodVars_none hV
  have k0 := h0
  have lt0 : ∀ x ∈ p0, x.block < W.heap.size := by obtain ⟨m, hm⟩ := k0; exact DataW.trod_lt m _ _ _ hm
  obtain ⟨y0, cs0, rfl, hK0, hw0⟩ := (Opens.struct Try.underlying28 (by kernel_rfl) (OpensF.cons rfl (Opens.int Try.underlying2 (by kernel_rfl)) (OpensF.cons rfl (Opens.struct Try.underlying23 (by kernel_rfl) (OpensF.cons rfl (Opens.int Try.underlying2 (by kernel_rfl)) (OpensF.one rfl (Opens.int Try.underlying2 (by kernel_rfl))))) (OpensF.one rfl (Opens.struct Try.underlying26 (by kernel_rfl) (OpensF.cons rfl (Opens.int Try.underlying2 (by kernel_rfl)) (OpensF.cons rfl (Opens.slice Try.underlying24 (by kernel_rfl) (Opens.int Try.underlying2 (by kernel_rfl))) (OpensF.cons rfl (Opens.int Try.underlying2 (by kernel_rfl)) (OpensF.cons rfl (Opens.int Try.underlying2 (by kernel_rfl)) (OpensF.one rfl (Opens.int Try.underlying2 (by kernel_rfl)))))))))))).arg Try.underlying28 (hval 0 28 v0 rfl rfl) h0
  obtain ⟨_, _, rfl, rfl, ⟨_, _, rfl, ⟨_, _, rfl, rfl, rfl⟩, ⟨_, _, rfl, rfl, ⟨_, _, rfl, ⟨A0_4, c0_4, rfl, hl0_4, hC0_4⟩, ⟨_, _, rfl, rfl, ⟨_, _, rfl, rfl, rfl⟩⟩⟩⟩⟩⟩ := hK0
  have k1 := h1
  have lt1 : ∀ x ∈ p1, x.block < W.heap.size := by obtain ⟨m, hm⟩ := k1; exact DataW.trod_lt m _ _ _ hm
  obtain ⟨y1, cs1, rfl, hK1, hw1⟩ := (Opens.struct Try.underlying28 (by kernel_rfl) (OpensF.cons rfl (Opens.int Try.underlying2 (by kernel_rfl)) (OpensF.cons rfl (Opens.struct Try.underlying23 (by kernel_rfl) (OpensF.cons rfl (Opens.int Try.underlying2 (by kernel_rfl)) (OpensF.one rfl (Opens.int Try.underlying2 (by kernel_rfl))))) (OpensF.one rfl (Opens.struct Try.underlying26 (by kernel_rfl) (OpensF.cons rfl (Opens.int Try.underlying2 (by kernel_rfl)) (OpensF.cons rfl (Opens.slice Try.underlying24 (by kernel_rfl) (Opens.int Try.underlying2 (by kernel_rfl))) (OpensF.cons rfl (Opens.int Try.underlying2 (by kernel_rfl)) (OpensF.cons rfl (Opens.int Try.underlying2 (by kernel_rfl)) (OpensF.one rfl (Opens.int Try.underlying2 (by kernel_rfl)))))))))))).arg Try.underlying28 (hval 1 28 v1 rfl rfl) h1
  obtain ⟨_, _, rfl, rfl, ⟨_, _, rfl, ⟨_, _, rfl, rfl, rfl⟩, ⟨_, _, rfl, rfl, ⟨_, _, rfl, ⟨A1_4, c1_4, rfl, hl1_4, hC1_4⟩, ⟨_, _, rfl, rfl, ⟨_, _, rfl, rfl, rfl⟩⟩⟩⟩⟩⟩ := hK1
  clear hA0 hval0 hsz0
  obtain ⟨k, hp⟩ := Pure.FnExactBetterRoute y0.1 y0.2.1.1 y0.2.1.2 y0.2.2.1 y0.2.2.2.1 y0.2.2.2.2.1 y0.2.2.2.2.2.1 y0.2.2.2.2.2.2 y1.1 y1.2.1.1 y1.2.1.2 y1.2.2.1 y1.2.2.2.1 y1.2.2.2.2.1 y1.2.2.2.2.2.1 y1.2.2.2.2.2.2 hw0.1 hw0.2.1.1 hw0.2.1.2 hw0.2.2.1 hw0.2.2.2.1 hw0.2.2.2.2.1 hw0.2.2.2.2.2.1 hw0.2.2.2.2.2.2 hw1.1 hw1.2.1.1 hw1.2.1.2 hw1.2.2.1 hw1.2.2.2.1 hw1.2.2.2.2.1 hw1.2.2.2.2.2.1 hw1.2.2.2.2.2.2
  refine Calls.mono (laws_FnExactBetterRoute.calls k y0.1 y0.2.1.1 y0.2.1.2 y0.2.2.1 A0_4 c0_4 y0.2.2.2.1 y0.2.2.2.2.1 y0.2.2.2.2.2.1 y0.2.2.2.2.2.2 y1.1 y1.2.1.1 y1.2.1.2 y1.2.2.1 A1_4 c1_4 y1.2.2.2.1 y1.2.2.2.2.1 y1.2.2.2.2.2.1 y1.2.2.2.2.2.2 W hC0_4 hl0_4 hC1_4 hl1_4 hp) fun e W' he2 => ?_
  obtain ⟨he, bel0⟩ := he2
  have bel : Below W.heap.size W W' := bel0
  subst he
  exact ⟨_, rfl, _, _, _, [], _, [], hW', trodAll_mk1 (shut_bool Try.underlying4 _), (trodAll_cons_mk (Below.trod laidOut (by kernel_rfl) (of_decide_eq_true (by kernel_rfl)) k0 bel lt0) (trodAll_cons_mk (Below.trod laidOut (by kernel_rfl) (of_decide_eq_true (by kernel_rfl)) k1 bel lt1) trodAll_mk0)), rfl, bel.frame _, fun h => by cases h⟩
theorem over : Rows.fnExactBetterRouteRow.holds Try.pinned (OpenSpec.ofChange Rows.fnExactBetterRouteSpec) :=
  OpenClaim.holds_of_wide 3 Try.f3 rfl rfl rfl rfl rfl rfl rfl ⟨rfl, rfl, rfl, rfl, rfl⟩ rfl rfl rfl rfl rfl (by kernel_rfl) Try.func3 (by kernel_rfl)
    (of_decide_eq_true (by kernel_rfl)) (by unfold Func.isWrapper; first | (rw [if_pos (by decide +kernel)]; kernel_rfl) | (rw [if_neg (by decide +kernel)]; exact ⟨rfl, rfl⟩))
    (fun os started H enc _ => lifted os started H enc)
theorem proved : Rows.FnExactBetterRouteSaid := over
#print axioms proved
end Go.Proofs.Ytfbojdagjecjcaa.fnExactBetterRouteR
namespace Go.Proofs.Ytfbojdagjecjcaa
/-- The row, under a short name, for the claim. -/
theorem fnExactBetterRoute_holds : Rows.FnExactBetterRouteSaid := fnExactBetterRouteR.proved
end Go.Proofs.Ytfbojdagjecjcaa
