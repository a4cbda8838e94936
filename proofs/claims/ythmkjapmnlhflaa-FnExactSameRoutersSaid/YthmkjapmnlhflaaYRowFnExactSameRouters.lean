/- The law FnExactSameRouters: for every input the call returns true, and every argument reads behind the call as it read before. No condition. -/
import Derived.Test.YthmkjapmnlhflaaSFnExactSameRoutersza
import Derived.Test.YthmkjapmnlhflaaRows
import Derived.Test.YthmkjapmnlhflaaYFnExactSameRoutersx21
import Derived.Test.YthmkjapmnlhflaaYPureFnExactSameRouters
import Derived.WalkKit
import Derived.ProofKit
import Derived.OpenShut
import Derived.ShutString
import Derived.ChangeOld
import Derived.Below
import Derived.SizedLaws
namespace Go.Proofs.Ythmkjapmnlhflaa.fnExactSameRoutersR
open Go.ChangeShapes Go.WideShapes Go.ChangeAt Go.RowKit Go.Proofs.Ythmkjapmnlhflaa.Opn Go.Proofs.Ythmkjapmnlhflaa.PFnExactSameRouters Go.Proofs.YthmkjapmnlhflaaW.PrintWords
open Go.ChangeMaps (open_string shut_string)
set_option linter.unusedVariables false
theorem own : ownKnob Try.prog.godebug = none := by kernel_rfl
theorem laidOut : laidOutB Try.prog = true := by kernel_rfl
theorem opens180 : Opens Try.prog 180 k180 (fun x : S180 => ((Lit.int .i64 x.f0).wf = true) ∧ ((Lit.int .i64 x.f1).wf = true)) :=
  (Opens.iso (β := S180) (Opens.struct Try.underlying180 (by kernel_rfl) (OpensF.cons rfl (Opens.int Try.underlying2 (by kernel_rfl)) (OpensF.one rfl (Opens.int Try.underlying2 (by kernel_rfl))))) (fun x : S180 => (x.f0, x.f1)) (fun p => ⟨p.1, p.2⟩) (fun _ => rfl)).imp (fun _ h => h)
theorem opens233 : Opens Try.prog 233 k233 (fun x : S233 => (((Lit.int .i64 x.f0.f0).wf = true) ∧ ((Lit.int .i64 x.f0.f1).wf = true)) ∧ ((Lit.int .i64 x.f1).wf = true) ∧ ((Lit.int .i64 x.f2).wf = true) ∧ ((Lit.int .i64 x.f3).wf = true) ∧ (True) ∧ ((Lit.int .i64 x.f5).wf = true) ∧ ((Lit.int .i64 x.f6).wf = true)) :=
  (Opens.iso (β := S233) (Opens.struct Try.underlying233 (by kernel_rfl) (OpensF.cons rfl opens180 (OpensF.cons rfl (Opens.int Try.underlying2 (by kernel_rfl)) (OpensF.cons rfl (Opens.int Try.underlying2 (by kernel_rfl)) (OpensF.cons rfl (Opens.int Try.underlying2 (by kernel_rfl)) (OpensF.cons rfl (Opens.bool Try.underlying4 (by kernel_rfl)) (OpensF.cons rfl (Opens.int Try.underlying2 (by kernel_rfl)) (OpensF.one rfl (Opens.int Try.underlying2 (by kernel_rfl)))))))))) (fun x : S233 => (x.f0, x.f1, x.f2, x.f3, x.f4, x.f5, x.f6)) (fun p => ⟨p.1, p.2.1, p.2.2.1, p.2.2.2.1, p.2.2.2.2.1, p.2.2.2.2.2.1, p.2.2.2.2.2.2⟩) (fun _ => rfl)).imp (fun _ h => h)
theorem opens41 : Opens Try.prog 41 k41 (fun x : S41 => ((Lit.int .i64 x.f0).wf = true) ∧ ((Lit.int .i64 x.f1).wf = true) ∧ ((Lit.int .i64 x.f2).wf = true) ∧ ((Lit.int .i64 x.f3).wf = true) ∧ ((Lit.int .i64 x.f4).wf = true)) :=
  (Opens.iso (β := S41) (Opens.struct Try.underlying41 (by kernel_rfl) (OpensF.cons rfl (Opens.int Try.underlying2 (by kernel_rfl)) (OpensF.cons rfl (Opens.int Try.underlying2 (by kernel_rfl)) (OpensF.cons rfl (Opens.int Try.underlying2 (by kernel_rfl)) (OpensF.cons rfl (Opens.int Try.underlying2 (by kernel_rfl)) (OpensF.one rfl (Opens.int Try.underlying2 (by kernel_rfl)))))))) (fun x : S41 => (x.f0, x.f1, x.f2, x.f3, x.f4)) (fun p => ⟨p.1, p.2.1, p.2.2.1, p.2.2.2.1, p.2.2.2.2⟩) (fun _ => rfl)).imp (fun _ h => h)
theorem opens208 : Opens Try.prog 208 k208 (fun x : S208 => ((Lit.int .i64 x.f0).wf = true) ∧ ((x.f1.length ≤ maxLen ∧ ∀ z1 ∈ x.f1, (Lit.int .i64 z1).wf = true)) ∧ ((Lit.int .i64 x.f2).wf = true) ∧ ((Lit.int .i64 x.f3).wf = true) ∧ ((Lit.int .i64 x.f4).wf = true)) :=
  (Opens.iso (β := S208) (Opens.struct Try.underlying208 (by kernel_rfl) (OpensF.cons rfl (Opens.int Try.underlying2 (by kernel_rfl)) (OpensF.cons rfl (Opens.slice Try.underlying130 (by kernel_rfl) (Opens.int Try.underlying2 (by kernel_rfl))) (OpensF.cons rfl (Opens.int Try.underlying2 (by kernel_rfl)) (OpensF.cons rfl (Opens.int Try.underlying2 (by kernel_rfl)) (OpensF.one rfl (Opens.int Try.underlying2 (by kernel_rfl)))))))) (fun x : S208 => (x.f0, x.f1, x.f2, x.f3, x.f4)) (fun p => ⟨p.1, p.2.1, p.2.2.1, p.2.2.2.1, p.2.2.2.2⟩) (fun _ => rfl)).imp (fun _ h => h)
theorem opens248 : Opens Try.prog 248 k248 (fun x : S248 => (((Lit.int .i64 x.f0.f0).wf = true) ∧ ((Lit.int .i64 x.f0.f1).wf = true)) ∧ (((Lit.int .i64 x.f1.f0).wf = true) ∧ ((x.f1.f1.length ≤ maxLen ∧ ∀ z2 ∈ x.f1.f1, (Lit.int .i64 z2).wf = true)) ∧ ((Lit.int .i64 x.f1.f2).wf = true) ∧ ((Lit.int .i64 x.f1.f3).wf = true) ∧ ((Lit.int .i64 x.f1.f4).wf = true))) :=
  (Opens.iso (β := S248) (Opens.struct Try.underlying248 (by kernel_rfl) (OpensF.cons rfl opens180 (OpensF.one rfl opens208))) (fun x : S248 => (x.f0, x.f1)) (fun p => ⟨p.1, p.2⟩) (fun _ => rfl)).imp (fun _ h => h)
theorem opens206 : Opens Try.prog 206 k206 (fun x : S206 => (((Lit.int .i64 x.f0.f0).wf = true) ∧ ((Lit.int .i64 x.f0.f1).wf = true) ∧ ((Lit.int .i64 x.f0.f2).wf = true) ∧ ((Lit.int .i64 x.f0.f3).wf = true) ∧ ((Lit.int .i64 x.f0.f4).wf = true)) ∧ ((x.f1.length ≤ maxLen ∧ ∀ z3 ∈ x.f1, (Lit.int .u8 z3).wf = true)) ∧ ((x.f2.length ≤ maxLen ∧ ∀ z4 ∈ x.f2, (((Lit.int .i64 z4.f0.f0).wf = true) ∧ ((Lit.int .i64 z4.f0.f1).wf = true)) ∧ (((Lit.int .i64 z4.f1.f0).wf = true) ∧ ((z4.f1.f1.length ≤ maxLen ∧ ∀ z5 ∈ z4.f1.f1, (Lit.int .i64 z5).wf = true)) ∧ ((Lit.int .i64 z4.f1.f2).wf = true) ∧ ((Lit.int .i64 z4.f1.f3).wf = true) ∧ ((Lit.int .i64 z4.f1.f4).wf = true))))) :=
  (Opens.iso (β := S206) (Opens.struct Try.underlying206 (by kernel_rfl) (OpensF.cons rfl opens41 (OpensF.cons rfl (Opens.slice Try.underlying22 (by kernel_rfl) (Opens.int Try.underlying5 (by kernel_rfl))) (OpensF.one rfl (Opens.slice Try.underlying204 (by kernel_rfl) opens248))))) (fun x : S206 => (x.f0, x.f1, x.f2)) (fun p => ⟨p.1, p.2.1, p.2.2⟩) (fun _ => rfl)).imp (fun _ h => h)
theorem opens210 : Opens Try.prog 210 k210 (fun x : S210 => ((Lit.int .i64 x.f0).wf = true) ∧ (((Lit.int .i64 x.f1.f0).wf = true) ∧ ((Lit.int .i64 x.f1.f1).wf = true)) ∧ (((Lit.int .i64 x.f2.f0).wf = true) ∧ ((x.f2.f1.length ≤ maxLen ∧ ∀ z6 ∈ x.f2.f1, (Lit.int .i64 z6).wf = true)) ∧ ((Lit.int .i64 x.f2.f2).wf = true) ∧ ((Lit.int .i64 x.f2.f3).wf = true) ∧ ((Lit.int .i64 x.f2.f4).wf = true))) :=
  (Opens.iso (β := S210) (Opens.struct Try.underlying210 (by kernel_rfl) (OpensF.cons rfl (Opens.int Try.underlying2 (by kernel_rfl)) (OpensF.cons rfl opens180 (OpensF.one rfl opens208)))) (fun x : S210 => (x.f0, x.f1, x.f2)) (fun p => ⟨p.1, p.2.1, p.2.2⟩) (fun _ => rfl)).imp (fun _ h => h)
set_option maxRecDepth 100000 in
theorem lifted (os : Os) (started : os.Started) (H : Type) (enc : TypeId × Value → H) :
    ReturnsInHanded {} Try.checked os 13 .any (Rows.fnExactSameRoutersSpec.pre6 enc Try.prog Try.f13 Rows.fnExactSameRoutersRow.domain false) (Rows.fnExactSameRoutersSpec.post enc Try.prog Try.f13 false true false false) := by
  refine returnsInHanded_of_change_sized (C := Try.checked) own started (by kernel_rfl) Try.func13
    (ChangeSpec.witness6 (enc := enc) (C := Try.checked) false ⟨#[], #[.agg #[.int .i64 0, .int .i64 0, .int .i64 0, .int .i64 0, .slice none 0 0, .slice none 0 0, .slice none 0 0, .slice none 0 0], .agg #[.int .i64 0, .int .i64 0, .int .i64 0, .int .i64 0, .slice none 0 0, .slice none 0 0, .slice none 0 0, .slice none 0 0]], []⟩ 8 (by kernel_rfl) (by kernel_rfl) (by kernel_rfl) (by kernel_rfl)) ?_
  intro W base args ds gs before hval0 hW hcnd hsz0 _
  have hval : ∀ (j : Nat) t v, Try.f13.params[j]? = some t → args[j]? = some v → Value.okWide Try.prog W .any base t v := hval0
  have hW' := hW
  obtain ⟨p, q, hA0, hV, rfl, hfz, hnd⟩ := hW
  have hA : DataW.TrodAll enc Try.prog W 0 (fun _ => true) true Try.f13.params.toList args.toList ds p := hA0
  rw [Try.params13] at hA hval
  obtain ⟨v0, vs0, d0, ds0, p0, q0, hargs, rfl, rfl, h0, r0⟩ := trodAll_cons hA
  obtain ⟨v1, vs1, d1, ds1, p1, q1, rfl, rfl, rfl, h1, r1⟩ := trodAll_cons r0
  obtain ⟨rfl, rfl, rfl⟩ := trodAll_nil r1
  obtain rfl : args = #[v0, v1] := by cases args; simp_all
  obtain ⟨rfl, rfl⟩ := trodVars_none hV
  have k0 := h0
  have lt0 : ∀ x ∈ p0, x.block < W.heap.size := by obtain ⟨m, hm⟩ := k0; exact DataW.trod_lt m _ _ _ hm
  obtain ⟨y0, cs0, rfl, hK0, hw0⟩ := (Opens.struct Try.underlying88 (by kernel_rfl) (OpensF.cons rfl (Opens.struct Try.underlying84 (by kernel_rfl) (OpensF.cons rfl (Opens.struct Try.underlying39 (by kernel_rfl) (OpensF.cons rfl (Opens.int Try.underlying2 (by kernel_rfl)) (OpensF.cons rfl (Opens.int Try.underlying2 (by kernel_rfl)) (OpensF.one rfl (Opens.int Try.underlying2 (by kernel_rfl)))))) (OpensF.cons rfl (Opens.int Try.underlying2 (by kernel_rfl)) (OpensF.cons rfl (Opens.slice Try.underlying82 (by kernel_rfl) opens233) (OpensF.one rfl (Opens.slice Try.underlying82 (by kernel_rfl) opens233)))))) (OpensF.cons rfl (Opens.slice Try.underlying85 (by kernel_rfl) opens206) (OpensF.one rfl (Opens.slice Try.underlying86 (by kernel_rfl) opens210))))).arg Try.underlying88 (hval 0 88 v0 rfl rfl) h0
  obtain ⟨_, _, rfl, ⟨_, _, rfl, ⟨_, _, rfl, rfl, ⟨_, _, rfl, rfl, rfl⟩⟩, ⟨_, _, rfl, rfl, ⟨_, _, rfl, ⟨A0_4, c0_4, rfl, hl0_4, hC0_4⟩, ⟨A0_5, c0_5, rfl, hl0_5, hC0_5⟩⟩⟩⟩, ⟨_, _, rfl, ⟨A0_6, c0_6, rfl, hl0_6, hC0_6⟩, ⟨A0_7, c0_7, rfl, hl0_7, hC0_7⟩⟩⟩ := hK0
  have k1 := h1
  have lt1 : ∀ x ∈ p1, x.block < W.heap.size := by obtain ⟨m, hm⟩ := k1; exact DataW.trod_lt m _ _ _ hm
  obtain ⟨y1, cs1, rfl, hK1, hw1⟩ := (Opens.struct Try.underlying88 (by kernel_rfl) (OpensF.cons rfl (Opens.struct Try.underlying84 (by kernel_rfl) (OpensF.cons rfl (Opens.struct Try.underlying39 (by kernel_rfl) (OpensF.cons rfl (Opens.int Try.underlying2 (by kernel_rfl)) (OpensF.cons rfl (Opens.int Try.underlying2 (by kernel_rfl)) (OpensF.one rfl (Opens.int Try.underlying2 (by kernel_rfl)))))) (OpensF.cons rfl (Opens.int Try.underlying2 (by kernel_rfl)) (OpensF.cons rfl (Opens.slice Try.underlying82 (by kernel_rfl) opens233) (OpensF.one rfl (Opens.slice Try.underlying82 (by kernel_rfl) opens233)))))) (OpensF.cons rfl (Opens.slice Try.underlying85 (by kernel_rfl) opens206) (OpensF.one rfl (Opens.slice Try.underlying86 (by kernel_rfl) opens210))))).arg Try.underlying88 (hval 1 88 v1 rfl rfl) h1
  obtain ⟨_, _, rfl, ⟨_, _, rfl, ⟨_, _, rfl, rfl, ⟨_, _, rfl, rfl, rfl⟩⟩, ⟨_, _, rfl, rfl, ⟨_, _, rfl, ⟨A1_4, c1_4, rfl, hl1_4, hC1_4⟩, ⟨A1_5, c1_5, rfl, hl1_5, hC1_5⟩⟩⟩⟩, ⟨_, _, rfl, ⟨A1_6, c1_6, rfl, hl1_6, hC1_6⟩, ⟨A1_7, c1_7, rfl, hl1_7, hC1_7⟩⟩⟩ := hK1
  clear hA0 hval0 hsz0
  obtain ⟨k, hp⟩ := Pure.FnExactSameRouters y0.1.1.1 y0.1.1.2.1 y0.1.1.2.2 y0.1.2.1 y0.1.2.2.1 y0.1.2.2.2 y0.2.1 y0.2.2 y1.1.1.1 y1.1.1.2.1 y1.1.1.2.2 y1.1.2.1 y1.1.2.2.1 y1.1.2.2.2 y1.2.1 y1.2.2 hw0.1.1.1 hw0.1.1.2.1 hw0.1.1.2.2 hw0.1.2.1 hw0.1.2.2.1 hw0.1.2.2.2 hw0.2.1 hw0.2.2 hw1.1.1.1 hw1.1.1.2.1 hw1.1.1.2.2 hw1.1.2.1 hw1.1.2.2.1 hw1.1.2.2.2 hw1.2.1 hw1.2.2
  refine Calls.mono (laws_FnExactSameRouters.calls k y0.1.1.1 y0.1.1.2.1 y0.1.1.2.2 y0.1.2.1 A0_4 c0_4 y0.1.2.2.1 A0_5 c0_5 y0.1.2.2.2 A0_6 c0_6 y0.2.1 A0_7 c0_7 y0.2.2 y1.1.1.1 y1.1.1.2.1 y1.1.1.2.2 y1.1.2.1 A1_4 c1_4 y1.1.2.2.1 A1_5 c1_5 y1.1.2.2.2 A1_6 c1_6 y1.2.1 A1_7 c1_7 y1.2.2 W hC0_4 hl0_4 hC0_5 hl0_5 hC0_6 hl0_6 hC0_7 hl0_7 hC1_4 hl1_4 hC1_5 hl1_5 hC1_6 hl1_6 hC1_7 hl1_7 hp) fun e W' he2 => ?_
  obtain ⟨he, bel0⟩ := he2
  have bel : Below W.heap.size W W' := bel0
  subst he
  exact ⟨_, rfl, _, _, _, [], _, [], hW', trodAll_mk1 (shut_bool Try.underlying4 _), (trodAll_cons_mk (Below.trod laidOut (by kernel_rfl) (of_decide_eq_true (by kernel_rfl)) k0 bel lt0) (trodAll_cons_mk (Below.trod laidOut (by kernel_rfl) (of_decide_eq_true (by kernel_rfl)) k1 bel lt1) trodAll_mk0)), rfl, bel.frame _, fun h => by cases h⟩
set_option maxRecDepth 100000 in
theorem and2_ {a b : Bool} (ha : a = true) (hb : b = true) : (a && b) = true := by rw [ha, hb]; rfl
set_option maxRecDepth 100000 in
theorem j0 : (Rows.fnExactSameRoutersRow.wf (OpenSpec.ofChange Rows.fnExactSameRoutersSpec)) = true := by kernel_rfl
set_option maxRecDepth 100000 in
theorem j1 : (laidOutB Try.prog) = true := by kernel_rfl
set_option maxRecDepth 100000 in
theorem j2 : (mapsRowed Try.prog) = true := by kernel_rfl
set_option maxRecDepth 100000 in
theorem j3 : (Try.f13.params.all (Try.prog.readableRec ·)) = true := by kernel_rfl
set_option maxRecDepth 100000 in
theorem j4 : (namedTie Try.prog Rows.fnExactSameRoutersRow.named Rows.fnExactSameRoutersSpec.vars) = true := by kernel_rfl
set_option maxRecDepth 100000 in
theorem j5 : ((Rows.fnExactSameRoutersRow.stops == [])) = true := by kernel_rfl
set_option maxRecDepth 100000 in
theorem j6 : ((Try.prog.stops == [])) = true := by kernel_rfl
set_option maxRecDepth 100000 in
theorem j7 : ((Rows.fnExactSameRoutersRow.knobs == [])) = true := by kernel_rfl
set_option maxRecDepth 100000 in
theorem j8 : ((Try.prog.stopKnobs == [])) = true := by kernel_rfl
set_option maxRecDepth 100000 in
theorem j9 : ((Rows.fnExactSameRoutersRow.inPlace == Try.prog.inPlace 13)) = true := by kernel_rfl
set_option maxRecDepth 100000 in
theorem j10 : ((Rows.fnExactSameRoutersRow.unfollowed == Try.prog.unfollowed 13)) = true := by kernel_rfl
set_option maxRecDepth 100000 in
theorem j11 : ((Rows.fnExactSameRoutersRow.recurses == Try.prog.recurses 13)) = true := by kernel_rfl
set_option maxRecDepth 100000 in
theorem j12 : ((Rows.fnExactSameRoutersRow.named == Try.prog.varsNamed 13)) = true := by kernel_rfl
set_option maxRecDepth 100000 in
theorem j13 : ((Rows.fnExactSameRoutersRow.maps == (Try.f13.params.toList ++ Rows.fnExactSameRoutersSpec.plain.varTypes Try.prog).any (Try.prog.mapsRec ·))) = true := by kernel_rfl
set_option maxRecDepth 100000 in
theorem j14 : ((Rows.fnExactSameRoutersRow.ifaces == (Try.f13.params.toList ++ Rows.fnExactSameRoutersSpec.plain.varTypes Try.prog).any (Try.prog.ifacesRec ·))) = true := by kernel_rfl
set_option maxRecDepth 100000 in
theorem j15 : ((Rows.fnExactSameRoutersRow.mapsOut == Try.prog.mapsAmong Try.f13.resultTypes.toList)) = true := by kernel_rfl
set_option maxRecDepth 100000 in
theorem j16 : ((Rows.fnExactSameRoutersRow.loops == (Try.f13.params.toList ++ Rows.fnExactSameRoutersSpec.plain.varTypes Try.prog).any (Try.prog.loopsFrom ·))) = true := by kernel_rfl
set_option maxRecDepth 100000 in
theorem j17 : ((Rows.fnExactSameRoutersRow.wideKeys == (Try.f13.params.toList ++ Rows.fnExactSameRoutersSpec.plain.varTypes Try.prog ++ Try.f13.resultTypes.toList).any (Try.prog.wideKeysFrom ·))) = true := by kernel_rfl
set_option maxRecDepth 100000 in
theorem j18 : (Rows.fnExactSameRoutersSpec.vars.all (Try.prog.varReadable ·)) = true := by kernel_rfl
set_option maxRecDepth 100000 in
theorem j19 : (Try.f13.resultTypes.all (fun t => Try.prog.readableRec t && decide (t < Try.prog.types.size))) = true := by kernel_rfl
set_option maxRecDepth 100000 in
theorem j20 : ((Rows.fnExactSameRoutersRow.ifacesOut == Try.f13.resultTypes.toList.any (Try.prog.ifacesRec ·))) = true := by kernel_rfl
set_option maxRecDepth 100000 in
theorem j21 : ((Rows.fnExactSameRoutersRow.loopsOut == Try.f13.resultTypes.toList.any (Try.prog.loopsFrom ·))) = true := by kernel_rfl
set_option maxRecDepth 100000 in
theorem j22 : ((Rows.fnExactSameRoutersRow.plainKeys == Try.prog.plainKeys)) = true := by kernel_rfl
set_option maxRecDepth 100000 in
theorem j23 : (Rows.fnExactSameRoutersRow.shortTexts.isNone) = true := by kernel_rfl
set_option maxRecDepth 100000 in
theorem j24 : (Try.prog.stopsHeard) = true := by kernel_rfl
set_option maxRecDepth 100000 in
theorem j25 : (Try.prog.mayEnter) = true := by kernel_rfl
set_option maxRecDepth 100000 in
theorem j26 : ((Rows.fnExactSameRoutersRow.lifted == Try.prog.liftsFinal)) = true := by kernel_rfl
set_option maxRecDepth 100000 in
theorem j27 : ((Try.prog.make == some Rows.fnExactSameRoutersRow.make)) = true := by kernel_rfl
set_option maxRecDepth 100000 in
theorem j28 : ((Rows.fnExactSameRoutersRow.kinds == (if Rows.fnExactSameRoutersRow.domain.isEmpty then [] else Try.f13.params.toList.map fun t => match Try.prog.underlying t with | some (.int k) => some k | _ => none))) = true := by kernel_rfl
set_option maxRecDepth 100000 in
theorem j29 : ((Rows.fnExactSameRoutersRow.pinned == Rows.fnExactSameRoutersRow.pinnedBy)) = true := by kernel_rfl
set_option maxRecDepth 100000 in
theorem j30 : ((Rows.fnExactSameRoutersRow.veiled == (Try.f13.params.toList ++ Rows.fnExactSameRoutersSpec.plain.varTypes Try.prog ++ Try.f13.resultTypes.toList).any (Try.prog.veiledRec ·))) = true := by kernel_rfl
set_option maxRecDepth 100000 in
theorem j31 : (Rows.fnExactSameRoutersRow.veiledFits Try.prog Try.f13.params.toList (Try.f13.params.toList ++ Rows.fnExactSameRoutersSpec.plain.varTypes Try.prog ++ Try.f13.resultTypes.toList)) = true := by kernel_rfl
set_option maxRecDepth 100000 in
theorem jf : joinedFacts Try.prog 13 Try.f13 Rows.fnExactSameRoutersSpec Rows.fnExactSameRoutersRow = true := by
  unfold joinedFacts
  exact (and2_ (and2_ (and2_ (and2_ (and2_ (and2_ (and2_ (and2_ (and2_ (and2_ (and2_ (and2_ (and2_ (and2_ (and2_ (and2_ (and2_ (and2_ (and2_ (and2_ (and2_ (and2_ (and2_ (and2_ (and2_ (and2_ (and2_ (and2_ (and2_ (and2_ (and2_ j0 j1) j2) j3) j4) j5) j6) j7) j8) j9) j10) j11) j12) j13) j14) j15) j16) j17) j18) j19) j20) j21) j22) j23) j24) j25) j26) j27) j28) j29) j30) j31)
set_option maxHeartbeats 8000000 in
theorem over : Rows.fnExactSameRoutersRow.holds Try.pinned (OpenSpec.ofChange Rows.fnExactSameRoutersSpec) :=
  OpenClaim.holds_of_wide 13 Try.f13 rfl rfl rfl rfl rfl rfl rfl ⟨rfl, rfl, rfl, rfl, rfl⟩ rfl rfl rfl rfl rfl (by as_aux_lemma => kernel_rfl) Try.func13 jf
    (of_decide_eq_true (by as_aux_lemma => kernel_rfl)) (by as_aux_lemma => unfold Func.isWrapper; first | (rw [if_pos (by decide +kernel)]; kernel_rfl) | (rw [if_neg (by decide +kernel)]; exact ⟨rfl, rfl⟩))
    (fun os started H enc _ => lifted os started H enc)
theorem proved : Rows.FnExactSameRoutersSaid := over
#print axioms proved
end Go.Proofs.Ythmkjapmnlhflaa.fnExactSameRoutersR
namespace Go.Proofs.Ythmkjapmnlhflaa
theorem fnExactSameRouters_holds : Rows.FnExactSameRoutersSaid := fnExactSameRoutersR.proved
end Go.Proofs.Ythmkjapmnlhflaa
