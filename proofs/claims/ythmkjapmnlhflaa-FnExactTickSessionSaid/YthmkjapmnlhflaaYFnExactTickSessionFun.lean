/- Closed forms for the law FnExactTickSession: what the printed functions compute, in closed form, and that the law's answer is true. -/
import Derived.Test.YthmkjapmnlhflaaSFnExactTickSessionza
import Derived.Test.YthmkjapmnlhflaaYFnExactTickSessionx8
import Derived.Test.YthmkjapmnlhflaaYFnExactTickSessionx9
import Derived.Test.YthmkjapmnlhflaaYFnExactTickSessionx2
import Derived.Test.YthmkjapmnlhflaaYFnExactTickSessionx3
import Derived.Test.YthmkjapmnlhflaaYFnExactTickSessionx4
import Derived.Test.YthmkjapmnlhflaaYFnExactTickSessionx5
import Derived.Test.YthmkjapmnlhflaaYFnExactTickSessionx6
import Derived.Test.YthmkjapmnlhflaaYFnExactTickSessionx7
import Derived.Test.YthmkjapmnlhflaaYFnExactTickSessionx10
import Derived.Test.YthmkjapmnlhflaaYFnExactTickSessionx11
import Derived.Test.YthmkjapmnlhflaaYFnExactTickSessionx12
import Derived.Test.YthmkjapmnlhflaaYFnExactTickSessionx13
namespace Go.Proofs.Ythmkjapmnlhflaa.Pure
open Go.RowKit Go.Proofs.Ythmkjapmnlhflaa.PFnExactTickSession Go.Proofs.YthmkjapmnlhflaaW.PrintWords Go.Proofs.YthmkjapmnlhflaaW.PrintLast Go.Proofs.YthmkjapmnlhflaaW.PrintMore Go.Proofs.Ythmkjapmnlhflaa.B
set_option linter.unusedVariables false
set_option linter.unusedSimpArgs false
theorem laws_toConfig_eq (a b c : Int) : laws_toConfig.f a b c = some (a, b, c) := rfl
theorem laws_toSession_eq (a b c d e : Int) : laws_toSession.f a b c d e = some (a, b, c, d, e) := rfl
theorem laws_eqPrefix_refl (a b : Int) : laws_eqPrefix.f a b a b = some true := by
  simp only [laws_eqPrefix.f, if_true]
theorem laws_eqPrefixS_refl {k : Nat} {l : List S167} (hl : l.length ≤ 1048576) (hk : l.length < k) : laws_eqPrefixS.f k l l = some true := by
  unfold laws_eqPrefixS.f
  rw [if_pos rfl]
  exact all_loop (L := fun k i => laws_eqPrefixS.l0 k l l i) (n := l.length) (B := 0)
    (fun k i h _ => by
      simp only [laws_eqPrefixS.l0, laws_eqPrefix_refl, Option.bind_some]
      rw [if_pos (by omega), if_pos (by omega), if_pos (by omega)]
      simp only [if_true]
      rw [wrap_succ (by omega)])
    (fun k => by simp only [laws_eqPrefixS.l0]; rw [if_neg (by omega)]) (by omega)
theorem laws_eqInt64S_refl {k : Nat} {l : List Int} (hl : l.length ≤ 1048576) (hk : l.length < k) : laws_eqInt64S.f k l l = some true := by
  unfold laws_eqInt64S.f
  rw [if_pos rfl]
  exact all_loop (L := fun k i => laws_eqInt64S.l0 k l l i) (n := l.length) (B := 0)
    (fun k i h _ => by
      simp only [laws_eqInt64S.l0]
      rw [if_pos (by omega), if_pos (by omega), if_pos (by omega)]
      simp only [if_true]
      rw [wrap_succ (by omega)])
    (fun k => by simp only [laws_eqInt64S.l0]; rw [if_neg (by omega)]) (by omega)
theorem laws_eqAttrs_refl {k : Nat} {a c d e : Int} {l : List Int} (hl : l.length ≤ 1048576) (hk : l.length < k) : laws_eqAttrs.f k a l c d e a l c d e = some true := by
  simp only [laws_eqAttrs.f, laws_eqInt64S_refl hl hk, Option.bind_some, if_true]
theorem laws_markInt64S_eq {k : Nat} {l : List Int} {m : Int} (h0 : 0 ≤ m) (h1 : m + l.length ≤ 1000000000) (hk : l.length < k) : laws_markInt64S.f k l m = some (m + l.length, marks (fun x => x) m l.length) := by
  unfold laws_markInt64S.f
  exact mark_loop (L := fun k acc m i => laws_markInt64S.l0 k acc m i) (g := (fun x => x))
    (fun k acc m i h hl h0 h1 => by
      simp only [laws_markInt64S.l0]
      rw [if_pos (by omega), if_pos (by omega), wrap_succ (by omega), wrap_id (x := m + 1) (by omega) (by omega)]
      simp)
    (fun k acc m hl => by simp only [laws_markInt64S.l0]; rw [if_neg (by omega)]) rfl h0 h1 hk
theorem laws_heldInt64S_eq {k n : Nat} {m : Int} (h0 : 0 ≤ m) (h1 : m + n ≤ 1000000000) (hk : n < k) : laws_heldInt64S.f k (marks (fun x => x) m n) m = some (m + n) := by
  unfold laws_heldInt64S.f
  exact held_loop (L := fun k m' i => laws_heldInt64S.l0 k (marks (fun x => x) m n) m' i)
    (fun k i h => by
      have hl := marks_length (fun x => x) m n
      have hr : rd (marks (fun x => x) m n) (i : Int) = m + i := by
        rw [rd_nat (by omega), marks_get]
      simp only [laws_heldInt64S.l0, hr]
      rw [if_pos (by omega), if_pos (by omega), if_true, wrap_succ (by omega), wrap_id (x := m + i + 1) (by omega) (by omega)]
      congr 1
      omega)
    (fun k m' => by
      have hl := marks_length (fun x => x) m n
      simp only [laws_heldInt64S.l0]; rw [if_neg (by omega)]) hk
theorem spec_l1In_eq (n lo hi : Int) : spec_l1In.f n lo hi = some (inB n lo hi) := inB_eq n lo hi
theorem spec_l4Hold_eq (n : Int) : spec_l4Hold.f n = some (holdB n) := by
  simp only [spec_l4Hold.f, spec_l1In_eq, Option.bind_some, ite_some]; rfl
theorem spec_ConfigFault_eq (a b c : Int) : spec_ConfigFault.f a b c = some (configFault a b c) := by
  simp only [spec_ConfigFault.f, spec_l1In_eq, spec_l4Hold_eq, Option.bind_some, ite_some]; rfl
theorem spec_l3Word_eq (n : Int) : spec_l3Word.f n = some (inB n 0 65535) := by
  simp only [spec_l3Word.f, spec_l1In_eq, Option.bind_some]
theorem spec_SessionFault_eq {k : Nat} (hk : 1 ≤ k) (a b c d e : Int) : spec_SessionFault.f k a b c d e = some (sessionFault a b c d e) := by
  obtain ⟨k, rfl⟩ : ∃ m, k = m + 1 := ⟨k - 1, by omega⟩
  simp only [spec_SessionFault.f, spec_l1In_eq, spec_l3Word_eq, spec_l4Hold_eq, Option.bind_some, spec_SessionFault.j0]
  unfold sessionFault
  cases h1 : inB a 0 3 <;> cases h2 : inB b 0 65535 <;> cases h3 : holdB c <;> cases h4 : inB d 0 1000 <;> cases h5 : inB e 0 1000 <;> simp
  by_cases ha : a = 0
  · by_cases hb : b = 0 <;> by_cases hc : c = 0 <;> by_cases hd : d = 0 <;> by_cases he : e = 0 <;> simp [ha, hb, hc, hd, he]
  · by_cases ha1 : a = 1
    · by_cases hb : b = 0 <;> by_cases hc : c = 0 <;> simp [ha1, hb, hc]
    · by_cases hb : b = 0 <;> simp [ha, ha1, hb]
theorem impl_in_eq (n lo hi : Int) : impl_in.f n lo hi = some (inB n lo hi) := inB_eq n lo hi
theorem impl_isSystem_eq (n : Int) : impl_isSystem.f n = some (inB n 1 65535) := by
  simp only [impl_isSystem.f, impl_in_eq, Option.bind_some]
theorem impl_isHold_eq (n : Int) : impl_isHold.f n = some (holdB n) := by
  simp only [impl_isHold.f, impl_in_eq, Option.bind_some, ite_some]; rfl
theorem impl_ConfigFault_eq (a b c : Int) : impl_ConfigFault.f a b c = some (configFault a b c) := by
  simp only [impl_ConfigFault.f, impl_isSystem_eq, impl_isHold_eq, Option.bind_some, ite_some]; rfl
theorem impl_isTwo_eq (n : Int) : impl_isTwo.f n = some (inB n 0 65535) := by
  simp only [impl_isTwo.f, impl_in_eq, Option.bind_some]
theorem impl_SessionFault_eq {k : Nat} (hk : 1 ≤ k) (a b c d e : Int) : impl_SessionFault.f k a b c d e = some (sessionFault a b c d e) := by
  obtain ⟨k, rfl⟩ : ∃ m, k = m + 1 := ⟨k - 1, by omega⟩
  simp only [impl_SessionFault.f, impl_in_eq, impl_isTwo_eq, impl_isHold_eq, Option.bind_some, impl_SessionFault.j0]
  unfold sessionFault
  cases h1 : inB a 0 3 <;> cases h2 : inB b 0 65535 <;> cases h3 : holdB c <;> cases h4 : inB d 0 1000 <;> cases h5 : inB e 0 1000 <;> simp
  by_cases ha : a = 0
  · by_cases hb : b = 0 <;> by_cases hc : c = 0 <;> by_cases hd : d = 0 <;> by_cases he : e = 0 <;> simp [ha, hb, hc, hd, he]
  · by_cases ha1 : a = 1
    · by_cases hb : b = 0 <;> by_cases hc : c = 0 <;> simp [ha1, hb, hc]
    · by_cases hb : b = 0 <;> simp [ha, ha1, hb]
end Go.Proofs.Ythmkjapmnlhflaa.Pure
