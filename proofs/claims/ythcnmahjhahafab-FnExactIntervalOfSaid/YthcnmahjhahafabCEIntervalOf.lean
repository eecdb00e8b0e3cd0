/-
  The law FnExactIntervalOf: for every input that can be read the function answers true, and the input reads as it did.
  Conditions: none.
-/
import Derived.Test.YthcnmahjhahafabAxY
import Derived.Test.YthcnmahjhahafabQIntervalOf
import Derived.Test.YthcnmahjhahafabRows
import Derived.WalkKit
import Derived.ProofKit
namespace Go.Proofs.Ythcnmahjhahafab.fnExactIntervalOf
open Go Go.ChangeShapes Go.WideShapes Go.ChangeAt Go.RowKit Go.Proofs.Ythcnmahjhahafab.Ax

theorem own : ownKnob Try.prog.godebug = none := by kernel_rfl
theorem laidOut : laidOutB Try.prog = true := by kernel_rfl

set_option maxRecDepth 100000 in
theorem lifted (os : Os) (started : os.Started) (H : Type) (enc : TypeId × Value → H) :
    ReturnsInHanded {} Try.checked os 11 .any (Rows.fnExactIntervalOfSpec.pre6 enc Try.prog Try.f11 Rows.fnExactIntervalOfRow.domain false) (Rows.fnExactIntervalOfSpec.post enc Try.prog Try.f11 false true false false) := by
  refine returnsInHanded_of_change (C := Try.checked) own started (by kernel_rfl) Try.func11
    (ChangeSpec.witness6 (enc := enc) (C := Try.checked) false ⟨#[], #[.agg #[.slice none 0 0], .int .i64 0, .int .i64 0], []⟩ 8 (by kernel_rfl) (by kernel_rfl) (by kernel_rfl) (by kernel_rfl)) ?_
  intro W base args ds gs before hval0 hW _ _
  have hval : ∀ (j : Nat) t v, Try.f11.params[j]? = some t → args[j]? = some v → Value.okWide Try.prog W .any base t v := hval0
  have hW' := hW
  obtain ⟨p, q, hA0, hV0, rfl, hfz, hnd⟩ := hW
  have hA : DataW.TrodAll enc Try.prog W 0 (fun _ => true) true Try.f11.params.toList args.toList ds p := hA0
  rw [Try.params11] at hA hval
  obtain ⟨v0, vs0, d0, ds0, p0, q0, e0, rfl, rfl, h0, r0⟩ := trodAll_cons hA
  obtain ⟨v1, vs1, d1, ds1, p1, q1, e1, rfl, rfl, h1, r1⟩ := trodAll_cons r0
  obtain ⟨v2, vs2, d2, ds2, p2, q2, e2, rfl, rfl, h2, r2⟩ := trodAll_cons r1
  obtain ⟨rfl, rfl, rfl⟩ := trodAll_nil r2
  subst e2
  subst e1
  have ea : args = #[v0, v1, v2] := by rw [← Array.toList_inj]; exact e0
  subst ea
  obtain ⟨xss0, b0, c0, rd0⟩ := open_rows1 (O := fun _ => False) (fun _ => id) (u := 24) (t := 22) (e := 39) (q := 3) Try.underlying24 rfl rfl (by kernel_rfl) (by kernel_rfl) Try.underlying22 Try.underlying39 Try.underlying3 (by kernel_rfl) (by kernel_rfl) (hval 0 24 v0 rfl rfl) h0
  obtain ⟨n1, rd1⟩ := open_int1 (O := fun _ => False) Try.underlying3 (hval 1 3 v1 rfl rfl) h1
  obtain ⟨n2, rd2⟩ := open_int1 (O := fun _ => False) Try.underlying3 (hval 2 3 v2 rfl rfl) h2
  have hrd : RdL W (fun _ => False) [rS_Poset false ⟨xss0⟩, vint n1, vint n2] [v0, v1, v2] [] := by simpa using (rd0.append (rd1.append rd2))
  exact law_post (f := 11) (s := Rows.fnExactIntervalOfSpec) laidOut rfl (by rw [Try.params11]; intro t ht; simp at ht; rcases ht with rfl | rfl <;> exact ⟨by kernel_rfl, of_decide_eq_true (by kernel_rfl)⟩) (tb := 4) (by kernel_rfl) (by kernel_rfl)
    (fun ds hl => by
      match ds, hl with
      | [_, _, _], _ => rfl) hW' hrd (t_laws_FnExactIntervalOf (F_FnExactIntervalOf (show read ⟨xss0⟩ from ⟨by show xss0.length ≤ 9223372036854775807; unfold maxLen at b0; omega, fun r hr => by have := c0 r hr; show r.length ≤ 9223372036854775807; unfold maxLen at this; omega⟩) n1 n2))

theorem proved : Rows.FnExactIntervalOfSaid :=
  OpenClaim.holds_of_wide 11 Try.f11 rfl rfl rfl rfl rfl rfl rfl ⟨rfl, rfl, rfl, rfl, rfl⟩ rfl rfl rfl rfl rfl (by kernel_rfl) Try.func11 (by kernel_rfl)
    (of_decide_eq_true (by kernel_rfl)) (by unfold Func.isWrapper; first | (rw [if_pos (by decide +kernel)]; kernel_rfl) | (rw [if_neg (by decide +kernel)]; exact ⟨rfl, rfl⟩))
    (fun os started H enc _ => lifted os started H enc)

#print axioms proved
end Go.Proofs.Ythcnmahjhahafab.fnExactIntervalOf
