/-
  The law FnExactFromCovers: for every input that can be read the function answers true, and the input reads as it did.
  Conditions: none.
-/
import Derived.Test.YthcnmahjhahafaaBr1
import Derived.Test.YthcnmahjhahafaaQFromCovers
import Derived.Test.YthcnmahjhahafaaRows
import Derived.WalkKit
import Derived.ProofKit
namespace Go.Proofs.Ythcnmahjhahafaa.fnExactFromCovers
open Go Go.ChangeShapes Go.WideShapes Go.ChangeAt Go.RowKit Go.Proofs.Ythcnmahjhahafaa.Ax

theorem own : ownKnob Try.prog.godebug = none := by kernel_rfl
theorem laidOut : laidOutB Try.prog = true := by kernel_rfl

set_option maxRecDepth 100000 in
theorem lifted (os : Os) (started : os.Started) (H : Type) (enc : TypeId × Value → H) :
    ReturnsInHanded {} Try.checked os 12 .any (Rows.fnExactFromCoversSpec.pre6 enc Try.prog Try.f12 Rows.fnExactFromCoversRow.domain false) (Rows.fnExactFromCoversSpec.post enc Try.prog Try.f12 false true false false) := by
  refine returnsInHanded_of_change (C := Try.checked) own started (by kernel_rfl) Try.func12
    (ChangeSpec.witness6 (enc := enc) (C := Try.checked) false ⟨#[], #[.int .i64 0, .slice none 0 0], []⟩ 8 (by kernel_rfl) (by kernel_rfl) (by kernel_rfl) (by kernel_rfl)) ?_
  intro W base args ds gs before hval0 hW _ _
  have hval : ∀ (j : Nat) t v, Try.f12.params[j]? = some t → args[j]? = some v → Value.okWide Try.prog W .any base t v := hval0
  have hW' := hW
  obtain ⟨p, q, hA0, hV0, rfl, hfz, hnd⟩ := hW
  have hA : DataW.TrodAll enc Try.prog W 0 (fun _ => true) true Try.f12.params.toList args.toList ds p := hA0
  rw [Try.params12] at hA hval
  obtain ⟨v0, vs0, d0, ds0, p0, q0, e0, rfl, rfl, h0, r0⟩ := trodAll_cons hA
  obtain ⟨v1, vs1, d1, ds1, p1, q1, e1, rfl, rfl, h1, r1⟩ := trodAll_cons r0
  obtain ⟨rfl, rfl, rfl⟩ := trodAll_nil r1
  subst e1
  have ea : args = #[v0, v1] := by rw [← Array.toList_inj]; exact e0
  subst ea
  obtain ⟨n0, rd0⟩ := open_int1 (O := fun _ => False) Try.underlying3 (hval 0 3 v0 rfl rfl) h0
  obtain ⟨zs1, b1, rd1⟩ := open_pairs1 (O := fun _ => False) (fun _ => id) Try.underlying47 Try.underlying77 Try.underlying3 (by kernel_rfl) (by kernel_rfl) (hval 1 47 v1 rfl rfl) h1
  have hrd : RdL W (fun _ => False) [vint n0, slr false 2 (rA2 vint) zs1] [v0, v1] [] := by simpa using (rd0.append rd1)
  exact law_post (f := 12) (s := Rows.fnExactFromCoversSpec) laidOut rfl (by rw [Try.params12]; intro t ht; simp at ht; rcases ht with rfl | rfl <;> exact ⟨by kernel_rfl, of_decide_eq_true (by kernel_rfl)⟩) (tb := 4) (by kernel_rfl) (by kernel_rfl)
    (fun ds hl => by
      match ds, hl with
      | [_, _], _ => rfl) hW' hrd (t_laws_FnExactFromCovers (F_FnExactFromCovers n0 (show zs1.length ≤ BIG from by show zs1.length ≤ 9223372036854775807; unfold maxLen at b1; omega)))

theorem proved : Rows.FnExactFromCoversSaid :=
  OpenClaim.holds_of_wide 12 Try.f12 rfl rfl rfl rfl rfl rfl rfl ⟨rfl, rfl, rfl, rfl, rfl⟩ rfl rfl rfl rfl rfl (by kernel_rfl) Try.func12 (by kernel_rfl)
    (of_decide_eq_true (by kernel_rfl)) (by unfold Func.isWrapper; first | (rw [if_pos (by decide +kernel)]; kernel_rfl) | (rw [if_neg (by decide +kernel)]; exact ⟨rfl, rfl⟩))
    (fun os started H enc _ => lifted os started H enc)

#print axioms proved
end Go.Proofs.Ythcnmahjhahafaa.fnExactFromCovers
