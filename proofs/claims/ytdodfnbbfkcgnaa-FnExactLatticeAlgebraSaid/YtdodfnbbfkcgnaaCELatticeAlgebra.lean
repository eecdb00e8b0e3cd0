/-
  The law FnExactLatticeAlgebra: for every input that can be read the function answers true, and the input reads as it did.
  Conditions: none.
-/
import Derived.Test.YtdodfnbbfkcgnaaAxY
import Derived.Test.YtdodfnbbfkcgnaaQLatticeAlgebra
import Derived.Test.YtdodfnbbfkcgnaaRows
import Derived.WalkKit
import Derived.ProofKit
namespace Go.Proofs.Ytdodfnbbfkcgnaa.fnExactLatticeAlgebra
open Go Go.ChangeShapes Go.WideShapes Go.ChangeAt Go.RowKit Go.Proofs.Ytdodfnbbfkcgnaa.Ax

theorem own : ownKnob Try.prog.godebug = none := by kernel_rfl
theorem laidOut : laidOutB Try.prog = true := by kernel_rfl

set_option maxRecDepth 100000 in
theorem lifted (os : Os) (started : os.Started) (H : Type) (enc : TypeId × Value → H) :
    ReturnsInHanded {} Try.checked os 10 .any (Rows.fnExactLatticeAlgebraSpec.pre6 enc Try.prog Try.f10 Rows.fnExactLatticeAlgebraRow.domain false) (Rows.fnExactLatticeAlgebraSpec.post enc Try.prog Try.f10 false true false false) := by
  refine returnsInHanded_of_change (C := Try.checked) own started (by kernel_rfl) Try.func10
    (ChangeSpec.witness6 (enc := enc) (C := Try.checked) false ⟨#[], #[.agg #[.slice none 0 0]], []⟩ 8 (by kernel_rfl) (by kernel_rfl) (by kernel_rfl) (by kernel_rfl)) ?_
  intro W base args ds gs before hval0 hW _ _
  have hval : ∀ (j : Nat) t v, Try.f10.params[j]? = some t → args[j]? = some v → Value.okWide Try.prog W .any base t v := hval0
  have hW' := hW
  obtain ⟨p, q, hA0, hV0, rfl, hfz, hnd⟩ := hW
  have hA : DataW.TrodAll enc Try.prog W 0 (fun _ => true) true Try.f10.params.toList args.toList ds p := hA0
  rw [Try.params10] at hA hval
  obtain ⟨v0, vs0, d0, ds0, p0, q0, e0, rfl, rfl, h0, r0⟩ := trodAll_cons hA
  obtain ⟨rfl, rfl, rfl⟩ := trodAll_nil r0
  have ea : args = #[v0] := by rw [← Array.toList_inj]; exact e0
  subst ea
  obtain ⟨xss0, b0, c0, rd0⟩ := open_rows1 (O := fun _ => False) (fun _ => id) (u := 41) (t := 39) (e := 25) (q := 3) Try.underlying41 rfl rfl (by kernel_rfl) (by kernel_rfl) Try.underlying39 Try.underlying25 Try.underlying3 (by kernel_rfl) (by kernel_rfl) (hval 0 41 v0 rfl rfl) h0
  have hrd : RdL W (fun _ => False) [rS_Poset false ⟨xss0⟩] [v0] [] := by simpa using rd0
  exact law_post (f := 10) (s := Rows.fnExactLatticeAlgebraSpec) laidOut rfl (by rw [Try.params10]; intro t ht; simp at ht; subst ht <;> exact ⟨by kernel_rfl, of_decide_eq_true (by kernel_rfl)⟩) (tb := 4) (by kernel_rfl) (by kernel_rfl)
    (fun ds hl => by
      match ds, hl with
      | [_], _ => rfl) hW' hrd (t_laws_FnExactLatticeAlgebra (F_FnExactLatticeAlgebra (show read ⟨xss0⟩ from ⟨by show xss0.length ≤ 9223372036854775807; unfold maxLen at b0; omega, fun r hr => by have := c0 r hr; show r.length ≤ 9223372036854775807; unfold maxLen at this; omega⟩)))

theorem proved : Rows.FnExactLatticeAlgebraSaid :=
  OpenClaim.holds_of_wide 10 Try.f10 rfl rfl rfl rfl rfl rfl rfl ⟨rfl, rfl, rfl, rfl, rfl⟩ rfl rfl rfl rfl rfl (by kernel_rfl) Try.func10 (by kernel_rfl)
    (of_decide_eq_true (by kernel_rfl)) (by unfold Func.isWrapper; first | (rw [if_pos (by decide +kernel)]; kernel_rfl) | (rw [if_neg (by decide +kernel)]; exact ⟨rfl, rfl⟩))
    (fun os started H enc _ => lifted os started H enc)

#print axioms proved
end Go.Proofs.Ytdodfnbbfkcgnaa.fnExactLatticeAlgebra
