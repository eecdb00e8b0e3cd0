/-
  The law FnSubpowerAlgebras: for every input that can be read the function answers true, and the input reads as it did.
  Conditions: none.
-/
import Derived.Test.YtmmcfdfdacpjgaaBr3
import Derived.Test.YtmmcfdfdacpjgaaQSubpowerAlgebras
import Derived.Test.YtmmcfdfdacpjgaaRows
import Derived.WalkKit
import Derived.ProofKit
namespace Go.Proofs.Ytmmcfdfdacpjgaa.fnSubpowerAlgebras
open Go Go.ChangeShapes Go.WideShapes Go.ChangeAt Go.RowKit Go.Proofs.Ytmmcfdfdacpjgaa.Ax

theorem own:ownKnob Try.prog.godebug=none:=by kernel_rfl
theorem laidOut:laidOutB Try.prog=true:=by kernel_rfl

set_option maxRecDepth 100000 in
theorem lifted (os:Os) (started:os.Started) (H:Type) (enc:TypeId×Value→H) :
    ReturnsInHanded {} Try.checked os 3 .any (Rows.fnSubpowerAlgebrasSpec.pre6 enc Try.prog Try.f3 Rows.fnSubpowerAlgebrasRow.domain false) (Rows.fnSubpowerAlgebrasSpec.post enc Try.prog Try.f3 false true false false):=by
  refine returnsInHanded_of_change (C:=Try.checked) own started (by kernel_rfl) Try.func3
    (ChangeSpec.witness6 (enc:=enc) (C:=Try.checked) false ⟨#[],#[.slice none 0 0],[]⟩ 8 (by kernel_rfl) (by kernel_rfl) (by kernel_rfl) (by kernel_rfl)) ?_
  intro W base args ds gs before hval0 hW _ _
  have hval : ∀(j:Nat) t v,Try.f3.params[j]? = some t→args[j]? = some v→Value.okWide Try.prog W .any base t v:=hval0
  have hW':=hW
  obtain ⟨p,q,hA0,hV0,rfl,hfz,hnd⟩:=hW
  have hA:DataW.TrodAll enc Try.prog W 0 (fun _=>true) true Try.f3.params.toList args.toList ds p:=hA0
  rw [Try.params3] at hA hval
  obtain ⟨v0,vs0,d0,ds0,p0,q0,e0,rfl,rfl,h0,r0⟩:=trodAll_cons hA
  obtain ⟨rfl,rfl,rfl⟩:=trodAll_nil r0
  have ea:args = #[v0]:=by rw [←Array.toList_inj];exact e0
  subst ea
  obtain ⟨xs0,b0,c0,rd0⟩:=Aq2 (O:=fun _=>False) (fun _=>id) Try.underlying22 Try.underlying5 (by kernel_rfl) (hval 0 22 v0 rfl rfl) h0
  have hrd:RdL W (fun _=>False) [slr false 1 (V.int IntKind.u8) xs0] [v0] []:=by simpa using rd0
  exact Ayp (f:=3) (s:=Rows.fnSubpowerAlgebrasSpec) laidOut rfl (by rw [Try.params3];intro t ht;simp at ht;subst ht<;>exact ⟨by kernel_rfl,of_decide_eq_true (by kernel_rfl)⟩) (tb:=4) (by kernel_rfl) (by kernel_rfl)
    (fun ds hl=>by
      match ds,hl with
      | [_],_=>rfl) hW' hrd (Su (Yp (show xs0.length≤BIG ∧ ∀x∈xs0,0≤x∧x≤255 from ⟨by show xs0.length≤9223372036854775807;unfold maxLen at b0;omega,c0⟩)))

theorem both {a b:Bool} (h:a=true) (k:b=true):(a&&b)=true:=by rw [h,k];rfl
set_option maxHeartbeats 4000000 in
/-- each fact about the whole program in a theorem of its own: in one they fill the memory -/
theorem closed:joinedFacts Try.checked.prog 3 Try.f3 Rows.fnSubpowerAlgebrasSpec Rows.fnSubpowerAlgebrasRow=true:=by
  unfold joinedFacts
  exact both (both (both (both (both (both (both (both (both (both (both (both (both (both (both (both (both (both (both (both (both (both (both (both (both (both (both (both (both (both (both (by as_aux_lemma=>kernel_rfl) (by as_aux_lemma=>kernel_rfl)) (by as_aux_lemma=>kernel_rfl)) (by as_aux_lemma=>kernel_rfl)) (by as_aux_lemma=>kernel_rfl)) (by as_aux_lemma=>kernel_rfl)) (by as_aux_lemma=>kernel_rfl)) (by as_aux_lemma=>kernel_rfl)) (by as_aux_lemma=>kernel_rfl)) (by as_aux_lemma=>kernel_rfl)) (by as_aux_lemma=>kernel_rfl)) (by as_aux_lemma=>kernel_rfl)) (by as_aux_lemma=>kernel_rfl)) (by as_aux_lemma=>kernel_rfl)) (by as_aux_lemma=>kernel_rfl)) (by as_aux_lemma=>kernel_rfl)) (by as_aux_lemma=>kernel_rfl)) (by as_aux_lemma=>kernel_rfl)) (by as_aux_lemma=>kernel_rfl)) (by as_aux_lemma=>kernel_rfl)) (by as_aux_lemma=>kernel_rfl)) (by as_aux_lemma=>kernel_rfl)) (by as_aux_lemma=>kernel_rfl)) (by as_aux_lemma=>kernel_rfl)) (by as_aux_lemma=>kernel_rfl)) (by as_aux_lemma=>kernel_rfl)) (by as_aux_lemma=>kernel_rfl)) (by as_aux_lemma=>kernel_rfl)) (by as_aux_lemma=>kernel_rfl)) (by as_aux_lemma=>kernel_rfl)) (by as_aux_lemma=>kernel_rfl)) (by as_aux_lemma=>kernel_rfl)

theorem proved:Rows.FnSubpowerAlgebrasSaid:=
  OpenClaim.holds_of_wide 3 Try.f3 rfl rfl rfl rfl rfl rfl rfl ⟨rfl,rfl,rfl,rfl,rfl⟩ rfl rfl rfl rfl rfl (by kernel_rfl) Try.func3 closed
    (of_decide_eq_true (by kernel_rfl)) (by unfold Func.isWrapper;first | (rw [if_pos (by decide +kernel)];kernel_rfl) | (rw [if_neg (by decide +kernel)];exact ⟨rfl,rfl⟩))
    (fun os started H enc _=>lifted os started H enc)

#print axioms proved
end Go.Proofs.Ytmmcfdfdacpjgaa.fnSubpowerAlgebras
