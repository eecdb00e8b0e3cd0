/-
  The law FnTermTexts: for every input that can be read the function answers true, and the input reads as it did.
  Conditions: none. The package variables that the row lists are tied to the program text by the given tie.
-/
import Derived.Test.YtbnoclklhcbidaaDoorBr3
import Derived.Test.YtbnoclklhcbidaaDoorQTermTexts
import Derived.Test.YtbnoclklhcbidaaDoorRows
import Derived.Test.YtbnoclklhcbidaaDoorCards
import Derived.Test.YtbnoclklhcbidaaDoorTie
import Derived.Lay
import Derived.LaidMore
import Derived.SevenTiedAt
import Derived.WalkKit
import Derived.ProofKit
namespace Go.Proofs.YtbnoclklhcbidaaDoor.fnTermTexts
open Go Go.ChangeShapes Go.WideShapes Go.ChangeAt Go.RowKit Go.Proofs.YtbnoclklhcbidaaDoor.Ax

theorem own:ownKnob Tryd.prog.godebug=none:=by kernel_rfl
theorem laidOut:laidOutB Tryd.prog=true:=by kernel_rfl

set_option maxRecDepth 100000 in
theorem lifted (os:Os) (started:os.Started) (H:Type) (enc:TypeId×Value→H) :
    ReturnsInHanded {} Tryd.checked os 4 .any (fun w args=>(Rows.fnTermTextsSpec.pre enc Tryd.prog Tryd.f4 Rows.fnTermTextsRow.domain false w args∧laidMetH Tryd.prog Rows.fnTermTextsRow.laid w)∧sizedMet enc Tryd.prog Tryd.f4 (OpenSpec.ofChange Rows.fnTermTextsSpec) false w args) (Rows.fnTermTextsSpec.post enc Tryd.prog Tryd.f4 false true false false):=by
  refine returnsInHanded_of_change_and (C:=Tryd.checked) (X:=fun w _=>laidMetH Tryd.prog Rows.fnTermTextsRow.laid w) (fun _ _ _ hh h=>h.of_heap hh) own started (by kernel_rfl) Tryd.func4
    (ChangeSpec.witness_shaped (enc:=enc) (C:=Tryd.checked) (os:=os) (X:=fun w _=>laidMetH Tryd.prog Rows.fnTermTextsRow.laid w) false (World.laidAll Tryd.prog os Rows.fnTermTextsRow.laid) #[.slice none 0 0] 8 (World.laidAll_os _ _ _)
      (World.shaped_of_ZipB (by kernel_rfl) (by kernel_rfl)) (by kernel_rfl) (by kernel_rfl) (by kernel_rfl)
      (by rw [MakeChecks.laidMetH_plain _ _ _ (by kernel_rfl)];exact laidMet_laidAll _ (by kernel_rfl) (by kernel_rfl))) ?_
  intro W base args ds gs before hval0 hW _ _ _ _
  have hval : ∀(j:Nat) t v,Tryd.f4.params[j]? = some t→args[j]? = some v→Value.okWide Tryd.prog W .any base t v:=hval0
  have hW':=hW
  obtain ⟨p,q,hA0,hV0,rfl,hfz,hnd⟩:=hW
  have hA:DataW.TrodAll enc Tryd.prog W 0 (fun _=>true) true Tryd.f4.params.toList args.toList ds p:=hA0
  rw [Tryd.params4] at hA hval
  obtain ⟨v0,vs0,d0,ds0,p0,q0,e0,rfl,rfl,h0,r0⟩:=trodAll_cons hA
  obtain ⟨rfl,rfl,rfl⟩:=trodAll_nil r0
  have ea:args = #[v0]:=by rw [←Array.toList_inj];exact e0
  subst ea
  obtain ⟨xs0,b0,c0,rd0⟩:=Aj8 (O:=fun _=>False) (fun _=>id) Tryd.underlying32 Tryd.underlying5 (by kernel_rfl) (hval 0 32 v0 rfl rfl) h0
  have hrd:RdL W (fun _=>False) [slr false 1 (V.int IntKind.u8) xs0] [v0] []:=by simpa using rd0
  exact Ar3 (f:=4) (s:=Rows.fnTermTextsSpec) laidOut rfl (by rw [Tryd.params4];intro t ht;simp at ht;subst ht<;>exact ⟨by kernel_rfl,of_decide_eq_true (by kernel_rfl)⟩) (tb:=4) (by kernel_rfl) (by kernel_rfl)
    (fun ds hl=>by
      match ds,hl with
      | [_],_=>rfl) hW' hrd (Wj (Aff (show xs0.length≤BIG ∧ ∀x∈xs0,0≤x∧x≤255 from ⟨by show xs0.length≤9223372036854775807;unfold maxLen at b0;omega,c0⟩)))

theorem both {a b:Bool} (h:a=true) (k:b=true):(a&&b)=true:=by rw [h,k];rfl
set_option maxHeartbeats 4000000 in
/-- each fact about the whole program in a theorem of its own: in one they fill the memory -/
theorem closed:joinedFacts Tryd.checked.prog 4 Tryd.f4 Rows.fnTermTextsSpec Rows.fnTermTextsRow=true:=by
  unfold joinedFacts
  exact both (both (both (both (both (both (both (both (both (both (both (both (both (both (both (both (both (both (both (both (both (both (both (both (both (both (both (both (both (both (both (by as_aux_lemma=>kernel_rfl) (by as_aux_lemma=>kernel_rfl)) (by as_aux_lemma=>kernel_rfl)) (by as_aux_lemma=>kernel_rfl)) (by as_aux_lemma=>kernel_rfl)) (by as_aux_lemma=>kernel_rfl)) (by as_aux_lemma=>kernel_rfl)) (by as_aux_lemma=>kernel_rfl)) (by as_aux_lemma=>kernel_rfl)) (by as_aux_lemma=>kernel_rfl)) (by as_aux_lemma=>kernel_rfl)) (by as_aux_lemma=>kernel_rfl)) (by as_aux_lemma=>kernel_rfl)) (by as_aux_lemma=>kernel_rfl)) (by as_aux_lemma=>kernel_rfl)) (by as_aux_lemma=>kernel_rfl)) (by as_aux_lemma=>kernel_rfl)) (by as_aux_lemma=>kernel_rfl)) (by as_aux_lemma=>kernel_rfl)) (by as_aux_lemma=>kernel_rfl)) (by as_aux_lemma=>kernel_rfl)) (by as_aux_lemma=>kernel_rfl)) (by as_aux_lemma=>kernel_rfl)) (by as_aux_lemma=>kernel_rfl)) (by as_aux_lemma=>kernel_rfl)) (by as_aux_lemma=>kernel_rfl)) (by as_aux_lemma=>kernel_rfl)) (by as_aux_lemma=>kernel_rfl)) (by as_aux_lemma=>kernel_rfl)) (by as_aux_lemma=>kernel_rfl)) (by as_aux_lemma=>kernel_rfl)) (by as_aux_lemma=>kernel_rfl)

theorem row:Rows.FnTermTextsSaid:=
  OpenClaim.holds_of_wide 4 Tryd.f4 rfl rfl rfl rfl rfl rfl rfl ⟨rfl,rfl,rfl,rfl,rfl⟩ rfl rfl rfl rfl rfl (by kernel_rfl) Tryd.func4 closed
    (of_decide_eq_true (by kernel_rfl)) (by unfold Func.isWrapper;first | (rw [if_pos (by decide +kernel)];kernel_rfl) | (rw [if_neg (by decide +kernel)];exact ⟨rfl,rfl⟩))
    (fun os started H enc _=>lifted os started H enc)

/-- the tied card -/
theorem proved:Rows.FnTermTextsCardSaid:=
  Claim7.holds_tied_plain_at .later [] [.data,.data,.data] true Rows.fnTermTextsCard.stood.harness Rows.fnTermTextsCard.stood.looks row (fun _ h=>by cases h) (by kernel_rfl) (fun _ h=>by cases h) fnTermTexts_row_tie rfl ⟨rfl,rfl⟩ (by kernel_rfl) rfl
    (fun f fn hf hfn=>by
      obtain rfl:f=4:=Option.some.inj ((show Tryd.prog.funcNamed "loop.example/g01078/laws.FnTermTexts" = some 4 by kernel_rfl).symm.trans hf) |>.symm
      obtain rfl:fn=Tryd.f4:=(Option.some.inj (Tryd.func4.symm.trans hfn)).symm
      exact ⟨by kernel_rfl,fun j t ht=>by
        rw [Tryd.params4] at ht
        have h3:t=32:=by
          rcases j with _ | j
          · simpa using ht.symm
          · simp at ht
        subst h3
        exact (show Tryd.prog.wantsStandIn 32=false by kernel_rfl)⟩)
    (by kernel_rfl)

#print axioms proved
end Go.Proofs.YtbnoclklhcbidaaDoor.fnTermTexts
