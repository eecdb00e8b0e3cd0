/-
 What the functions compute, as functions on plain data, and that the program does compute it; written by program.
-/
import Derived.Test.YtoaojijoefljaaaCode
import Derived.Test.YtoaojijoefljaaaG2
import Derived.Test.YtoaojijoefljaaaG3
import Derived.Test.YtoaojijoefljaaaG7
import Derived.Test.YtoaojijoefljaaaG8
import Derived.Test.YtoaojijoefljaaaG9
import Derived.Test.YtoaojijoefljaaaG10
import Derived.Test.YtoaojijoefljaaaG12
namespace Go.Proofs.Ytoaojijoefljaaa.Ax
open Go
set_option maxRecDepth 100000
set_option maxHeartbeats 4000000
noncomputable def Ef (c0 : Sl1Cur) (a0 : SAlgebra) : Option (SOp × Sl1Cur) :=
 (Dm (c0)).bind fun (r1, u2) =>
 (((G2 (a0)).bind fun r3 =>
 if (r3) = true then
 (Ej (a0.Size) (r1)).bind fun r5 =>
 if (r5) = true then
 if a0.Size ≤ (3 : Int) then
 (Do (u2) ((3 : Int))).bind fun (r8, u9) =>
 some (!r8, u9)
 else
 some (false, u2)
 else
 some (false, u2)
 else
 some (false, u2) : Option (Bool × Sl1Cur))).bind fun (q10_26, q10_46) =>
 if (q10_26) = true then
 (D8 (a0) (r1)).bind fun r12 =>
 (Ap (q10_46) ((↑r12.tables.length : Int))).bind fun (r13, u14) =>
 ask ((0 : Int) ≤ r13 ∧ r13 < (↑r12.tables.length : Int)) <|
 (Jq (nth r12.tables r13.toNat)).bind fun r16 =>
 some ({ Arity := r1, Table := r16 }, u14)
 else
 (Bn (q10_46) (a0.Size)).bind fun (r17, u18) =>
 some (r17, u18)
theorem Wb {c0 : Sl1Cur} {a0 : SAlgebra} {v : (SOp × Sl1Cur)} (h : Ef c0 a0 = some v) : Sm Try.prog Ik [(rP true (Ak false)) c0, (Al false) a0] ((Ai true) v.1) 0 ((rP true (Ak false)) v.2) := by
 refine Oz V9 (Nat.le_of_ble_eq_true rfl) ?_
 unfold Ef at h
 conv => whnf
 refine CallQ.io Ae (rP true (Ak false)) (by first | rfl | simp only [Aa, V.fz, fzL, V.up, upL, Ab, Ac, Ad, slr, List.cons_append, List.nil_append] | simp [Aa, V.fz, fzL, V.up, upL, Ab, Ac, Ad, slr]) rfl (fun _ => rfl) (fun _ => ⟨rfl, rfl⟩) rfl h (fun r h => Nx h) (fun r1 u2 h => ?_)
 conv => whnf
 refine CutQ.o (fun t : (Bool × Sl1Cur) => match t with | s => (Ex.normal, [26, 5, 4, 3, 0, 46], [(26, A.val (V.bool s.1)), (5, A.val (Ae (r1))), (4, A.val ((rP true (Ai true)) ({ Arity := (0 : Int), Table := Ao Int }))), (3, A.val ((rP true (Al false)) (a0))), (0, A.ref 46 []), (46, A.val ((rP true (Ak false)) s.2))])) h ?_ ?_
 ·intro t h
  conv => whnf
  refine Cells.lit rfl rfl ?_
  conv => whnf
  refine CallQ.o V.bool (by first | rfl | simp only [Aa, V.fz, fzL, V.up, upL, Ab, Ac, Ad, slr, List.cons_append, List.nil_append] | simp [Aa, V.fz, fzL, V.up, upL, Ab, Ac, Ad, slr]) h (fun r h => Ss h) (fun r3 h => ?_)
  conv => whnf
  refine Br.ob h (fun p4 h => ?_) (fun p4 h => ?_)
  ·conv => whnf
   refine Br.yes ?_
   conv => whnf
   refine Cells.lit rfl rfl ?_
   conv => whnf
   refine Br.yes ?_
   conv => whnf
   refine Br.yes ?_
   conv => whnf
   refine CallQ.o V.bool (by first | rfl | simp only [Aa, V.fz, fzL, V.up, upL, Ab, Ac, Ad, slr, List.cons_append, List.nil_append] | simp [Aa, V.fz, fzL, V.up, upL, Ab, Ac, Ad, slr]) h (fun r h => M0 h) (fun r5 h => ?_)
   conv => whnf
   refine Br.yes ?_
   conv => whnf
   refine Br.ob h (fun p6 h => ?_) (fun p6 h => ?_)
   ·conv => whnf
    refine Br.yes ?_
    conv => whnf
    refine Cells.lit rfl rfl ?_
    conv => whnf
    refine Br.yes ?_
    conv => whnf
    refine Br.yes ?_
    conv => whnf
    refine Br.od h (fun p7 h => ?_) (fun p7 h => ?_)
    ·conv => whnf
     refine Br.yes ?_
     conv => whnf
     refine CallQ.io V.bool (rP true (Ak false)) (by first | rfl | simp only [Aa, V.fz, fzL, V.up, upL, Ab, Ac, Ad, slr, List.cons_append, List.nil_append] | simp [Aa, V.fz, fzL, V.up, upL, Ab, Ac, Ad, slr]) rfl (fun _ => rfl) (fun _ => ⟨rfl, rfl⟩) rfl h (fun r h => Jr h) (fun r8 u9 h => ?_)
     conv => whnf
     refine Br.yes ?_
     conv => whnf
     refine Br.yes ?_
     conv => whnf
     cases h; exact ⟨rfl, rfl⟩
    conv => whnf
    refine Br.no ?_
    conv => whnf
    refine Br.no ?_
    conv => whnf
    refine Br.no ?_
    conv => whnf
    cases h; exact ⟨rfl, rfl⟩
   conv => whnf
   refine Br.no ?_
   conv => whnf
   refine Br.no ?_
   conv => whnf
   refine Br.no ?_
   conv => whnf
   refine Br.no ?_
   conv => whnf
   refine Br.no ?_
   conv => whnf
   refine Br.no ?_
   conv => whnf
   refine Br.no ?_
   conv => whnf
   cases h; exact ⟨rfl, rfl⟩
  conv => whnf
  refine Br.no ?_
  conv => whnf
  refine Br.no ?_
  conv => whnf
  refine Br.no ?_
  conv => whnf
  refine Br.no ?_
  conv => whnf
  refine Br.no ?_
  conv => whnf
  refine Br.no ?_
  conv => whnf
  refine Br.no ?_
  conv => whnf
  refine Br.no ?_
  conv => whnf
  refine Br.no ?_
  conv => whnf
  refine Br.no ?_
  conv => whnf
  refine Br.no ?_
  conv => whnf
  refine Br.no ?_
  conv => whnf
  cases h; exact ⟨rfl, rfl⟩
 rintro ⟨q10_26, q10_46⟩ h
 try dsimp only at h
 conv => whnf
 refine Br.ob h (fun p11 h => ?_) (fun p11 h => ?_)
 ·conv => whnf
  refine Cells.lit rfl rfl ?_
  conv => whnf
  refine CallQ.o (Am) (by first | rfl | simp only [Aa, V.fz, fzL, V.up, upL, Ab, Ac, Ad, slr, List.cons_append, List.nil_append] | simp [Aa, V.fz, fzL, V.up, upL, Ab, Ac, Ad, slr]) h (fun r h => Ol h) (fun r12 h => ?_)
  conv => whnf
  refine SetKids.lit rfl ?_
  conv => whnf
  refine Cells.lit rfl rfl ?_
  conv => whnf
  refine Cells.lit rfl rfl ?_
  conv => whnf
  refine Kid.lit rfl rfl ?_
  conv => whnf
  refine Len.map ?_
  conv => whnf
  refine LendP.io Ae (rP true (Ak false)) (by first | rfl | simp only [Aa, V.fz, fzL, V.up, upL, Ab, Ac, Ad, slr, List.cons_append, List.nil_append] | simp [Aa, V.fz, fzL, V.up, upL, Ab, Ac, Ad, slr]) (fun _ => rfl) (fun _ => ⟨rfl, rfl⟩) (fun _ => rfl) h (fun r h => Aw h) (fun r13 u14 h => ?_)
  conv => whnf
  refine Kid.lit rfl rfl ?_
  conv => whnf
  refine Len.map ?_
  conv => whnf
  refine Ask.o h fun p15 h => ?_
  conv => whnf
  refine Kid.lit rfl rfl ?_
  conv => whnf
  refine Cells.one (fun _ => ⟨rfl, rfl⟩) (by first | omega | (simp [Bh] at * <;> omega)) ?_
  conv => whnf
  refine CallP.o (slr true 1 Ae) (by first | rfl | simp only [Aa, V.fz, fzL, V.up, upL, Ab, Ac, Ad, slr, List.cons_append, List.nil_append] | simp [Aa, V.fz, fzL, V.up, upL, Ab, Ac, Ad, slr]) h (fun r h => Aa5 h) (fun r16 h => ?_)
  conv => whnf
  refine SetKids.lit rfl ?_
  conv => whnf
  cases h; exact ⟨(by first | rfl | simp only [Ag, Aa, V.fz, fzL, V.up, upL, Ab, Ac, Ad, slr] | simp [Ag, Aa, V.fz, fzL, V.up, upL, Ab, Ac, Ad, slr]), (by first | rfl | simp only [Ag, Aa, V.fz, fzL, V.up, upL, Ab, Ac, Ad, slr] | simp [Ag, Aa, V.fz, fzL, V.up, upL, Ab, Ac, Ad, slr])⟩
 conv => whnf
 refine Cells.lit rfl rfl ?_
 conv => whnf
 refine CallQ.io (Ai true) (rP true (Ak false)) (by first | rfl | simp only [Aa, V.fz, fzL, V.up, upL, Ab, Ac, Ad, slr, List.cons_append, List.nil_append] | simp [Aa, V.fz, fzL, V.up, upL, Ab, Ac, Ad, slr]) rfl (fun _ => rfl) (fun _ => ⟨rfl, rfl⟩) rfl h (fun r h => G4 h) (fun r17 u18 h => ?_)
 conv => whnf
 refine SetKids.lit rfl ?_
 conv => whnf
 cases h; exact ⟨(by first | rfl | simp only [Ag, Aa, V.fz, fzL, V.up, upL, Ab, Ac, Ad, slr] | simp [Ag, Aa, V.fz, fzL, V.up, upL, Ab, Ac, Ad, slr]), (by first | rfl | simp only [Ag, Aa, V.fz, fzL, V.up, upL, Ab, Ac, Ad, slr] | simp [Ag, Aa, V.fz, fzL, V.up, upL, Ab, Ac, Ad, slr])⟩
noncomputable def C2 (code0 : (List Int)) : Option (SAlgebra × SOp) :=
 (Et ({ code := code0, at_ := (0 : Int), seed := (0 : Int) })).bind fun (r1, u2) =>
 (Ef (u2) (r1)).bind fun (r3, _u4) =>
 some (r1, r3)
theorem Q4 {code0 : (List Int)} {v : (SAlgebra × SOp)} (h : C2 code0 = some v) : Ret Try.prog Ge [(slr false 1 (V.int IntKind.u8)) code0] ((fun r => V.tup [(Al false) r.1, (Ai false) r.2]) v) := by
 refine Abj Q3 (Nat.le_of_ble_eq_true rfl) ?_
 unfold C2 at h
 conv => whnf
 refine CallQ.io (Al true) (rP true (Ak false)) (by first | rfl | simp only [Aa, V.fz, fzL, V.up, upL, Ab, Ac, Ad, slr, List.cons_append, List.nil_append] | simp [Aa, V.fz, fzL, V.up, upL, Ab, Ac, Ad, slr]) rfl (fun _ => rfl) (fun _ => ⟨rfl, rfl⟩) rfl h (fun r h => Wp h) (fun r1 u2 h => ?_)
 conv => whnf
 refine SetKids.lit rfl ?_
 conv => whnf
 refine FrzQ.d (V.ptr true (V.agg [V.int IntKind.i64 r1.Size, V.sl false (2 : Nat) (List.map (Ai false) r1.Ops)])) (by first | (simp only [V.fzAt, M1]; done) | exact Eq.trans (b := V.ptr true (V.agg [V.int IntKind.i64 r1.Size, (V.sl true (2 : Nat) (List.map (Ai true) r1.Ops)).fz])) rfl (by simp only [Ac])) ?_
 conv => whnf
 refine Cells.lit rfl rfl ?_
 conv => whnf
 refine Cells.lit rfl rfl ?_
 conv => whnf
 refine LendP.io (Ai true) (rP true (Ak false)) (by first | rfl | simp only [Aa, V.fz, fzL, V.up, upL, Ab, Ac, Ad, slr, List.cons_append, List.nil_append] | simp [Aa, V.fz, fzL, V.up, upL, Ab, Ac, Ad, slr]) (fun _ => rfl) (fun _ => ⟨rfl, rfl⟩) (fun _ => rfl) h (fun r h => Wb h) (fun r3 u4 h => ?_)
 conv => whnf
 refine SetKids.lit rfl ?_
 conv => whnf
 refine SetKids.lit rfl ?_
 conv => whnf
 cases h; exact (by first | rfl | simp only [Ag, V.fz, fzL, V.up, upL, Ab, slr] | simp [Ag, Aa, V.fz, fzL, V.up, upL, Ab, Ac, Ad, slr])
end Go.Proofs.Ytoaojijoefljaaa.Ax
