/-
 What the functions compute, as functions on plain data, and that the program does compute it; written by program.
-/
import Derived.Test.YtidaaijecmkndaaCode
import Derived.Test.YtidaaijecmkndaaG7
import Derived.Test.YtidaaijecmkndaaG10
namespace Go.Proofs.Ytidaaijecmkndaa.Ax
open Go
set_option maxRecDepth 100000
set_option maxHeartbeats 4000000
noncomputable def D8 (code0 : (List Int)) : Option (SAlgebra × (List Int) × (List Int)) :=
 (Cp ({ code := code0, at_ := (0 : Int), seed := (0 : Int) })).bind fun (r1, u2) =>
 (Dy (u2) (r1)).bind fun (r3, u4) =>
 (Dy (u4) (r1)).bind fun (r5, _u6) =>
 some (r1, r3, r5)
theorem Vj {code0 : (List Int)} {v : (SAlgebra × (List Int) × (List Int))} (h : D8 code0 = some v) : Ret Try.prog Ig [(slr false 1 (V.int IntKind.u8)) code0] ((fun r => V.tup [(Ah false) r.1, (slr false 1 Af) r.2.1, (slr false 1 Af) r.2.2]) v) := by
 refine Yp Vk (Nat.le_of_ble_eq_true rfl) ?_
 unfold D8 at h
 conv => whnf
 refine CallQ.io (Ah true) (rP true (Aj false)) (by first | rfl | simp only [Aa, V.fz, fzL, V.up, upL, Ab, Ac, Ad, slr, List.cons_append, List.nil_append] | simp [Aa, V.fz, fzL, V.up, upL, Ab, Ac, Ad, slr]) rfl (fun _ => rfl) (fun _ => ⟨rfl, rfl⟩) rfl h (fun r h => Ll h) (fun r1 u2 h => ?_)
 conv => whnf
 refine SetKids.lit rfl ?_
 conv => whnf
 refine FrzQ.d (V.ptr true (V.agg [V.int IntKind.i64 r1.Size, V.sl false (2 : Nat) (List.map (A4 false) r1.Ops)])) (by first | (simp only [V.fzAt, I9]; done) | exact Eq.trans (b := V.ptr true (V.agg [V.int IntKind.i64 r1.Size, (V.sl true (2 : Nat) (List.map (A4 true) r1.Ops)).fz])) rfl (by simp only [Ac])) ?_
 conv => whnf
 refine Two.mk ⟨?_, ?_⟩
 ·conv => whnf
  refine SameQ.mk ⟨rfl, ?_⟩
  conv => whnf
  refine SameQ.mk ⟨rfl, ?_⟩
  conv => whnf
  refine Cells.lit rfl rfl ?_
  conv => whnf
  refine Two.mk ⟨?_, ?_⟩
  ·conv => whnf
   refine SameQ.mk ⟨rfl, ?_⟩
   conv => whnf
   refine SameQ.mk ⟨rfl, ?_⟩
   conv => whnf
   refine Cells.lit rfl rfl ?_
   conv => whnf
   refine Two.mk ⟨?_, ?_⟩
   ·conv => whnf
    refine SameQ.mk ⟨rfl, ?_⟩
    conv => whnf
    refine SameQ.mk ⟨rfl, ?_⟩
    conv => whnf
    refine CallQ.io (slr false 1 Af) (rP true (Aj false)) (by first | rfl | simp only [Aa, V.fz, fzL, V.up, upL, Ab, Ac, Ad, slr, List.cons_append, List.nil_append] | simp [Aa, V.fz, fzL, V.up, upL, Ab, Ac, Ad, slr]) rfl (fun _ => rfl) (fun _ => ⟨rfl, rfl⟩) rfl h (fun r h => Al h) (fun r3 u4 h => ?_)
    conv => whnf
    refine SameQ.mk ⟨rfl, ?_⟩
    conv => whnf
    refine Cells.lit rfl rfl ?_
    conv => whnf
    refine SameQ.mk ⟨rfl, ?_⟩
    conv => whnf
    refine CallQ.io (slr false 1 Af) (rP true (Aj false)) (by first | rfl | simp only [Aa, V.fz, fzL, V.up, upL, Ab, Ac, Ad, slr, List.cons_append, List.nil_append] | simp [Aa, V.fz, fzL, V.up, upL, Ab, Ac, Ad, slr]) rfl (fun _ => rfl) (fun _ => ⟨rfl, rfl⟩) rfl h (fun r h => Al h) (fun r5 u6 h => ?_)
    conv => whnf
    refine SetKids.lit rfl ?_
    conv => whnf
    cases h; exact (by first | rfl | simp only [Ag, Aa, V.fz, fzL, V.up, upL, Ab, Ac, Ad, slr] | simp [Ag, Aa, V.fz, fzL, V.up, upL, Ab, Ac, Ad, slr])
   conv => whnf
   refine SameQ.mk ⟨rfl, ?_⟩
   conv => whnf
   refine SameQ.mk ⟨rfl, ?_⟩
   conv => whnf
   refine Cells.lit rfl rfl ?_
   conv => whnf
   refine SameQ.mk ⟨rfl, ?_⟩
   conv => whnf
   refine SameQ.mk ⟨rfl, ?_⟩
   conv => whnf
   refine CallQ.io (slr false 1 Af) (rP true (Aj false)) (by first | rfl | simp only [Aa, V.fz, fzL, V.up, upL, Ab, Ac, Ad, slr, List.cons_append, List.nil_append] | simp [Aa, V.fz, fzL, V.up, upL, Ab, Ac, Ad, slr]) rfl (fun _ => rfl) (fun _ => ⟨rfl, rfl⟩) rfl h (fun r h => Al h) (fun r7 u8 h => ?_)
   conv => whnf
   refine SameQ.mk ⟨rfl, ?_⟩
   conv => whnf
   refine CallQ.io (slr false 1 Af) (rP true (Aj false)) (by first | rfl | simp only [Aa, V.fz, fzL, V.up, upL, Ab, Ac, Ad, slr, List.cons_append, List.nil_append] | simp [Aa, V.fz, fzL, V.up, upL, Ab, Ac, Ad, slr]) rfl (fun _ => rfl) (fun _ => ⟨rfl, rfl⟩) rfl h (fun r h => Al h) (fun r9 u10 h => ?_)
   conv => whnf
   refine SetKids.lit rfl ?_
   conv => whnf
   cases h; exact (by first | rfl | simp only [Ag, Aa, V.fz, fzL, V.up, upL, Ab, Ac, Ad, slr] | simp [Ag, Aa, V.fz, fzL, V.up, upL, Ab, Ac, Ad, slr])
  conv => whnf
  refine SameQ.mk ⟨rfl, ?_⟩
  conv => whnf
  refine SameQ.mk ⟨rfl, ?_⟩
  conv => whnf
  refine Cells.lit rfl rfl ?_
  conv => whnf
  refine SameQ.mk ⟨rfl, ?_⟩
  conv => whnf
  refine SameQ.mk ⟨rfl, ?_⟩
  conv => whnf
  refine Cells.lit rfl rfl ?_
  conv => whnf
  refine SameQ.mk ⟨rfl, ?_⟩
  conv => whnf
  refine SameQ.mk ⟨rfl, ?_⟩
  conv => whnf
  refine CallQ.io (slr false 1 Af) (rP true (Aj false)) (by first | rfl | simp only [Aa, V.fz, fzL, V.up, upL, Ab, Ac, Ad, slr, List.cons_append, List.nil_append] | simp [Aa, V.fz, fzL, V.up, upL, Ab, Ac, Ad, slr]) rfl (fun _ => rfl) (fun _ => ⟨rfl, rfl⟩) rfl h (fun r h => Al h) (fun r11 u12 h => ?_)
  conv => whnf
  refine SameQ.mk ⟨rfl, ?_⟩
  conv => whnf
  refine CallQ.io (slr false 1 Af) (rP true (Aj false)) (by first | rfl | simp only [Aa, V.fz, fzL, V.up, upL, Ab, Ac, Ad, slr, List.cons_append, List.nil_append] | simp [Aa, V.fz, fzL, V.up, upL, Ab, Ac, Ad, slr]) rfl (fun _ => rfl) (fun _ => ⟨rfl, rfl⟩) rfl h (fun r h => Al h) (fun r13 u14 h => ?_)
  conv => whnf
  refine SetKids.lit rfl ?_
  conv => whnf
  cases h; exact (by first | rfl | simp only [Ag, Aa, V.fz, fzL, V.up, upL, Ab, Ac, Ad, slr] | simp [Ag, Aa, V.fz, fzL, V.up, upL, Ab, Ac, Ad, slr])
 conv => whnf
 refine Two.mk ⟨?_, ?_⟩
 ·conv => whnf
  refine SameQ.mk ⟨rfl, ?_⟩
  conv => whnf
  refine SameQ.mk ⟨rfl, ?_⟩
  conv => whnf
  refine Cells.lit rfl rfl ?_
  conv => whnf
  refine Two.mk ⟨?_, ?_⟩
  ·conv => whnf
   refine SameQ.mk ⟨rfl, ?_⟩
   conv => whnf
   refine SameQ.mk ⟨rfl, ?_⟩
   conv => whnf
   refine Cells.lit rfl rfl ?_
   conv => whnf
   refine Two.mk ⟨?_, ?_⟩
   ·conv => whnf
    refine SameQ.mk ⟨rfl, ?_⟩
    conv => whnf
    refine SameQ.mk ⟨rfl, ?_⟩
    conv => whnf
    refine CallQ.io (slr false 1 Af) (rP true (Aj false)) (by first | rfl | simp only [Aa, V.fz, fzL, V.up, upL, Ab, Ac, Ad, slr, List.cons_append, List.nil_append] | simp [Aa, V.fz, fzL, V.up, upL, Ab, Ac, Ad, slr]) rfl (fun _ => rfl) (fun _ => ⟨rfl, rfl⟩) rfl h (fun r h => Al h) (fun r15 u16 h => ?_)
    conv => whnf
    refine SameQ.mk ⟨rfl, ?_⟩
    conv => whnf
    refine Cells.lit rfl rfl ?_
    conv => whnf
    refine SameQ.mk ⟨rfl, ?_⟩
    conv => whnf
    refine CallQ.io (slr false 1 Af) (rP true (Aj false)) (by first | rfl | simp only [Aa, V.fz, fzL, V.up, upL, Ab, Ac, Ad, slr, List.cons_append, List.nil_append] | simp [Aa, V.fz, fzL, V.up, upL, Ab, Ac, Ad, slr]) rfl (fun _ => rfl) (fun _ => ⟨rfl, rfl⟩) rfl h (fun r h => Al h) (fun r17 u18 h => ?_)
    conv => whnf
    refine SetKids.lit rfl ?_
    conv => whnf
    cases h; exact (by first | rfl | simp only [Ag, Aa, V.fz, fzL, V.up, upL, Ab, Ac, Ad, slr] | simp [Ag, Aa, V.fz, fzL, V.up, upL, Ab, Ac, Ad, slr])
   conv => whnf
   refine SameQ.mk ⟨rfl, ?_⟩
   conv => whnf
   refine SameQ.mk ⟨rfl, ?_⟩
   conv => whnf
   refine Cells.lit rfl rfl ?_
   conv => whnf
   refine SameQ.mk ⟨rfl, ?_⟩
   conv => whnf
   refine SameQ.mk ⟨rfl, ?_⟩
   conv => whnf
   refine CallQ.io (slr false 1 Af) (rP true (Aj false)) (by first | rfl | simp only [Aa, V.fz, fzL, V.up, upL, Ab, Ac, Ad, slr, List.cons_append, List.nil_append] | simp [Aa, V.fz, fzL, V.up, upL, Ab, Ac, Ad, slr]) rfl (fun _ => rfl) (fun _ => ⟨rfl, rfl⟩) rfl h (fun r h => Al h) (fun r19 u20 h => ?_)
   conv => whnf
   refine SameQ.mk ⟨rfl, ?_⟩
   conv => whnf
   refine CallQ.io (slr false 1 Af) (rP true (Aj false)) (by first | rfl | simp only [Aa, V.fz, fzL, V.up, upL, Ab, Ac, Ad, slr, List.cons_append, List.nil_append] | simp [Aa, V.fz, fzL, V.up, upL, Ab, Ac, Ad, slr]) rfl (fun _ => rfl) (fun _ => ⟨rfl, rfl⟩) rfl h (fun r h => Al h) (fun r21 u22 h => ?_)
   conv => whnf
   refine SetKids.lit rfl ?_
   conv => whnf
   cases h; exact (by first | rfl | simp only [Ag, Aa, V.fz, fzL, V.up, upL, Ab, Ac, Ad, slr] | simp [Ag, Aa, V.fz, fzL, V.up, upL, Ab, Ac, Ad, slr])
  conv => whnf
  refine Two.mk ⟨?_, ?_⟩
  ·conv => whnf
   refine SameQ.mk ⟨rfl, ?_⟩
   conv => whnf
   refine SameQ.mk ⟨rfl, ?_⟩
   conv => whnf
   refine CallQ.io (slr false 1 Af) (rP true (Aj false)) (by first | rfl | simp only [Aa, V.fz, fzL, V.up, upL, Ab, Ac, Ad, slr, List.cons_append, List.nil_append] | simp [Aa, V.fz, fzL, V.up, upL, Ab, Ac, Ad, slr]) rfl (fun _ => rfl) (fun _ => ⟨rfl, rfl⟩) rfl h (fun r h => Al h) (fun r23 u24 h => ?_)
   conv => whnf
   refine Two.mk ⟨?_, ?_⟩
   ·conv => whnf
    refine SameQ.mk ⟨rfl, ?_⟩
    conv => whnf
    refine Cells.lit rfl rfl ?_
    conv => whnf
    refine SameQ.mk ⟨rfl, ?_⟩
    conv => whnf
    refine Cells.lit rfl rfl ?_
    conv => whnf
    refine SameQ.mk ⟨rfl, ?_⟩
    conv => whnf
    refine CallQ.io (slr false 1 Af) (rP true (Aj false)) (by first | rfl | simp only [Aa, V.fz, fzL, V.up, upL, Ab, Ac, Ad, slr, List.cons_append, List.nil_append] | simp [Aa, V.fz, fzL, V.up, upL, Ab, Ac, Ad, slr]) rfl (fun _ => rfl) (fun _ => ⟨rfl, rfl⟩) rfl h (fun r h => Al h) (fun r25 u26 h => ?_)
    conv => whnf
    refine SetKids.lit rfl ?_
    conv => whnf
    cases h; exact (by first | rfl | simp only [Ag, Aa, V.fz, fzL, V.up, upL, Ab, Ac, Ad, slr] | simp [Ag, Aa, V.fz, fzL, V.up, upL, Ab, Ac, Ad, slr])
   conv => whnf
   refine SameQ.mk ⟨rfl, ?_⟩
   conv => whnf
   refine Cells.lit rfl rfl ?_
   conv => whnf
   refine Two.mk ⟨?_, ?_⟩
   ·conv => whnf
    refine SameQ.mk ⟨rfl, ?_⟩
    conv => whnf
    refine Cells.lit rfl rfl ?_
    conv => whnf
    refine SameQ.mk ⟨rfl, ?_⟩
    conv => whnf
    refine CallQ.io (slr false 1 Af) (rP true (Aj false)) (by first | rfl | simp only [Aa, V.fz, fzL, V.up, upL, Ab, Ac, Ad, slr, List.cons_append, List.nil_append] | simp [Aa, V.fz, fzL, V.up, upL, Ab, Ac, Ad, slr]) rfl (fun _ => rfl) (fun _ => ⟨rfl, rfl⟩) rfl h (fun r h => Al h) (fun r27 u28 h => ?_)
    conv => whnf
    refine SetKids.lit rfl ?_
    conv => whnf
    cases h; exact (by first | rfl | simp only [Ag, Aa, V.fz, fzL, V.up, upL, Ab, Ac, Ad, slr] | simp [Ag, Aa, V.fz, fzL, V.up, upL, Ab, Ac, Ad, slr])
   conv => whnf
   refine SameQ.mk ⟨rfl, ?_⟩
   conv => whnf
   refine CallQ.io (slr false 1 Af) (rP true (Aj false)) (by first | rfl | simp only [Aa, V.fz, fzL, V.up, upL, Ab, Ac, Ad, slr, List.cons_append, List.nil_append] | simp [Aa, V.fz, fzL, V.up, upL, Ab, Ac, Ad, slr]) rfl (fun _ => rfl) (fun _ => ⟨rfl, rfl⟩) rfl h (fun r h => Al h) (fun r29 u30 h => ?_)
   conv => whnf
   refine Cells.lit rfl rfl ?_
   conv => whnf
   refine SetKids.lit rfl ?_
   conv => whnf
   cases h; exact (by first | rfl | simp only [Ag, Aa, V.fz, fzL, V.up, upL, Ab, Ac, Ad, slr] | simp [Ag, Aa, V.fz, fzL, V.up, upL, Ab, Ac, Ad, slr])
  conv => whnf
  refine SameQ.mk ⟨rfl, ?_⟩
  conv => whnf
  refine SameQ.mk ⟨rfl, ?_⟩
  conv => whnf
  refine Cells.lit rfl rfl ?_
  conv => whnf
  refine Two.mk ⟨?_, ?_⟩
  ·conv => whnf
   refine SameQ.mk ⟨rfl, ?_⟩
   conv => whnf
   refine SameQ.mk ⟨rfl, ?_⟩
   conv => whnf
   refine Cells.lit rfl rfl ?_
   conv => whnf
   refine SameQ.mk ⟨rfl, ?_⟩
   conv => whnf
   refine SameQ.mk ⟨rfl, ?_⟩
   conv => whnf
   refine CallQ.io (slr false 1 Af) (rP true (Aj false)) (by first | rfl | simp only [Aa, V.fz, fzL, V.up, upL, Ab, Ac, Ad, slr, List.cons_append, List.nil_append] | simp [Aa, V.fz, fzL, V.up, upL, Ab, Ac, Ad, slr]) rfl (fun _ => rfl) (fun _ => ⟨rfl, rfl⟩) rfl h (fun r h => Al h) (fun r31 u32 h => ?_)
   conv => whnf
   refine SameQ.mk ⟨rfl, ?_⟩
   conv => whnf
   refine CallQ.io (slr false 1 Af) (rP true (Aj false)) (by first | rfl | simp only [Aa, V.fz, fzL, V.up, upL, Ab, Ac, Ad, slr, List.cons_append, List.nil_append] | simp [Aa, V.fz, fzL, V.up, upL, Ab, Ac, Ad, slr]) rfl (fun _ => rfl) (fun _ => ⟨rfl, rfl⟩) rfl h (fun r h => Al h) (fun r33 u34 h => ?_)
   conv => whnf
   refine SetKids.lit rfl ?_
   conv => whnf
   cases h; exact (by first | rfl | simp only [Ag, Aa, V.fz, fzL, V.up, upL, Ab, Ac, Ad, slr] | simp [Ag, Aa, V.fz, fzL, V.up, upL, Ab, Ac, Ad, slr])
  conv => whnf
  refine SameQ.mk ⟨rfl, ?_⟩
  conv => whnf
  refine SameQ.mk ⟨rfl, ?_⟩
  conv => whnf
  refine CallQ.io (slr false 1 Af) (rP true (Aj false)) (by first | rfl | simp only [Aa, V.fz, fzL, V.up, upL, Ab, Ac, Ad, slr, List.cons_append, List.nil_append] | simp [Aa, V.fz, fzL, V.up, upL, Ab, Ac, Ad, slr]) rfl (fun _ => rfl) (fun _ => ⟨rfl, rfl⟩) rfl h (fun r h => Al h) (fun r35 u36 h => ?_)
  conv => whnf
  refine Two.mk ⟨?_, ?_⟩
  ·conv => whnf
   refine SameQ.mk ⟨rfl, ?_⟩
   conv => whnf
   refine Cells.lit rfl rfl ?_
   conv => whnf
   refine SameQ.mk ⟨rfl, ?_⟩
   conv => whnf
   refine CallQ.io (slr false 1 Af) (rP true (Aj false)) (by first | rfl | simp only [Aa, V.fz, fzL, V.up, upL, Ab, Ac, Ad, slr, List.cons_append, List.nil_append] | simp [Aa, V.fz, fzL, V.up, upL, Ab, Ac, Ad, slr]) rfl (fun _ => rfl) (fun _ => ⟨rfl, rfl⟩) rfl h (fun r h => Al h) (fun r37 u38 h => ?_)
   conv => whnf
   refine SetKids.lit rfl ?_
   conv => whnf
   cases h; exact (by first | rfl | simp only [Ag, Aa, V.fz, fzL, V.up, upL, Ab, Ac, Ad, slr] | simp [Ag, Aa, V.fz, fzL, V.up, upL, Ab, Ac, Ad, slr])
  conv => whnf
  refine SameQ.mk ⟨rfl, ?_⟩
  conv => whnf
  refine CallQ.io (slr false 1 Af) (rP true (Aj false)) (by first | rfl | simp only [Aa, V.fz, fzL, V.up, upL, Ab, Ac, Ad, slr, List.cons_append, List.nil_append] | simp [Aa, V.fz, fzL, V.up, upL, Ab, Ac, Ad, slr]) rfl (fun _ => rfl) (fun _ => ⟨rfl, rfl⟩) rfl h (fun r h => Al h) (fun r39 u40 h => ?_)
  conv => whnf
  refine Cells.lit rfl rfl ?_
  conv => whnf
  refine SetKids.lit rfl ?_
  conv => whnf
  cases h; exact (by first | rfl | simp only [Ag, Aa, V.fz, fzL, V.up, upL, Ab, Ac, Ad, slr] | simp [Ag, Aa, V.fz, fzL, V.up, upL, Ab, Ac, Ad, slr])
 conv => whnf
 refine SameQ.mk ⟨rfl, ?_⟩
 conv => whnf
 refine SameQ.mk ⟨rfl, ?_⟩
 conv => whnf
 refine Cells.lit rfl rfl ?_
 conv => whnf
 refine Two.mk ⟨?_, ?_⟩
 ·conv => whnf
  refine SameQ.mk ⟨rfl, ?_⟩
  conv => whnf
  refine SameQ.mk ⟨rfl, ?_⟩
  conv => whnf
  refine Cells.lit rfl rfl ?_
  conv => whnf
  refine SameQ.mk ⟨rfl, ?_⟩
  conv => whnf
  refine SameQ.mk ⟨rfl, ?_⟩
  conv => whnf
  refine Cells.lit rfl rfl ?_
  conv => whnf
  refine SameQ.mk ⟨rfl, ?_⟩
  conv => whnf
  refine SameQ.mk ⟨rfl, ?_⟩
  conv => whnf
  refine CallQ.io (slr false 1 Af) (rP true (Aj false)) (by first | rfl | simp only [Aa, V.fz, fzL, V.up, upL, Ab, Ac, Ad, slr, List.cons_append, List.nil_append] | simp [Aa, V.fz, fzL, V.up, upL, Ab, Ac, Ad, slr]) rfl (fun _ => rfl) (fun _ => ⟨rfl, rfl⟩) rfl h (fun r h => Al h) (fun r41 u42 h => ?_)
  conv => whnf
  refine SameQ.mk ⟨rfl, ?_⟩
  conv => whnf
  refine CallQ.io (slr false 1 Af) (rP true (Aj false)) (by first | rfl | simp only [Aa, V.fz, fzL, V.up, upL, Ab, Ac, Ad, slr, List.cons_append, List.nil_append] | simp [Aa, V.fz, fzL, V.up, upL, Ab, Ac, Ad, slr]) rfl (fun _ => rfl) (fun _ => ⟨rfl, rfl⟩) rfl h (fun r h => Al h) (fun r43 u44 h => ?_)
  conv => whnf
  refine SetKids.lit rfl ?_
  conv => whnf
  cases h; exact (by first | rfl | simp only [Ag, Aa, V.fz, fzL, V.up, upL, Ab, Ac, Ad, slr] | simp [Ag, Aa, V.fz, fzL, V.up, upL, Ab, Ac, Ad, slr])
 conv => whnf
 refine SameQ.mk ⟨rfl, ?_⟩
 conv => whnf
 refine SameQ.mk ⟨rfl, ?_⟩
 conv => whnf
 refine Cells.lit rfl rfl ?_
 conv => whnf
 refine Two.mk ⟨?_, ?_⟩
 ·conv => whnf
  refine SameQ.mk ⟨rfl, ?_⟩
  conv => whnf
  refine SameQ.mk ⟨rfl, ?_⟩
  conv => whnf
  refine Cells.lit rfl rfl ?_
  conv => whnf
  refine SameQ.mk ⟨rfl, ?_⟩
  conv => whnf
  refine SameQ.mk ⟨rfl, ?_⟩
  conv => whnf
  refine CallQ.io (slr false 1 Af) (rP true (Aj false)) (by first | rfl | simp only [Aa, V.fz, fzL, V.up, upL, Ab, Ac, Ad, slr, List.cons_append, List.nil_append] | simp [Aa, V.fz, fzL, V.up, upL, Ab, Ac, Ad, slr]) rfl (fun _ => rfl) (fun _ => ⟨rfl, rfl⟩) rfl h (fun r h => Al h) (fun r45 u46 h => ?_)
  conv => whnf
  refine SameQ.mk ⟨rfl, ?_⟩
  conv => whnf
  refine CallQ.io (slr false 1 Af) (rP true (Aj false)) (by first | rfl | simp only [Aa, V.fz, fzL, V.up, upL, Ab, Ac, Ad, slr, List.cons_append, List.nil_append] | simp [Aa, V.fz, fzL, V.up, upL, Ab, Ac, Ad, slr]) rfl (fun _ => rfl) (fun _ => ⟨rfl, rfl⟩) rfl h (fun r h => Al h) (fun r47 u48 h => ?_)
  conv => whnf
  refine SetKids.lit rfl ?_
  conv => whnf
  cases h; exact (by first | rfl | simp only [Ag, Aa, V.fz, fzL, V.up, upL, Ab, Ac, Ad, slr] | simp [Ag, Aa, V.fz, fzL, V.up, upL, Ab, Ac, Ad, slr])
 conv => whnf
 refine SameQ.mk ⟨rfl, ?_⟩
 conv => whnf
 refine SameQ.mk ⟨rfl, ?_⟩
 conv => whnf
 refine CallQ.io (slr false 1 Af) (rP true (Aj false)) (by first | rfl | simp only [Aa, V.fz, fzL, V.up, upL, Ab, Ac, Ad, slr, List.cons_append, List.nil_append] | simp [Aa, V.fz, fzL, V.up, upL, Ab, Ac, Ad, slr]) rfl (fun _ => rfl) (fun _ => ⟨rfl, rfl⟩) rfl h (fun r h => Al h) (fun r49 u50 h => ?_)
 conv => whnf
 refine Two.mk ⟨?_, ?_⟩
 ·conv => whnf
  refine SameQ.mk ⟨rfl, ?_⟩
  conv => whnf
  refine Cells.lit rfl rfl ?_
  conv => whnf
  refine SameQ.mk ⟨rfl, ?_⟩
  conv => whnf
  refine CallQ.io (slr false 1 Af) (rP true (Aj false)) (by first | rfl | simp only [Aa, V.fz, fzL, V.up, upL, Ab, Ac, Ad, slr, List.cons_append, List.nil_append] | simp [Aa, V.fz, fzL, V.up, upL, Ab, Ac, Ad, slr]) rfl (fun _ => rfl) (fun _ => ⟨rfl, rfl⟩) rfl h (fun r h => Al h) (fun r51 u52 h => ?_)
  conv => whnf
  refine SetKids.lit rfl ?_
  conv => whnf
  cases h; exact (by first | rfl | simp only [Ag, Aa, V.fz, fzL, V.up, upL, Ab, Ac, Ad, slr] | simp [Ag, Aa, V.fz, fzL, V.up, upL, Ab, Ac, Ad, slr])
 conv => whnf
 refine SameQ.mk ⟨rfl, ?_⟩
 conv => whnf
 refine CallQ.io (slr false 1 Af) (rP true (Aj false)) (by first | rfl | simp only [Aa, V.fz, fzL, V.up, upL, Ab, Ac, Ad, slr, List.cons_append, List.nil_append] | simp [Aa, V.fz, fzL, V.up, upL, Ab, Ac, Ad, slr]) rfl (fun _ => rfl) (fun _ => ⟨rfl, rfl⟩) rfl h (fun r h => Al h) (fun r53 u54 h => ?_)
 conv => whnf
 refine Cells.lit rfl rfl ?_
 conv => whnf
 refine SetKids.lit rfl ?_
 conv => whnf
 cases h; exact (by first | rfl | simp only [Ag, Aa, V.fz, fzL, V.up, upL, Ab, Ac, Ad, slr] | simp [Ag, Aa, V.fz, fzL, V.up, upL, Ab, Ac, Ad, slr])
end Go.Proofs.Ytidaaijecmkndaa.Ax
