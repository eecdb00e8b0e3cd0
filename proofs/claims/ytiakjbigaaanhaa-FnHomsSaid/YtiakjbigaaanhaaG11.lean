/-
 What the functions compute, as functions on plain data, and that the program does compute it; written by program.
-/
import Derived.Test.YtiakjbigaaanhaaCode
import Derived.Test.YtiakjbigaaanhaaG1
import Derived.Test.YtiakjbigaaanhaaG2
import Derived.Test.YtiakjbigaaanhaaG3
import Derived.Test.YtiakjbigaaanhaaG4
import Derived.Test.YtiakjbigaaanhaaG5
import Derived.Test.YtiakjbigaaanhaaG6
import Derived.Test.YtiakjbigaaanhaaG7
import Derived.Test.YtiakjbigaaanhaaG9
namespace Go.Proofs.Ytiakjbigaaanhaa.Ax
open Go
set_option maxRecDepth 100000
set_option maxHeartbeats 4000000
noncomputable def Du (a0 : SAlgebra) (b0 : SAlgebra) : (Int × (List Int) × Sl1Cur) → Option ((Int × (List Int) × Sl1Cur) ⊕ ((List Int) × Sl1Cur)) := fun (x8, x7, x80) =>
 if x8 < a0.Size then
 (Ak (x80) (b0.Size)).bind fun (r7, u8) =>
 ask ((x7).length + ([r7]).length ≤ LIM) <|
 ask (InI (x8 + (1 : Int))) <|
 some (.inl (x8 + (1 : Int), x7 ++ [r7], u8))
 else
 some (.inr (x7, x80))
def Hm (a0 : SAlgebra) (b0 : SAlgebra) : (Int × (List Int) × Sl1Cur) → St := fun s => [(8, A.val (Ag s.1)), (7, A.val ((slr true 1 Ag) s.2.1)), (5, A.val ((rP true (Ae false)) (b0))), (4, A.val ((rP true (Ae false)) (a0))), (0, A.ref 80 []), (80, A.val ((rP true (Aj false)) s.2.2))]
def Mw (a0 : SAlgebra) (b0 : SAlgebra) : ((List Int) × Sl1Cur) → Tgt
 | s => ((Ex.exit 0), [7, 5, 4, 0, 80], [(7, A.val ((slr true 1 Ag) s.1)), (5, A.val ((rP true (Ae false)) (b0))), (4, A.val ((rP true (Ae false)) (a0))), (0, A.ref 80 []), (80, A.val ((rP true (Aj false)) s.2))])
theorem Vd {a0 : SAlgebra} {b0 : SAlgebra} (s : (Int × (List Int) × Sl1Cur)) (o : (Int × (List Int) × Sl1Cur) ⊕ ((List Int) × Sl1Cur)) (h : Du a0 b0 s = some o) : vc Try.prog Me (Cc [8, 7, 5, 4, 0, 80] (Hm a0 b0) (Mw a0 b0) o) (Hm a0 b0 s) := by
 obtain ⟨x8, x7, x80⟩ := s
 unfold Du at h
 try dsimp only at h
 conv => whnf
 refine Cells.lit rfl rfl ?_
 conv => whnf
 refine Br.od h (fun p6 h => ?_) (fun p6 h => ?_)
 ·conv => whnf
  refine Cells.lit rfl rfl ?_
  conv => whnf
  refine CallQ.io Ag (rP true (Aj false)) (by first | rfl | simp only [Aa, V.fz, fzL, V.up, upL, Ab, Ac, Ad, slr, List.cons_append, List.nil_append] | simp [Aa, V.fz, fzL, V.up, upL, Ab, Ac, Ad, slr]) rfl (fun _ => rfl) (fun _ => ⟨rfl, rfl⟩) rfl h (fun r h => Ar h) (fun r7 u8 h => ?_)
  conv => whnf
  refine BslQ.o Ag [r7] (by exact fun _ => ⟨rfl, rfl⟩) (by first | rfl | simp only [Aa, V.fz, fzL, V.up, upL, Ab, Ac, Ad, slr, List.cons_append, List.nil_append] | simp [Aa, V.fz, fzL, V.up, upL, Ab, Ac, Ad, slr]) ?_
  conv => whnf
  refine NoOwn.o (fun _ => rfl) ?_
  conv => whnf
  refine AppQ.o (m := 1) Ag (by exact fun _ => ⟨rfl, rfl⟩) (x7) ([r7]) (by first | rfl | simp only [Aa, V.fz, fzL, V.up, upL, Ab, Ac, Ad, slr, List.cons_append, List.nil_append] | simp [Aa, V.fz, fzL, V.up, upL, Ab, Ac, Ad, slr]) (by first | rfl | simp only [Aa, V.fz, fzL, V.up, upL, Ab, Ac, Ad, slr, List.cons_append, List.nil_append] | simp [Aa, V.fz, fzL, V.up, upL, Ab, Ac, Ad, slr]) h fun h => ?_
  conv => whnf
  refine Ask.o h fun p9 h => ?_
  conv => whnf
  cases h; exact ⟨rfl, rfl⟩
 conv => whnf
 cases h; exact ⟨rfl, rfl⟩
noncomputable def B3 (c0 : Sl1Cur) (a0 : SAlgebra) (b0 : SAlgebra) : Option ((List Int) × Sl1Cur) :=
 (((Cv (a0)).bind fun r1 =>
 if (r1) = true then
 (Cv (b0)).bind fun r3 =>
 if (r3) = true then
 some (.inl ())
 else
 some (.inr ())
 else
 some (.inr ()) : Option (Unit ⊕ Unit))).bind fun t => match t with
 | (.inl _) => ((Am (Du a0 b0) ((0 : Int), Al Int, c0)).bind fun (q10_7, q10_80) =>
 (((((Dq (a0) (b0)).bind fun r11 =>
 if (r11) = true then
 (Bz (q10_80) ((3 : Int))).bind fun (r13, u14) =>
 some (!r13, u14)
 else
 some (false, q10_80) : Option (Bool × Sl1Cur))).bind fun (q15_41, q15_80) =>
 if (q15_41) = true then
 (Do (a0) (b0) (false) (false) ((8 : Int))).bind fun r17 =>
 if (↑r17.fst.length : Int) > (0 : Int) then
 (Ak (q15_80) ((↑r17.fst.length : Int))).bind fun (r19, u20) =>
 ask ((0 : Int) ≤ r19 ∧ r19 < (↑r17.fst.length : Int)) <|
 (Ei (nth r17.fst r19.toNat)).bind fun r22 =>
 some (r22, u20)
 else
 some (q10_7, q15_80)
 else
 some (q10_7, q15_80) : Option ((List Int) × Sl1Cur))).bind fun (q23_7, q23_80) =>
 (Ak (q23_80) ((24 : Int))).bind fun (r24, u25) =>
 if r24 = (0 : Int) then
 ask ((q23_7).length + ([(0 : Int)]).length ≤ LIM) <|
 some (q23_7 ++ [(0 : Int)], u25)
 else
 if r24 = (1 : Int) then
 (Ak (u25) ((↑q23_7.length : Int))).bind fun (r28, u29) =>
 (A7 (u29) ([(-1 : Int), b0.Size, (1099511627776 : Int)])).bind fun (r30, u31) =>
 ask ((0 : Int) ≤ r28 ∧ r28 < (↑q23_7.length : Int)) <|
 some (q23_7.set r28.toNat r30, u31)
 else
 some (q23_7, u25))
 | (.inr _) => (some (Al Int, c0))
theorem Hd {c0 : Sl1Cur} {a0 : SAlgebra} {b0 : SAlgebra} {v : ((List Int) × Sl1Cur)} (h : B3 c0 a0 b0 = some v) : Tu Try.prog Dw [(rP true (Aj false)) c0, (Ae false) a0, (Ae false) b0] ((slr true 1 Ag) v.1) 0 ((rP true (Aj false)) v.2) := by
 refine Qh Y4 (Nat.le_of_ble_eq_true rfl) ?_
 unfold B3 at h
 conv => whnf
 refine BslQ.o Ag (Al Int) (by exact fun _ => ⟨rfl, rfl⟩) (by first | rfl | simp only [Aa, V.fz, fzL, V.up, upL, Ab, Ac, Ad, slr, List.cons_append, List.nil_append] | simp [Aa, V.fz, fzL, V.up, upL, Ab, Ac, Ad, slr]) ?_
 conv => whnf
 refine CutQ.o (fun t : (Unit ⊕ Unit) => match t with | (.inl s) => (Ex.normal, [7, 5, 4, 0, 80], [(7, A.val ((slr true 1 Ag) (Al Int))), (5, A.val ((rP true (Ae false)) (b0))), (4, A.val ((rP true (Ae false)) (a0))), (0, A.ref 80 []), (80, A.val ((rP true (Aj false)) (c0)))]) | (.inr s) => (Ex.ret, [6, 80], [(6, A.val ((slr true 1 Ag) (Al Int))), (80, A.val ((rP true (Aj false)) (c0)))])) h ?_ ?_
 ·intro t h
  conv => whnf
  refine Cells.lit rfl rfl ?_
  conv => whnf
  refine CallQ.o V.bool (by first | rfl | simp only [Aa, V.fz, fzL, V.up, upL, Ab, Ac, Ad, slr, List.cons_append, List.nil_append] | simp [Aa, V.fz, fzL, V.up, upL, Ab, Ac, Ad, slr]) h (fun r h => G1 h) (fun r1 h => ?_)
  conv => whnf
  refine Br.flip ?_
  conv => whnf
  refine Br.ob h (fun p2 h => ?_) (fun p2 h => ?_)
  ·conv => whnf
   refine Cells.lit rfl rfl ?_
   conv => whnf
   refine Br.no ?_
   conv => whnf
   refine CallQ.o V.bool (by first | rfl | simp only [Aa, V.fz, fzL, V.up, upL, Ab, Ac, Ad, slr, List.cons_append, List.nil_append] | simp [Aa, V.fz, fzL, V.up, upL, Ab, Ac, Ad, slr]) h (fun r h => G1 h) (fun r3 h => ?_)
   conv => whnf
   refine Br.no ?_
   conv => whnf
   refine Br.no ?_
   conv => whnf
   refine Br.flip ?_
   conv => whnf
   refine Br.ob h (fun p4 h => ?_) (fun p4 h => ?_)
   ·conv => whnf
    cases h; exact ⟨rfl, rfl⟩
   conv => whnf
   cases h; exact ⟨rfl, rfl⟩
  conv => whnf
  refine Br.yes ?_
  conv => whnf
  refine Br.yes ?_
  conv => whnf
  refine Br.yes ?_
  conv => whnf
  refine Br.yes ?_
  conv => whnf
  cases h; exact ⟨rfl, rfl⟩
 rintro (⟨⟩ | ⟨⟩) h
 ·try dsimp only at h
  conv => whnf
  refine LoopQ.o [8, 7, 5, 4, 0, 80] (Hm a0 b0) (Mw a0 b0) h (fun s o h => Vd s o h) (by first | rfl | simp [restrict, look, Aa, V.fz, fzL, V.up, upL, Ab, Ac, Ad, slr]) (fun _ => rfl) ?_
  rintro ⟨q10_7, q10_80⟩ h
  try dsimp only at h
  conv => whnf
  refine CutQ.o (fun t : ((List Int) × Sl1Cur) => match t with | s => (Ex.normal, [7, 5, 0, 80], [(7, A.val ((slr true 1 Ag) s.1)), (5, A.val ((rP true (Ae false)) (b0))), (0, A.ref 80 []), (80, A.val ((rP true (Aj false)) s.2))])) h ?_ ?_
  ·intro t h
   conv => whnf
   refine CutQ.o (fun t : (Bool × Sl1Cur) => match t with | s => (Ex.normal, [41, 7, 5, 4, 0, 80], [(41, A.val (V.bool s.1)), (7, A.val ((slr true 1 Ag) (q10_7))), (5, A.val ((rP true (Ae false)) (b0))), (4, A.val ((rP true (Ae false)) (a0))), (0, A.ref 80 []), (80, A.val ((rP true (Aj false)) s.2))])) h ?_ ?_
   ·intro t h
    conv => whnf
    refine Cells.lit rfl rfl ?_
    conv => whnf
    refine Cells.lit rfl rfl ?_
    conv => whnf
    refine CallQ.o V.bool (by first | rfl | simp only [Aa, V.fz, fzL, V.up, upL, Ab, Ac, Ad, slr, List.cons_append, List.nil_append] | simp [Aa, V.fz, fzL, V.up, upL, Ab, Ac, Ad, slr]) h (fun r h => Qv h) (fun r11 h => ?_)
    conv => whnf
    refine Br.ob h (fun p12 h => ?_) (fun p12 h => ?_)
    ·conv => whnf
     refine Br.yes ?_
     conv => whnf
     refine CallQ.io V.bool (rP true (Aj false)) (by first | rfl | simp only [Aa, V.fz, fzL, V.up, upL, Ab, Ac, Ad, slr, List.cons_append, List.nil_append] | simp [Aa, V.fz, fzL, V.up, upL, Ab, Ac, Ad, slr]) rfl (fun _ => rfl) (fun _ => ⟨rfl, rfl⟩) rfl h (fun r h => Gb h) (fun r13 u14 h => ?_)
     conv => whnf
     refine Br.yes ?_
     conv => whnf
     refine Br.yes ?_
     conv => whnf
     cases h; exact ⟨rfl, rfl⟩
    conv => whnf
    refine Br.no ?_
    conv => whnf
    refine Br.no ?_
    conv => whnf
    refine Br.no ?_
    conv => whnf
    cases h; exact ⟨rfl, rfl⟩
   rintro ⟨q15_41, q15_80⟩ h
   try dsimp only at h
   conv => whnf
   refine Br.ob h (fun p16 h => ?_) (fun p16 h => ?_)
   ·conv => whnf
    refine Cells.lit rfl rfl ?_
    conv => whnf
    refine Cells.lit rfl rfl ?_
    conv => whnf
    refine CallQ.o (fun r => V.tup [(slr false 1 (slr false 1 Ag)) r.1, V.bool r.2]) (by first | rfl | simp only [Aa, V.fz, fzL, V.up, upL, Ab, Ac, Ad, slr, List.cons_append, List.nil_append] | simp [Aa, V.fz, fzL, V.up, upL, Ab, Ac, Ad, slr]) h (fun r h => Xa h) (fun r17 h => ?_)
    conv => whnf
    refine Len.map ?_
    conv => whnf
    refine Br.od h (fun p18 h => ?_) (fun p18 h => ?_)
    ·conv => whnf
     refine Len.map ?_
     conv => whnf
     refine CallQ.io Ag (rP true (Aj false)) (by first | rfl | simp only [Aa, V.fz, fzL, V.up, upL, Ab, Ac, Ad, slr, List.cons_append, List.nil_append] | simp [Aa, V.fz, fzL, V.up, upL, Ab, Ac, Ad, slr]) rfl (fun _ => rfl) (fun _ => ⟨rfl, rfl⟩) rfl h (fun r h => Ar h) (fun r19 u20 h => ?_)
     conv => whnf
     refine Len.map ?_
     conv => whnf
     refine Ask.o h fun p21 h => ?_
     conv => whnf
     refine Elem.o (by first | omega | (simp [Ap] at *; omega)) ?_
     conv => whnf
     refine CallQ.o (slr true 1 Ag) (by first | rfl | simp only [Aa, V.fz, fzL, V.up, upL, Ab, Ac, Ad, slr, List.cons_append, List.nil_append] | simp [Aa, V.fz, fzL, V.up, upL, Ab, Ac, Ad, slr]) h (fun r h => Nq h) (fun r22 h => ?_)
     conv => whnf
     cases h; exact ⟨rfl, rfl⟩
    conv => whnf
    cases h; exact ⟨rfl, rfl⟩
   conv => whnf
   cases h; exact ⟨rfl, rfl⟩
  rintro ⟨q23_7, q23_80⟩ h
  try dsimp only at h
  conv => whnf
  refine CallQ.io Ag (rP true (Aj false)) (by first | rfl | simp only [Aa, V.fz, fzL, V.up, upL, Ab, Ac, Ad, slr, List.cons_append, List.nil_append] | simp [Aa, V.fz, fzL, V.up, upL, Ab, Ac, Ad, slr]) rfl (fun _ => rfl) (fun _ => ⟨rfl, rfl⟩) rfl h (fun r h => Ar h) (fun r24 u25 h => ?_)
  conv => whnf
  refine Br.oe h (fun p26 h => ?_) (fun p26 h => ?_)
  ·conv => whnf
   refine BslQ.o Ag ([(0 : Int)]) (by exact fun _ => ⟨rfl, rfl⟩) (by first | rfl | simp only [Aa, V.fz, fzL, V.up, upL, Ab, Ac, Ad, slr, List.cons_append, List.nil_append] | simp [Aa, V.fz, fzL, V.up, upL, Ab, Ac, Ad, slr]) ?_
   conv => whnf
   refine NoOwn.o (fun _ => rfl) ?_
   conv => whnf
   refine AppQ.o (m := 1) Ag (by exact fun _ => ⟨rfl, rfl⟩) (q23_7) ([(0 : Int)]) (by first | rfl | simp only [Aa, V.fz, fzL, V.up, upL, Ab, Ac, Ad, slr, List.cons_append, List.nil_append] | simp [Aa, V.fz, fzL, V.up, upL, Ab, Ac, Ad, slr]) (by first | rfl | simp only [Aa, V.fz, fzL, V.up, upL, Ab, Ac, Ad, slr, List.cons_append, List.nil_append] | simp [Aa, V.fz, fzL, V.up, upL, Ab, Ac, Ad, slr]) h fun h => ?_
   conv => whnf
   cases h; exact ⟨(by first | rfl | simp only [Ah, Aa, V.fz, fzL, V.up, upL, Ab, Ac, Ad, slr] | simp [Ah, Aa, V.fz, fzL, V.up, upL, Ab, Ac, Ad, slr]), (by first | rfl | simp only [Ah, Aa, V.fz, fzL, V.up, upL, Ab, Ac, Ad, slr] | simp [Ah, Aa, V.fz, fzL, V.up, upL, Ab, Ac, Ad, slr])⟩
  conv => whnf
  refine Br.oe h (fun p27 h => ?_) (fun p27 h => ?_)
  ·conv => whnf
   refine Cells.lit rfl rfl ?_
   conv => whnf
   obtain ⟨⟨r28, u29⟩, e33, h⟩ := Option.bind_eq_some_iff.1 h
   try dsimp only at h
   obtain ⟨⟨r30, u31⟩, e34, h⟩ := Option.bind_eq_some_iff.1 h
   try dsimp only at h
   obtain ⟨p35, h⟩ := Ow.1 h
   refine Two.mk ⟨?_, ?_⟩
   ·conv => whnf
    refine SameQ.mk ⟨rfl, ?_⟩
    conv => whnf
    refine SameQ.mk ⟨rfl, ?_⟩
    conv => whnf
    refine SameQ.mk ⟨rfl, ?_⟩
    conv => whnf
    refine SameQ.mk ⟨rfl, ?_⟩
    conv => whnf
    refine SameQ.mk ⟨rfl, ?_⟩
    conv => whnf
    refine Cells.lit rfl rfl ?_
    conv => whnf
    refine SameQ.mk ⟨rfl, ?_⟩
    conv => whnf
    refine Len.map ?_
    conv => whnf
    refine Two.mk ⟨?_, ?_⟩
    ·conv => whnf
     refine SameQ.mk ⟨rfl, ?_⟩
     conv => whnf
     refine SameQ.mk ⟨rfl, ?_⟩
     conv => whnf
     refine SameQ.mk ⟨rfl, ?_⟩
     conv => whnf
     refine SameQ.mk ⟨rfl, ?_⟩
     conv => whnf
     refine Cells.lit rfl rfl ?_
     conv => whnf
     refine SameQ.mk ⟨rfl, ?_⟩
     conv => whnf
     refine CallQ.io Ag (rP true (Aj false)) (by first | rfl | simp only [Aa, V.fz, fzL, V.up, upL, Ab, Ac, Ad, slr, List.cons_append, List.nil_append] | simp [Aa, V.fz, fzL, V.up, upL, Ab, Ac, Ad, slr]) rfl (fun _ => rfl) (fun _ => ⟨rfl, rfl⟩) rfl (show Option.bind (Ak (u25) ((↑q23_7.length : Int))) some = some (r28, u29) by rw [e33]; rfl) (fun r h => Ar h) (fun b36 c37 hb => ?_)
     obtain ⟨rfl, rfl⟩ : r28 = b36 ∧ u29 = c37 := by cases hb; exact ⟨rfl, rfl⟩
     conv => whnf
     refine SameQ.mk ⟨rfl, ?_⟩
     conv => whnf
     refine SameQ.mk ⟨rfl, ?_⟩
     conv => whnf
     refine SameQ.mk ⟨rfl, ?_⟩
     conv => whnf
     refine Cells.lit rfl rfl ?_
     conv => whnf
     refine SameQ.mk ⟨rfl, ?_⟩
     conv => whnf
     refine BslQ.o Ag ([(-1 : Int), b0.Size, (1099511627776 : Int)]) (by exact fun _ => ⟨rfl, rfl⟩) (by first | rfl | simp only [Aa, V.fz, fzL, V.up, upL, Ab, Ac, Ad, slr, List.cons_append, List.nil_append] | simp [Aa, V.fz, fzL, V.up, upL, Ab, Ac, Ad, slr]) ?_
     conv => whnf
     refine SameQ.mk ⟨rfl, ?_⟩
     conv => whnf
     refine SameQ.mk ⟨rfl, ?_⟩
     conv => whnf
     refine CallQ.io Ag (rP true (Aj false)) (by first | rfl | simp only [Aa, V.fz, fzL, V.up, upL, Ab, Ac, Ad, slr, List.cons_append, List.nil_append] | simp [Aa, V.fz, fzL, V.up, upL, Ab, Ac, Ad, slr]) rfl (fun _ => rfl) (fun _ => ⟨rfl, rfl⟩) rfl (show Option.bind (A7 (u29) ([(-1 : Int), b0.Size, (1099511627776 : Int)])) some = some (r30, u31) by rw [e34]; rfl) (fun r h => Bg h) (fun b38 c39 hb => ?_)
     obtain ⟨rfl, rfl⟩ : r30 = b38 ∧ u31 = c39 := by cases hb; exact ⟨rfl, rfl⟩
     conv => whnf
     refine SameQ.mk ⟨rfl, ?_⟩
     conv => whnf
     refine Len.map ?_
     conv => whnf
     refine Ask.mk p35 ?_
     conv => whnf
     refine SetKids.one (fun _ => ⟨rfl, rfl⟩) (r30) (by first | rfl | simp only [Aa, V.fz, fzL, V.up, upL, Ab, Ac, Ad, slr, List.cons_append, List.nil_append] | simp [Aa, V.fz, fzL, V.up, upL, Ab, Ac, Ad, slr]) (by first | omega | (simp [Ap] at *; omega)) ?_
     conv => whnf
     cases h; exact ⟨(by first | rfl | simp only [Ah, Aa, V.fz, fzL, V.up, upL, Ab, Ac, Ad, slr] | simp [Ah, Aa, V.fz, fzL, V.up, upL, Ab, Ac, Ad, slr]), (by first | rfl | simp only [Ah, Aa, V.fz, fzL, V.up, upL, Ab, Ac, Ad, slr] | simp [Ah, Aa, V.fz, fzL, V.up, upL, Ab, Ac, Ad, slr])⟩
    conv => whnf
    refine SameQ.mk ⟨rfl, ?_⟩
    conv => whnf
    refine SameQ.mk ⟨rfl, ?_⟩
    conv => whnf
    refine SameQ.mk ⟨rfl, ?_⟩
    conv => whnf
    refine SameQ.mk ⟨rfl, ?_⟩
    conv => whnf
    refine Cells.lit rfl rfl ?_
    conv => whnf
    refine SameQ.mk ⟨rfl, ?_⟩
    conv => whnf
    refine BslQ.o Ag ([(-1 : Int), b0.Size, (1099511627776 : Int)]) (by exact fun _ => ⟨rfl, rfl⟩) (by first | rfl | simp only [Aa, V.fz, fzL, V.up, upL, Ab, Ac, Ad, slr, List.cons_append, List.nil_append] | simp [Aa, V.fz, fzL, V.up, upL, Ab, Ac, Ad, slr]) ?_
    conv => whnf
    refine SameQ.mk ⟨rfl, ?_⟩
    conv => whnf
    refine SameQ.mk ⟨rfl, ?_⟩
    conv => whnf
    refine SameQ.mk ⟨rfl, ?_⟩
    conv => whnf
    refine CallQ.io Ag (rP true (Aj false)) (by first | rfl | simp only [Aa, V.fz, fzL, V.up, upL, Ab, Ac, Ad, slr, List.cons_append, List.nil_append] | simp [Aa, V.fz, fzL, V.up, upL, Ab, Ac, Ad, slr]) rfl (fun _ => rfl) (fun _ => ⟨rfl, rfl⟩) rfl (show Option.bind (Ak (u25) ((↑q23_7.length : Int))) some = some (r28, u29) by rw [e33]; rfl) (fun r h => Ar h) (fun b40 c41 hb => ?_)
    obtain ⟨rfl, rfl⟩ : r28 = b40 ∧ u29 = c41 := by cases hb; exact ⟨rfl, rfl⟩
    conv => whnf
    refine SameQ.mk ⟨rfl, ?_⟩
    conv => whnf
    refine SameQ.mk ⟨rfl, ?_⟩
    conv => whnf
    refine CallQ.io Ag (rP true (Aj false)) (by first | rfl | simp only [Aa, V.fz, fzL, V.up, upL, Ab, Ac, Ad, slr, List.cons_append, List.nil_append] | simp [Aa, V.fz, fzL, V.up, upL, Ab, Ac, Ad, slr]) rfl (fun _ => rfl) (fun _ => ⟨rfl, rfl⟩) rfl (show Option.bind (A7 (u29) ([(-1 : Int), b0.Size, (1099511627776 : Int)])) some = some (r30, u31) by rw [e34]; rfl) (fun r h => Bg h) (fun b42 c43 hb => ?_)
    obtain ⟨rfl, rfl⟩ : r30 = b42 ∧ u31 = c43 := by cases hb; exact ⟨rfl, rfl⟩
    conv => whnf
    refine SameQ.mk ⟨rfl, ?_⟩
    conv => whnf
    refine Len.map ?_
    conv => whnf
    refine Ask.mk p35 ?_
    conv => whnf
    refine SetKids.one (fun _ => ⟨rfl, rfl⟩) (r30) (by first | rfl | simp only [Aa, V.fz, fzL, V.up, upL, Ab, Ac, Ad, slr, List.cons_append, List.nil_append] | simp [Aa, V.fz, fzL, V.up, upL, Ab, Ac, Ad, slr]) (by first | omega | (simp [Ap] at *; omega)) ?_
    conv => whnf
    cases h; exact ⟨(by first | rfl | simp only [Ah, Aa, V.fz, fzL, V.up, upL, Ab, Ac, Ad, slr] | simp [Ah, Aa, V.fz, fzL, V.up, upL, Ab, Ac, Ad, slr]), (by first | rfl | simp only [Ah, Aa, V.fz, fzL, V.up, upL, Ab, Ac, Ad, slr] | simp [Ah, Aa, V.fz, fzL, V.up, upL, Ab, Ac, Ad, slr])⟩
   conv => whnf
   refine SameQ.mk ⟨rfl, ?_⟩
   conv => whnf
   refine SameQ.mk ⟨rfl, ?_⟩
   conv => whnf
   refine SameQ.mk ⟨rfl, ?_⟩
   conv => whnf
   refine SameQ.mk ⟨rfl, ?_⟩
   conv => whnf
   refine SameQ.mk ⟨rfl, ?_⟩
   conv => whnf
   refine Cells.lit rfl rfl ?_
   conv => whnf
   refine SameQ.mk ⟨rfl, ?_⟩
   conv => whnf
   refine BslQ.o Ag ([(-1 : Int), b0.Size, (1099511627776 : Int)]) (by exact fun _ => ⟨rfl, rfl⟩) (by first | rfl | simp only [Aa, V.fz, fzL, V.up, upL, Ab, Ac, Ad, slr, List.cons_append, List.nil_append] | simp [Aa, V.fz, fzL, V.up, upL, Ab, Ac, Ad, slr]) ?_
   conv => whnf
   refine SameQ.mk ⟨rfl, ?_⟩
   conv => whnf
   refine SameQ.mk ⟨rfl, ?_⟩
   conv => whnf
   refine SameQ.mk ⟨rfl, ?_⟩
   conv => whnf
   refine SameQ.mk ⟨rfl, ?_⟩
   conv => whnf
   refine Len.map ?_
   conv => whnf
   refine SameQ.mk ⟨rfl, ?_⟩
   conv => whnf
   refine SameQ.mk ⟨rfl, ?_⟩
   conv => whnf
   refine SameQ.mk ⟨rfl, ?_⟩
   conv => whnf
   refine CallQ.io Ag (rP true (Aj false)) (by first | rfl | simp only [Aa, V.fz, fzL, V.up, upL, Ab, Ac, Ad, slr, List.cons_append, List.nil_append] | simp [Aa, V.fz, fzL, V.up, upL, Ab, Ac, Ad, slr]) rfl (fun _ => rfl) (fun _ => ⟨rfl, rfl⟩) rfl (show Option.bind (Ak (u25) ((↑q23_7.length : Int))) some = some (r28, u29) by rw [e33]; rfl) (fun r h => Ar h) (fun b44 c45 hb => ?_)
   obtain ⟨rfl, rfl⟩ : r28 = b44 ∧ u29 = c45 := by cases hb; exact ⟨rfl, rfl⟩
   conv => whnf
   refine SameQ.mk ⟨rfl, ?_⟩
   conv => whnf
   refine SameQ.mk ⟨rfl, ?_⟩
   conv => whnf
   refine CallQ.io Ag (rP true (Aj false)) (by first | rfl | simp only [Aa, V.fz, fzL, V.up, upL, Ab, Ac, Ad, slr, List.cons_append, List.nil_append] | simp [Aa, V.fz, fzL, V.up, upL, Ab, Ac, Ad, slr]) rfl (fun _ => rfl) (fun _ => ⟨rfl, rfl⟩) rfl (show Option.bind (A7 (u29) ([(-1 : Int), b0.Size, (1099511627776 : Int)])) some = some (r30, u31) by rw [e34]; rfl) (fun r h => Bg h) (fun b46 c47 hb => ?_)
   obtain ⟨rfl, rfl⟩ : r30 = b46 ∧ u31 = c47 := by cases hb; exact ⟨rfl, rfl⟩
   conv => whnf
   refine SameQ.mk ⟨rfl, ?_⟩
   conv => whnf
   refine Len.map ?_
   conv => whnf
   refine Ask.mk p35 ?_
   conv => whnf
   refine SetKids.one (fun _ => ⟨rfl, rfl⟩) (r30) (by first | rfl | simp only [Aa, V.fz, fzL, V.up, upL, Ab, Ac, Ad, slr, List.cons_append, List.nil_append] | simp [Aa, V.fz, fzL, V.up, upL, Ab, Ac, Ad, slr]) (by first | omega | (simp [Ap] at *; omega)) ?_
   conv => whnf
   cases h; exact ⟨(by first | rfl | simp only [Ah, Aa, V.fz, fzL, V.up, upL, Ab, Ac, Ad, slr] | simp [Ah, Aa, V.fz, fzL, V.up, upL, Ab, Ac, Ad, slr]), (by first | rfl | simp only [Ah, Aa, V.fz, fzL, V.up, upL, Ab, Ac, Ad, slr] | simp [Ah, Aa, V.fz, fzL, V.up, upL, Ab, Ac, Ad, slr])⟩
  conv => whnf
  cases h; exact ⟨(by first | rfl | simp only [Ah, Aa, V.fz, fzL, V.up, upL, Ab, Ac, Ad, slr] | simp [Ah, Aa, V.fz, fzL, V.up, upL, Ab, Ac, Ad, slr]), (by first | rfl | simp only [Ah, Aa, V.fz, fzL, V.up, upL, Ab, Ac, Ad, slr] | simp [Ah, Aa, V.fz, fzL, V.up, upL, Ab, Ac, Ad, slr])⟩
 try dsimp only at h
 conv => whnf
 cases h; exact ⟨(by first | rfl | simp only [Ah, Aa, V.fz, fzL, V.up, upL, Ab, Ac, Ad, slr] | simp [Ah, Aa, V.fz, fzL, V.up, upL, Ab, Ac, Ad, slr]), (by first | rfl | simp only [Ah, Aa, V.fz, fzL, V.up, upL, Ab, Ac, Ad, slr] | simp [Ah, Aa, V.fz, fzL, V.up, upL, Ab, Ac, Ad, slr])⟩
noncomputable def Kr (a0 : SAlgebra) (b0 : SAlgebra) (into0 : Bool) (onto0 : Bool) : Option ((List Int) × Bool) :=
 (Do (a0) (b0) (into0) (onto0) ((1 : Int))).bind fun r1 =>
 if (r1.snd) = true then
 if (↑r1.fst.length : Int) = (0 : Int) then
 some (Al Int, false)
 else
 ask ((0 : Int) ≤ (0 : Int) ∧ (0 : Int) < (↑r1.fst.length : Int)) <|
 some (nth r1.fst (Int.toNat (0 : Int)), true)
 else
 some (Al Int, false)
theorem Am3 {a0 : SAlgebra} {b0 : SAlgebra} {into0 : Bool} {onto0 : Bool} {v : ((List Int) × Bool)} (h : Kr a0 b0 into0 onto0 = some v) : Ret Try.prog Tf [(Ae false) a0, (Ae false) b0, V.bool into0, V.bool onto0] ((fun r => V.tup [(slr false 1 Ag) r.1, V.bool r.2]) v) := by
 refine V4 Al5 (Nat.le_of_ble_eq_true rfl) ?_
 unfold Kr at h
 conv => whnf
 refine Cells.lit rfl rfl ?_
 conv => whnf
 refine Cells.lit rfl rfl ?_
 conv => whnf
 refine CallQ.o (fun r => V.tup [(slr false 1 (slr false 1 Ag)) r.1, V.bool r.2]) (by first | rfl | simp only [Aa, V.fz, fzL, V.up, upL, Ab, Ac, Ad, slr, List.cons_append, List.nil_append] | simp [Aa, V.fz, fzL, V.up, upL, Ab, Ac, Ad, slr]) h (fun r h => Xa h) (fun r1 h => ?_)
 conv => whnf
 refine Br.flip ?_
 conv => whnf
 refine Br.ob h (fun p2 h => ?_) (fun p2 h => ?_)
 ·conv => whnf
  refine Br.no ?_
  conv => whnf
  refine Len.map ?_
  conv => whnf
  refine Br.no ?_
  conv => whnf
  refine Br.no ?_
  conv => whnf
  refine Br.oe h (fun p3 h => ?_) (fun p3 h => ?_)
  ·conv => whnf
   refine BslQ.o Ag (Al Int) (by exact fun _ => ⟨rfl, rfl⟩) (by first | rfl | simp only [Aa, V.fz, fzL, V.up, upL, Ab, Ac, Ad, slr, List.cons_append, List.nil_append] | simp [Aa, V.fz, fzL, V.up, upL, Ab, Ac, Ad, slr]) ?_
   conv => whnf
   cases h; exact (by first | rfl | simp only [Ah, Aa, V.fz, fzL, V.up, upL, Ab, Ac, Ad, slr] | simp [Ah, Aa, V.fz, fzL, V.up, upL, Ab, Ac, Ad, slr])
  conv => whnf
  refine Len.map ?_
  conv => whnf
  refine Ask.o h fun p4 h => ?_
  conv => whnf
  refine Elem.o (by first | omega | (simp [Ap] at *; omega)) ?_
  conv => whnf
  cases h; exact (by first | rfl | simp only [Ah, Aa, V.fz, fzL, V.up, upL, Ab, Ac, Ad, slr] | simp [Ah, Aa, V.fz, fzL, V.up, upL, Ab, Ac, Ad, slr])
 conv => whnf
 refine Br.yes ?_
 conv => whnf
 refine Br.yes ?_
 conv => whnf
 refine Br.yes ?_
 conv => whnf
 refine Br.yes ?_
 conv => whnf
 refine BslQ.o Ag (Al Int) (by exact fun _ => ⟨rfl, rfl⟩) (by first | rfl | simp only [Aa, V.fz, fzL, V.up, upL, Ab, Ac, Ad, slr, List.cons_append, List.nil_append] | simp [Aa, V.fz, fzL, V.up, upL, Ab, Ac, Ad, slr]) ?_
 conv => whnf
 cases h; exact (by first | rfl | simp only [Ah, Aa, V.fz, fzL, V.up, upL, Ab, Ac, Ad, slr] | simp [Ah, Aa, V.fz, fzL, V.up, upL, Ab, Ac, Ad, slr])
noncomputable def Nw (a0 : SAlgebra) (b0 : SAlgebra) : Option Bool :=
 (Iy (a0) (b0)).bind fun r1 =>
 if (r1.snd) = true then
 some r1.fst
 else
 some false
theorem Am0 {a0 : SAlgebra} {b0 : SAlgebra} {v : Bool} (h : Nw a0 b0 = some v) : Ret Try.prog Tb [(Ae false) a0, (Ae false) b0] (V.bool v) := by
 refine Av Alr (Nat.le_of_ble_eq_true rfl) ?_
 unfold Nw at h
 conv => whnf
 refine Cells.lit rfl rfl ?_
 conv => whnf
 refine Cells.lit rfl rfl ?_
 conv => whnf
 refine CallQ.o (fun r => V.tup [V.bool r.1, V.bool r.2]) (by first | rfl | simp only [Aa, V.fz, fzL, V.up, upL, Ab, Ac, Ad, slr, List.cons_append, List.nil_append] | simp [Aa, V.fz, fzL, V.up, upL, Ab, Ac, Ad, slr]) h (fun r h => Ac7 h) (fun r1 h => ?_)
 conv => whnf
 refine Br.ob h (fun p2 h => ?_) (fun p2 h => ?_)
 ·conv => whnf
  refine Br.yes ?_
  conv => whnf
  cases h; exact (by first | rfl | simp only [Ah, Aa, V.fz, fzL, V.up, upL, Ab, Ac, Ad, slr] | simp [Ah, Aa, V.fz, fzL, V.up, upL, Ab, Ac, Ad, slr])
 conv => whnf
 refine Br.no ?_
 conv => whnf
 cases h; exact (by first | rfl | simp only [Ah, Aa, V.fz, fzL, V.up, upL, Ab, Ac, Ad, slr] | simp [Ah, Aa, V.fz, fzL, V.up, upL, Ab, Ac, Ad, slr])
noncomputable def Gt (a0 : SAlgebra) : (Int × (List (List Int))) → Option ((Int × (List (List Int))) ⊕ (List (List Int))) := fun (x4, x3) =>
 ask ((0 : Int) ≤ a0.Size) <|
 if x4 < Asa (1 : Int) a0.Size then
 (Iw (x4)).bind fun r3 =>
 (Mq (a0) (r3)).bind fun r4 =>
 if (r4) = true then
 (In (x3) (r3)).bind fun r6 =>
 ask (InI (x4 + (1 : Int))) <|
 some (.inl (x4 + (1 : Int), r6))
 else
 ask (InI (x4 + (1 : Int))) <|
 some (.inl (x4 + (1 : Int), x3))
 else
 some (.inr x3)
def Nc (a0 : SAlgebra) : (Int × (List (List Int))) → St := fun s => [(4, A.val (Ag s.1)), (3, A.val ((slr true 1 (slr false 1 Ag)) s.2)), (1, A.val ((rP true (Ae false)) (a0)))]
def Uc (_a0 : SAlgebra) : (List (List Int)) → Tgt
 | s => ((Ex.exit 0), [3], [(3, A.val ((slr true 1 (slr false 1 Ag)) s))])
theorem Ad0 {a0 : SAlgebra} (s : (Int × (List (List Int)))) (o : (Int × (List (List Int))) ⊕ (List (List Int))) (h : Gt a0 s = some o) : vc Try.prog Ud (Cc [4, 3, 1] (Nc a0) (Uc a0) o) (Nc a0 s) := by
 obtain ⟨x4, x3⟩ := s
 unfold Gt at h
 try dsimp only at h
 conv => whnf
 refine Cells.lit rfl rfl ?_
 conv => whnf
 refine Ask.o h fun p1 h => ?_
 conv => whnf
 refine Br.od h (fun p2 h => ?_) (fun p2 h => ?_)
 ·conv => whnf
  refine CallQ.o (slr true 1 Ag) (by first | rfl | simp only [Aa, V.fz, fzL, V.up, upL, Ab, Ac, Ad, slr, List.cons_append, List.nil_append] | simp [Aa, V.fz, fzL, V.up, upL, Ab, Ac, Ad, slr]) h (fun r h => Aic h) (fun r3 h => ?_)
  conv => whnf
  refine Cells.lit rfl rfl ?_
  conv => whnf
  refine CallQ.rd V.bool (by first | rfl | simp only [V.fz, fzL, Ab, slr] | simp [Aa, V.fz, fzL, V.up, upL, Ab, Ac, Ad, slr]) (fun _ => rfl) h (fun r h => Aoi h) (fun r4 h => ?_)
  conv => whnf
  refine Br.ob h (fun p5 h => ?_) (fun p5 h => ?_)
  ·conv => whnf
   refine FrzQ.d (V.sl false (1 : Nat) (List.map (slr false (1 : Nat) Ag) x3)) (by first | (simp only [slr]; done) | (simp [A9, V.fz, Ab, slr]; done)) ?_
   conv => whnf
   refine FrzQ.d (V.sl false (1 : Nat) (List.map Ag r3)) (by first | (simp only [slr]; done) | (simp [A9, V.fz, Ab, slr]; done)) ?_
   conv => whnf
   refine CallQ.o (slr true 1 (slr false 1 Ag)) (by first | rfl | simp only [Aa, V.fz, fzL, V.up, upL, Ab, Ac, Ad, slr, List.cons_append, List.nil_append] | simp [Aa, V.fz, fzL, V.up, upL, Ab, Ac, Ad, slr]) h (fun r h => Aht h) (fun r6 h => ?_)
   conv => whnf
   refine Ask.o h fun p7 h => ?_
   conv => whnf
   cases h; exact ⟨rfl, rfl⟩
  conv => whnf
  refine Ask.o h fun p8 h => ?_
  conv => whnf
  cases h; exact ⟨rfl, rfl⟩
 conv => whnf
 cases h; exact ⟨rfl, rfl⟩
noncomputable def H9 (a0 : SAlgebra) : Option (List (List Int)) :=
 (Am (Gt a0) ((0 : Int), Al (List Int))).bind fun q9_3 =>
 some q9_3
theorem Alq {a0 : SAlgebra} {v : (List (List Int))} (h : H9 a0 = some v) : Ret Try.prog To [(Ae false) a0] ((slr true 1 (slr false 1 Ag)) v) := by
 refine Av Amr (Nat.le_of_ble_eq_true rfl) ?_
 unfold H9 at h
 conv => whnf
 refine BslQ.o (slr true 1 Ag) (Al (List Int)) (by exact fun _ => ⟨rfl, rfl⟩) (by first | rfl | simp only [Aa, V.fz, fzL, V.up, upL, Ab, Ac, Ad, slr, List.cons_append, List.nil_append] | simp [Aa, V.fz, fzL, V.up, upL, Ab, Ac, Ad, slr]) ?_
 conv => whnf
 refine LoopQ.o [4, 3, 1] (Nc a0) (Uc a0) h (fun s o h => Ad0 s o h) (by first | rfl | simp [restrict, look, Aa, V.fz, fzL, V.up, upL, Ab, Ac, Ad, slr]) (fun _ => rfl) ?_
 rintro q9_3 h
 try dsimp only at h
 conv => whnf
 cases h; exact (by first | rfl | simp only [Ah, Aa, V.fz, fzL, V.up, upL, Ab, Ac, Ad, slr] | simp [Ah, Aa, V.fz, fzL, V.up, upL, Ab, Ac, Ad, slr])
noncomputable def Cg (a0 : SAlgebra) (b0 : SAlgebra) : Option Bool :=
 (B8 (a0)).bind fun r1 =>
 if (r1) = true then
 (B8 (b0)).bind fun r3 =>
 if (r3) = true then
 (Nw (a0) (b0)).bind fun r5 =>
 some r5
 else
 some false
 else
 some false
theorem Gy {a0 : SAlgebra} {b0 : SAlgebra} {v : Bool} (h : Cg a0 b0 = some v) : Ret Try.prog Ea [(Ae false) a0, (Ae false) b0] (V.bool v) := by
 refine Av Adu (Nat.le_of_ble_eq_true rfl) ?_
 unfold Cg at h
 conv => whnf
 refine Cells.lit rfl rfl ?_
 conv => whnf
 refine CallQ.o V.bool (by first | rfl | simp only [Aa, V.fz, fzL, V.up, upL, Ab, Ac, Ad, slr, List.cons_append, List.nil_append] | simp [Aa, V.fz, fzL, V.up, upL, Ab, Ac, Ad, slr]) h (fun r h => Ga h) (fun r1 h => ?_)
 conv => whnf
 refine Br.ob h (fun p2 h => ?_) (fun p2 h => ?_)
 ·conv => whnf
  refine Cells.lit rfl rfl ?_
  conv => whnf
  refine Br.yes ?_
  conv => whnf
  refine CallQ.o V.bool (by first | rfl | simp only [Aa, V.fz, fzL, V.up, upL, Ab, Ac, Ad, slr, List.cons_append, List.nil_append] | simp [Aa, V.fz, fzL, V.up, upL, Ab, Ac, Ad, slr]) h (fun r h => Ga h) (fun r3 h => ?_)
  conv => whnf
  refine Br.yes ?_
  conv => whnf
  refine Br.ob h (fun p4 h => ?_) (fun p4 h => ?_)
  ·conv => whnf
   refine Cells.lit rfl rfl ?_
   conv => whnf
   refine Br.yes ?_
   conv => whnf
   refine Cells.lit rfl rfl ?_
   conv => whnf
   refine Br.yes ?_
   conv => whnf
   refine CallQ.o V.bool (by first | rfl | simp only [Aa, V.fz, fzL, V.up, upL, Ab, Ac, Ad, slr, List.cons_append, List.nil_append] | simp [Aa, V.fz, fzL, V.up, upL, Ab, Ac, Ad, slr]) h (fun r h => Am0 h) (fun r5 h => ?_)
   conv => whnf
   refine Br.yes ?_
   conv => whnf
   cases h; exact (by first | rfl | simp only [Ah, Aa, V.fz, fzL, V.up, upL, Ab, Ac, Ad, slr] | simp [Ah, Aa, V.fz, fzL, V.up, upL, Ab, Ac, Ad, slr])
  conv => whnf
  refine Br.no ?_
  conv => whnf
  refine Br.no ?_
  conv => whnf
  refine Br.no ?_
  conv => whnf
  cases h; exact (by first | rfl | simp only [Ah, Aa, V.fz, fzL, V.up, upL, Ab, Ac, Ad, slr] | simp [Ah, Aa, V.fz, fzL, V.up, upL, Ab, Ac, Ad, slr])
 conv => whnf
 refine Br.no ?_
 conv => whnf
 refine Br.no ?_
 conv => whnf
 refine Br.no ?_
 conv => whnf
 refine Br.no ?_
 conv => whnf
 refine Br.no ?_
 conv => whnf
 refine Br.no ?_
 conv => whnf
 cases h; exact (by first | rfl | simp only [Ah, Aa, V.fz, fzL, V.up, upL, Ab, Ac, Ad, slr] | simp [Ah, Aa, V.fz, fzL, V.up, upL, Ab, Ac, Ad, slr])
end Go.Proofs.Ytiakjbigaaanhaa.Ax
