/-
 What the functions compute, as functions on plain data, and that the program does compute it; written by program.
-/
import Derived.Test.YtiakjbigaaanhaaCode
import Derived.Test.YtiakjbigaaanhaaG1
import Derived.Test.YtiakjbigaaanhaaG3
import Derived.Test.YtiakjbigaaanhaaG4
import Derived.Test.YtiakjbigaaanhaaG5
import Derived.Test.YtiakjbigaaanhaaG6
import Derived.Test.YtiakjbigaaanhaaG7
import Derived.Test.YtiakjbigaaanhaaG8
import Derived.Test.YtiakjbigaaanhaaG9
import Derived.Test.YtiakjbigaaanhaaG11
namespace Go.Proofs.Ytiakjbigaaanhaa.Ax
open Go
set_option maxRecDepth 100000
set_option maxHeartbeats 4000000
noncomputable def Cp (r1 : SAlgebra) : (Int × Sl1Cur) → Option ((Int × Sl1Cur) ⊕ ((SAlgebra × Sl1Cur) ⊕ Sl1Cur)) := fun (x8, x119) =>
 if x8 < (12 : Int) then
 (Bu (x119)).bind fun (r35, u36) =>
 (Cv (r35)).bind fun r37 =>
 if (r37) = true then
 (Dq (r1) (r35)).bind fun r39 =>
 if (r39) = true then
 some (.inr (.inl (r35, u36)))
 else
 ask (InI (x8 + (1 : Int))) <|
 some (.inl (x8 + (1 : Int), u36))
 else
 ask (InI (x8 + (1 : Int))) <|
 some (.inl (x8 + (1 : Int), u36))
 else
 some (.inr (.inr x119))
def Hk (r1 : SAlgebra) : (Int × Sl1Cur) → St := fun s => [(8, A.val (Ag s.1)), (4, A.val ((rP false (Ae false)) (r1))), (3, A.val ((rP true (Ae true)) ({ Size := (0 : Int), Ops := Al SOp }))), (2, A.val ((rP true (Ae true)) ({ Size := (0 : Int), Ops := Al SOp }))), (0, A.ref 119 []), (119, A.val ((rP true (Aj false)) s.2))]
def Mf (r1 : SAlgebra) : ((SAlgebra × Sl1Cur) ⊕ Sl1Cur) → Tgt
 | (.inl s) => (Ex.ret, [3, 2, 119], [(3, A.val ((rP false (Ae false)) s.1)), (2, A.val ((rP false (Ae false)) (r1))), (119, A.val ((rP true (Aj false)) s.2))])
 | (.inr s) => ((Ex.exit 1), [4, 3, 2, 0, 119], [(4, A.val ((rP false (Ae false)) (r1))), (3, A.val ((rP true (Ae true)) ({ Size := (0 : Int), Ops := Al SOp }))), (2, A.val ((rP true (Ae true)) ({ Size := (0 : Int), Ops := Al SOp }))), (0, A.ref 119 []), (119, A.val ((rP true (Aj false)) s))])
theorem Vv {r1 : SAlgebra} (s : (Int × Sl1Cur)) (o : (Int × Sl1Cur) ⊕ ((SAlgebra × Sl1Cur) ⊕ Sl1Cur)) (h : Cp r1 s = some o) : vc Try.prog Mx (Cc [8, 4, 3, 2, 0, 119] (Hk r1) (Mf r1) o) (Hk r1 s) := by
 obtain ⟨x8, x119⟩ := s
 unfold Cp at h
 try dsimp only at h
 conv => whnf
 refine Br.od h (fun p34 h => ?_) (fun p34 h => ?_)
 ·conv => whnf
  refine CallQ.io (Ae true) (rP true (Aj false)) (by first | rfl | simp only [Aa, V.fz, fzL, V.up, upL, Ab, Ac, Ad, slr, List.cons_append, List.nil_append] | simp [Aa, V.fz, fzL, V.up, upL, Ab, Ac, Ad, slr]) rfl (fun _ => rfl) (fun _ => ⟨rfl, rfl⟩) rfl h (fun r h => Fl h) (fun r35 u36 h => ?_)
  conv => whnf
  refine SetKids.lit rfl ?_
  conv => whnf
  refine FrzQ.d ((rP false (Ae false)) r35) ((A9 _).trans (Eq.trans (b := V.fz ((rP true (Ae true)) r35)) rfl (Ad (rP true (Ae true)) _))) ?_
  conv => whnf
  refine CallQ.o V.bool (by first | rfl | simp only [Aa, V.fz, fzL, V.up, upL, Ab, Ac, Ad, slr, List.cons_append, List.nil_append] | simp [Aa, V.fz, fzL, V.up, upL, Ab, Ac, Ad, slr]) h (fun r h => G1 h) (fun r37 h => ?_)
  conv => whnf
  refine Br.ob h (fun p38 h => ?_) (fun p38 h => ?_)
  ·conv => whnf
   refine Br.yes ?_
   conv => whnf
   refine Br.yes ?_
   conv => whnf
   refine CallQ.o V.bool (by first | rfl | simp only [Aa, V.fz, fzL, V.up, upL, Ab, Ac, Ad, slr, List.cons_append, List.nil_append] | simp [Aa, V.fz, fzL, V.up, upL, Ab, Ac, Ad, slr]) h (fun r h => Qv h) (fun r39 h => ?_)
   conv => whnf
   refine Br.yes ?_
   conv => whnf
   refine Br.ob h (fun p40 h => ?_) (fun p40 h => ?_)
   ·conv => whnf
    refine SameQ.mk ⟨rfl, ?_⟩
    conv => whnf
    refine SameQ.mk ⟨rfl, ?_⟩
    conv => whnf
    refine SetKids.lit rfl ?_
    conv => whnf
    refine SameQ.mk ⟨rfl, ?_⟩
    conv => whnf
    refine SetKids.lit rfl ?_
    conv => whnf
    refine FrzQ.d ((rP false (Ae false)) r1) ((A9 _).trans (Eq.trans (b := V.fz ((rP true (Ae false)) r1)) rfl (Ad (rP true (Ae false)) _))) ?_
    conv => whnf
    refine FrzQ.d ((rP false (Ae false)) r35) ((A9 _).trans (Eq.trans (b := V.fz ((rP true (Ae false)) r35)) rfl (Ad (rP true (Ae false)) _))) ?_
    conv => whnf
    cases h; exact ⟨rfl, rfl⟩
   conv => whnf
   refine Ask.o h fun p41 h => ?_
   conv => whnf
   cases h; exact ⟨rfl, rfl⟩
  conv => whnf
  refine Br.no ?_
  conv => whnf
  refine Br.no ?_
  conv => whnf
  refine Br.no ?_
  conv => whnf
  refine Br.no ?_
  conv => whnf
  refine Ask.o h fun p42 h => ?_
  conv => whnf
  cases h; exact ⟨rfl, rfl⟩
 conv => whnf
 cases h; exact ⟨rfl, rfl⟩
noncomputable def Dt (_r1 : SAlgebra) : (Int × SAlgebra × Sl1Cur) → Option ((Int × SAlgebra × Sl1Cur) ⊕ (SAlgebra × Sl1Cur)) := fun (x11, x10, x119) =>
 if x11 < (↑x10.Ops.length : Int) then
 ask ((0 : Int) ≤ x11 ∧ x11 < (↑x10.Ops.length : Int)) <|
 (Ak (x119) ((↑(nth x10.Ops x11.toNat).Table.length : Int))).bind fun (r48, u49) =>
 (Ak (u49) (x10.Size)).bind fun (r50, u51) =>
 ask ((0 : Int) ≤ r48 ∧ r48 < (↑(nth x10.Ops x11.toNat).Table.length : Int)) <|
 ask (InI (x11 + (1 : Int))) <|
 some (.inl (x11 + (1 : Int), { Size := x10.Size, Ops := x10.Ops.set x11.toNat { Arity := (nth x10.Ops x11.toNat).Arity, Table := (nth x10.Ops x11.toNat).Table.set r48.toNat r50 } }, u51))
 else
 some (.inr (x10, x119))
def Hu (r1 : SAlgebra) : (Int × SAlgebra × Sl1Cur) → St := fun s => [(11, A.val (Ag s.1)), (10, A.val ((rP true (Ae true)) s.2.1)), (4, A.val ((rP false (Ae false)) (r1))), (3, A.val ((rP true (Ae true)) ({ Size := (0 : Int), Ops := Al SOp }))), (2, A.val ((rP true (Ae true)) ({ Size := (0 : Int), Ops := Al SOp }))), (0, A.ref 119 []), (119, A.val ((rP true (Aj false)) s.2.2))]
def Mh (r1 : SAlgebra) : (SAlgebra × Sl1Cur) → Tgt
 | s => ((Ex.exit 3), [10, 4, 3, 2, 119], [(10, A.val ((rP true (Ae true)) s.1)), (4, A.val ((rP false (Ae false)) (r1))), (3, A.val ((rP true (Ae true)) ({ Size := (0 : Int), Ops := Al SOp }))), (2, A.val ((rP true (Ae true)) ({ Size := (0 : Int), Ops := Al SOp }))), (119, A.val ((rP true (Aj false)) s.2))])
theorem U8 {r1 : SAlgebra} (s : (Int × SAlgebra × Sl1Cur)) (o : (Int × SAlgebra × Sl1Cur) ⊕ (SAlgebra × Sl1Cur)) (h : Dt r1 s = some o) : vc Try.prog Mk (Cc [11, 10, 4, 3, 2, 0, 119] (Hu r1) (Mh r1) o) (Hu r1 s) := by
 obtain ⟨x11, x10, x119⟩ := s
 unfold Dt at h
 try dsimp only at h
 conv => whnf
 refine Cells.lit rfl rfl ?_
 conv => whnf
 refine Kid.lit rfl rfl ?_
 conv => whnf
 refine Len.map ?_
 conv => whnf
 refine Br.od h (fun p46 h => ?_) (fun p46 h => ?_)
 ·conv => whnf
  refine Cells.lit rfl rfl ?_
  conv => whnf
  refine Kid.lit rfl rfl ?_
  conv => whnf
  refine Len.map ?_
  conv => whnf
  refine Ask.o h fun p47 h => ?_
  conv => whnf
  refine Kid.lit rfl rfl ?_
  conv => whnf
  refine Cells.wide (by exact fun _ => ⟨rfl, rfl⟩) (by first | omega | (simp [Ap] at *; omega)) (by decide) ?_
  conv => whnf
  refine Cells.lit rfl rfl ?_
  conv => whnf
  refine Kid.lit rfl rfl ?_
  conv => whnf
  refine Len.map ?_
  conv => whnf
  refine Ask.mk p47 ?_
  conv => whnf
  refine Kid.lit rfl rfl ?_
  conv => whnf
  refine Cells.wide (by exact fun _ => ⟨rfl, rfl⟩) (by first | omega | (simp [Ap] at *; omega)) (by decide) ?_
  conv => whnf
  refine Cells.lit rfl rfl ?_
  conv => whnf
  refine SameQ.mk ⟨rfl, ?_⟩
  conv => whnf
  refine Cells.lit rfl rfl ?_
  conv => whnf
  refine SameQ.mk ⟨rfl, ?_⟩
  conv => whnf
  refine SameQ.mk ⟨rfl, ?_⟩
  conv => whnf
  refine Kid.lit rfl rfl ?_
  conv => whnf
  refine Len.map ?_
  conv => whnf
  refine Ask.mk p47 ?_
  conv => whnf
  refine SameQ.mk ⟨rfl, ?_⟩
  conv => whnf
  refine SameQ.mk ⟨rfl, ?_⟩
  conv => whnf
  refine Kid.lit rfl rfl ?_
  conv => whnf
  refine Cells.wide (by exact fun _ => ⟨rfl, rfl⟩) (by first | omega | (simp [Ap] at *; omega)) (by decide) ?_
  conv => whnf
  refine SameQ.mk ⟨rfl, ?_⟩
  conv => whnf
  refine SameQ.mk ⟨rfl, ?_⟩
  conv => whnf
  refine SameQ.mk ⟨rfl, ?_⟩
  conv => whnf
  refine Cells.lit rfl rfl ?_
  conv => whnf
  refine SameQ.mk ⟨rfl, ?_⟩
  conv => whnf
  refine SameQ.mk ⟨rfl, ?_⟩
  conv => whnf
  refine Kid.lit rfl rfl ?_
  conv => whnf
  refine Len.map ?_
  conv => whnf
  refine Ask.mk p47 ?_
  conv => whnf
  refine SameQ.mk ⟨rfl, ?_⟩
  conv => whnf
  refine SameQ.mk ⟨rfl, ?_⟩
  conv => whnf
  refine Kid.lit rfl rfl ?_
  conv => whnf
  refine Cells.wide (by exact fun _ => ⟨rfl, rfl⟩) (by first | omega | (simp [Ap] at *; omega)) (by decide) ?_
  conv => whnf
  refine SameQ.mk ⟨rfl, ?_⟩
  conv => whnf
  refine SameQ.mk ⟨rfl, ?_⟩
  conv => whnf
  refine SameQ.mk ⟨rfl, ?_⟩
  conv => whnf
  refine Cells.lit rfl rfl ?_
  conv => whnf
  refine SameQ.mk ⟨rfl, ?_⟩
  conv => whnf
  refine Kid.lit rfl rfl ?_
  conv => whnf
  refine Kid.wide (by exact fun _ => ⟨rfl, rfl⟩) (by first | omega | (simp [Ap] at *; omega)) (by rfl) ?_
  conv => whnf
  refine Len.map ?_
  conv => whnf
  refine SameQ.mk ⟨rfl, ?_⟩
  conv => whnf
  refine Cells.lit rfl rfl ?_
  conv => whnf
  refine SameQ.mk ⟨rfl, ?_⟩
  conv => whnf
  refine SameQ.mk ⟨rfl, ?_⟩
  conv => whnf
  refine Kid.lit rfl rfl ?_
  conv => whnf
  refine Len.map ?_
  conv => whnf
  refine Ask.mk p47 ?_
  conv => whnf
  refine SameQ.mk ⟨rfl, ?_⟩
  conv => whnf
  refine SameQ.mk ⟨rfl, ?_⟩
  conv => whnf
  refine Kid.lit rfl rfl ?_
  conv => whnf
  refine Cells.wide (by exact fun _ => ⟨rfl, rfl⟩) (by first | omega | (simp [Ap] at *; omega)) (by decide) ?_
  conv => whnf
  refine SameQ.mk ⟨rfl, ?_⟩
  conv => whnf
  refine SameQ.mk ⟨rfl, ?_⟩
  conv => whnf
  refine SameQ.mk ⟨rfl, ?_⟩
  conv => whnf
  refine SameQ.mk ⟨rfl, ?_⟩
  conv => whnf
  refine Cells.lit rfl rfl ?_
  conv => whnf
  refine SameQ.mk ⟨rfl, ?_⟩
  conv => whnf
  refine CallQ.io Ag (rP true (Aj false)) (by first | rfl | simp only [Aa, V.fz, fzL, V.up, upL, Ab, Ac, Ad, slr, List.cons_append, List.nil_append] | simp [Aa, V.fz, fzL, V.up, upL, Ab, Ac, Ad, slr]) rfl (fun _ => rfl) (fun _ => ⟨rfl, rfl⟩) rfl h (fun r h => Ar h) (fun r48 u49 h => ?_)
  conv => whnf
  refine SameQ.mk ⟨rfl, ?_⟩
  conv => whnf
  refine Cells.lit rfl rfl ?_
  conv => whnf
  refine SameQ.mk ⟨rfl, ?_⟩
  conv => whnf
  refine SameQ.mk ⟨rfl, ?_⟩
  conv => whnf
  refine Kid.lit rfl rfl ?_
  conv => whnf
  refine Len.map ?_
  conv => whnf
  refine Ask.mk p47 ?_
  conv => whnf
  refine SameQ.mk ⟨rfl, ?_⟩
  conv => whnf
  refine SameQ.mk ⟨rfl, ?_⟩
  conv => whnf
  refine Kid.lit rfl rfl ?_
  conv => whnf
  refine Cells.wide (by exact fun _ => ⟨rfl, rfl⟩) (by first | omega | (simp [Ap] at *; omega)) (by decide) ?_
  conv => whnf
  refine SameQ.mk ⟨rfl, ?_⟩
  conv => whnf
  refine SameQ.mk ⟨rfl, ?_⟩
  conv => whnf
  refine SameQ.mk ⟨rfl, ?_⟩
  conv => whnf
  refine Cells.lit rfl rfl ?_
  conv => whnf
  refine SameQ.mk ⟨rfl, ?_⟩
  conv => whnf
  refine CallQ.io Ag (rP true (Aj false)) (by first | rfl | simp only [Aa, V.fz, fzL, V.up, upL, Ab, Ac, Ad, slr, List.cons_append, List.nil_append] | simp [Aa, V.fz, fzL, V.up, upL, Ab, Ac, Ad, slr]) rfl (fun _ => rfl) (fun _ => ⟨rfl, rfl⟩) rfl h (fun r h => Ar h) (fun r50 u51 h => ?_)
  conv => whnf
  refine SameQ.mk ⟨rfl, ?_⟩
  conv => whnf
  refine Cells.lit rfl rfl ?_
  conv => whnf
  refine SameQ.mk ⟨rfl, ?_⟩
  conv => whnf
  refine SameQ.mk ⟨rfl, ?_⟩
  conv => whnf
  refine Kid.lit rfl rfl ?_
  conv => whnf
  refine Len.map ?_
  conv => whnf
  refine Ask.mk p47 ?_
  conv => whnf
  refine SameQ.mk ⟨rfl, ?_⟩
  conv => whnf
  refine SameQ.mk ⟨rfl, ?_⟩
  conv => whnf
  refine Kid.lit rfl rfl ?_
  conv => whnf
  refine Cells.wide (by exact fun _ => ⟨rfl, rfl⟩) (by first | omega | (simp [Ap] at *; omega)) (by decide) ?_
  conv => whnf
  refine SameQ.mk ⟨rfl, ?_⟩
  conv => whnf
  refine Kid.lit rfl rfl ?_
  conv => whnf
  refine Kid.wide (by exact fun _ => ⟨rfl, rfl⟩) (by first | omega | (simp [Ap] at *; omega)) (by rfl) ?_
  conv => whnf
  refine Len.map ?_
  conv => whnf
  refine Ask.o h fun p52 h => ?_
  conv => whnf
  refine Kid.lit rfl rfl ?_
  conv => whnf
  refine Kid.wide (by exact fun _ => ⟨rfl, rfl⟩) (by first | omega | (simp [Ap] at *; omega)) (by rfl) ?_
  conv => whnf
  refine SetKids.one (fun _ => ⟨rfl, rfl⟩) (r50) (by first | rfl | simp only [Aa, V.fz, fzL, V.up, upL, Ab, Ac, Ad, slr, List.cons_append, List.nil_append] | simp [Aa, V.fz, fzL, V.up, upL, Ab, Ac, Ad, slr]) (by first | omega | (simp [Ap] at *; omega)) ?_
  conv => whnf
  refine Kid.lit rfl rfl ?_
  conv => whnf
  refine Kid.wide (by exact fun _ => ⟨rfl, rfl⟩) (by first | omega | (simp [Ap] at *; omega)) (by rfl) ?_
  conv => whnf
  refine SetKids.wide (by exact fun _ => ⟨rfl, rfl⟩) ({ Arity := (nth x10.Ops x11.toNat).Arity, Table := (nth x10.Ops x11.toNat).Table.set r48.toNat r50 }) (by first | omega | (simp [Ap] at *; omega)) (by rfl) (by decide) ?_
  conv => whnf
  refine SetKids.lit rfl ?_
  conv => whnf
  refine Ask.o h fun p53 h => ?_
  conv => whnf
  cases h; exact ⟨rfl, rfl⟩
 conv => whnf
 cases h; exact ⟨rfl, rfl⟩
noncomputable def Cy (c0 : Sl1Cur) : Option ((SAlgebra × SAlgebra) × Sl1Cur) :=
 (Bu (c0)).bind fun (r1, u2) =>
 (((Cv (r1)).bind fun r3 =>
 if (r3) = true then
 (Bz (u2) ((8 : Int))).bind fun (r5, u6) =>
 if (r5) = true then
 (Bu (u6)).bind fun (r8, u9) =>
 some (.inl (r8, u9))
 else
 some (.inr u6)
 else
 (Bu (u2)).bind fun (r10, u11) =>
 some (.inl (r10, u11)) : Option ((SAlgebra × Sl1Cur) ⊕ Sl1Cur))).bind fun t => match t with
 | (.inl (q12_3, q12_119)) => (some ((r1, q12_3), q12_119))
 | (.inr q12_119) => ((((Ak (q12_119) ((5 : Int))).bind fun (r13, u14) =>
 if r13 = (0 : Int) then
 (Gi (r1)).bind fun r16 =>
 some (.inl (r16, r1, u14))
 else
 if r13 = (1 : Int) then
 (C4 (u14) (r1.Size)).bind fun (r18, u19) =>
 (G6 (r18) (r1.Size)).bind fun r20 =>
 if (r20) = true then
 (E8 (r1) (r18)).bind fun r22 =>
 some (.inl (r22, r1, u19))
 else
 some (.inr u19)
 else
 if r13 = (2 : Int) then
 (H9 (r1)).bind fun r24 =>
 ask (InI ((↑r24.length : Int) - (1 : Int))) <|
 ask ((0 : Int) ≤ (↑r24.length : Int) - (1 : Int) ∧ (↑r24.length : Int) - (1 : Int) < (↑r24.length : Int)) <|
 if (↑(nth r24 ((↑r24.length : Int) - (1 : Int)).toNat).length : Int) > (0 : Int) then
 (Ak (u14) ((↑r24.length : Int))).bind fun (r28, u29) =>
 ask ((0 : Int) ≤ r28 ∧ r28 < (↑r24.length : Int)) <|
 if (↑(nth r24 r28.toNat).length : Int) > (0 : Int) then
 (Hy (r1) (nth r24 r28.toNat)).bind fun r32 =>
 some (.inl (r1, r32, u29))
 else
 some (.inr u29)
 else
 some (.inr u14)
 else
 if r13 = (3 : Int) then
 (Am (Cp r1) ((0 : Int), u14)).bind fun t => match t with
 | (.inl (q43_3, q43_119)) => (some (.inl (q43_3, r1, q43_119)))
 | (.inr q43_119) => (some (.inr q43_119))
 else
 some (.inr u14) : Option ((SAlgebra × SAlgebra × Sl1Cur) ⊕ Sl1Cur))).bind fun t => match t with
 | (.inl (q44_3, q44_2, q44_119)) => (some ((q44_2, q44_3), q44_119))
 | (.inr q44_119) => ((Gi (r1)).bind fun r45 =>
 (Am (Dt r1) ((0 : Int), r45, q44_119)).bind fun (q54_10, q54_119) =>
 some ((r1, q54_10), q54_119)))
theorem Ko {c0 : Sl1Cur} {v : ((SAlgebra × SAlgebra) × Sl1Cur)} (h : Cy c0 = some v) : Tu Try.prog Fq [(rP true (Aj false)) c0] ((fun r => V.tup [(Ae false) r.1, (Ae false) r.2]) v.1) 0 ((rP true (Aj false)) v.2) := by
 refine Ar7 Yr (Nat.le_of_ble_eq_true rfl) ?_
 unfold Cy at h
 conv => whnf
 refine CallQ.io (Ae true) (rP true (Aj false)) (by first | rfl | simp only [Aa, V.fz, fzL, V.up, upL, Ab, Ac, Ad, slr, List.cons_append, List.nil_append] | simp [Aa, V.fz, fzL, V.up, upL, Ab, Ac, Ad, slr]) rfl (fun _ => rfl) (fun _ => ⟨rfl, rfl⟩) rfl h (fun r h => Fl h) (fun r1 u2 h => ?_)
 conv => whnf
 refine SetKids.lit rfl ?_
 conv => whnf
 refine CutQ.o (fun t : ((SAlgebra × Sl1Cur) ⊕ Sl1Cur) => match t with | (.inl s) => (Ex.ret, [3, 2, 119], [(3, A.val ((rP false (Ae false)) s.1)), (2, A.val ((rP false (Ae false)) (r1))), (119, A.val ((rP true (Aj false)) s.2))]) | (.inr s) => (Ex.normal, [4, 3, 2, 0, 119], [(4, A.val ((rP false (Ae false)) (r1))), (3, A.val ((rP true (Ae true)) ({ Size := (0 : Int), Ops := Al SOp }))), (2, A.val ((rP true (Ae true)) ({ Size := (0 : Int), Ops := Al SOp }))), (0, A.ref 119 []), (119, A.val ((rP true (Aj false)) s))])) h ?_ ?_
 ·intro t h
  conv => whnf
  refine FrzQ.d ((rP false (Ae false)) r1) ((A9 _).trans (Eq.trans (b := V.fz ((rP true (Ae true)) r1)) rfl (Ad (rP true (Ae true)) _))) ?_
  conv => whnf
  refine CallQ.o V.bool (by first | rfl | simp only [Aa, V.fz, fzL, V.up, upL, Ab, Ac, Ad, slr, List.cons_append, List.nil_append] | simp [Aa, V.fz, fzL, V.up, upL, Ab, Ac, Ad, slr]) h (fun r h => G1 h) (fun r3 h => ?_)
  conv => whnf
  refine Br.flip ?_
  conv => whnf
  refine Br.ob h (fun p4 h => ?_) (fun p4 h => ?_)
  ·conv => whnf
   refine Br.no ?_
   conv => whnf
   refine CallQ.io V.bool (rP true (Aj false)) (by first | rfl | simp only [Aa, V.fz, fzL, V.up, upL, Ab, Ac, Ad, slr, List.cons_append, List.nil_append] | simp [Aa, V.fz, fzL, V.up, upL, Ab, Ac, Ad, slr]) rfl (fun _ => rfl) (fun _ => ⟨rfl, rfl⟩) rfl h (fun r h => Gb h) (fun r5 u6 h => ?_)
   conv => whnf
   refine Br.no ?_
   conv => whnf
   refine Br.ob h (fun p7 h => ?_) (fun p7 h => ?_)
   ·conv => whnf
    refine LendP.io (Ae true) (rP true (Aj false)) (by first | rfl | simp only [Aa, V.fz, fzL, V.up, upL, Ab, Ac, Ad, slr, List.cons_append, List.nil_append] | simp [Aa, V.fz, fzL, V.up, upL, Ab, Ac, Ad, slr]) (fun _ => rfl) (fun _ => ⟨rfl, rfl⟩) (fun _ => rfl) h (fun r h => Fl h) (fun r8 u9 h => ?_)
    conv => whnf
    refine SetKids.lit rfl ?_
    conv => whnf
    refine SetKids.lit rfl ?_
    conv => whnf
    refine FrzQ.d ((rP false (Ae false)) r1) ((A9 _).trans (Eq.trans (b := V.fz ((rP true (Ae false)) r1)) rfl (Ad (rP true (Ae false)) _))) ?_
    conv => whnf
    refine FrzQ.d ((rP false (Ae false)) r8) ((A9 _).trans (Eq.trans (b := V.fz ((rP true (Ae true)) r8)) rfl (Ad (rP true (Ae true)) _))) ?_
    conv => whnf
    cases h; exact ⟨rfl, rfl⟩
   conv => whnf
   cases h; exact ⟨rfl, rfl⟩
  conv => whnf
  refine Br.yes ?_
  conv => whnf
  refine Br.yes ?_
  conv => whnf
  refine Br.yes ?_
  conv => whnf
  refine LendP.io (Ae true) (rP true (Aj false)) (by first | rfl | simp only [Aa, V.fz, fzL, V.up, upL, Ab, Ac, Ad, slr, List.cons_append, List.nil_append] | simp [Aa, V.fz, fzL, V.up, upL, Ab, Ac, Ad, slr]) (fun _ => rfl) (fun _ => ⟨rfl, rfl⟩) (fun _ => rfl) h (fun r h => Fl h) (fun r10 u11 h => ?_)
  conv => whnf
  refine SetKids.lit rfl ?_
  conv => whnf
  refine SetKids.lit rfl ?_
  conv => whnf
  refine FrzQ.d ((rP false (Ae false)) r1) ((A9 _).trans (Eq.trans (b := V.fz ((rP true (Ae false)) r1)) rfl (Ad (rP true (Ae false)) _))) ?_
  conv => whnf
  refine FrzQ.d ((rP false (Ae false)) r10) ((A9 _).trans (Eq.trans (b := V.fz ((rP true (Ae true)) r10)) rfl (Ad (rP true (Ae true)) _))) ?_
  conv => whnf
  cases h; exact ⟨rfl, rfl⟩
 rintro (⟨q12_3, q12_119⟩ | q12_119) h
 ·try dsimp only at h
  conv => whnf
  cases h; exact ⟨(by first | rfl | simp only [Ah, Aa, V.fz, fzL, V.up, upL, Ab, Ac, Ad, slr] | simp [Ah, Aa, V.fz, fzL, V.up, upL, Ab, Ac, Ad, slr]), (by first | rfl | simp only [Ah, Aa, V.fz, fzL, V.up, upL, Ab, Ac, Ad, slr] | simp [Ah, Aa, V.fz, fzL, V.up, upL, Ab, Ac, Ad, slr])⟩
 try dsimp only at h
 conv => whnf
 refine CutQ.o (fun t : ((SAlgebra × SAlgebra × Sl1Cur) ⊕ Sl1Cur) => match t with | (.inl s) => (Ex.ret, [3, 2, 119], [(3, A.val ((rP false (Ae false)) s.1)), (2, A.val ((rP false (Ae false)) s.2.1)), (119, A.val ((rP true (Aj false)) s.2.2))]) | (.inr s) => (Ex.normal, [4, 3, 2, 0, 119], [(4, A.val ((rP false (Ae false)) (r1))), (3, A.val ((rP true (Ae true)) ({ Size := (0 : Int), Ops := Al SOp }))), (2, A.val ((rP true (Ae true)) ({ Size := (0 : Int), Ops := Al SOp }))), (0, A.ref 119 []), (119, A.val ((rP true (Aj false)) s))])) h ?_ ?_
 ·intro t h
  conv => whnf
  refine CallQ.io Ag (rP true (Aj false)) (by first | rfl | simp only [Aa, V.fz, fzL, V.up, upL, Ab, Ac, Ad, slr, List.cons_append, List.nil_append] | simp [Aa, V.fz, fzL, V.up, upL, Ab, Ac, Ad, slr]) rfl (fun _ => rfl) (fun _ => ⟨rfl, rfl⟩) rfl h (fun r h => Ar h) (fun r13 u14 h => ?_)
  conv => whnf
  refine Br.oe h (fun p15 h => ?_) (fun p15 h => ?_)
  ·conv => whnf
   refine CallP.o (Ae true) (by first | rfl | simp only [Aa, V.fz, fzL, V.up, upL, Ab, Ac, Ad, slr, List.cons_append, List.nil_append] | simp [Aa, V.fz, fzL, V.up, upL, Ab, Ac, Ad, slr]) h (fun r h => Z1 h) (fun r16 h => ?_)
   conv => whnf
   refine SetKids.lit rfl ?_
   conv => whnf
   refine SetKids.lit rfl ?_
   conv => whnf
   refine FrzQ.d ((rP false (Ae false)) r1) ((A9 _).trans (Eq.trans (b := V.fz ((rP true (Ae false)) r1)) rfl (Ad (rP true (Ae false)) _))) ?_
   conv => whnf
   refine FrzQ.d ((rP false (Ae false)) r16) ((A9 _).trans (Eq.trans (b := V.fz ((rP true (Ae true)) r16)) rfl (Ad (rP true (Ae true)) _))) ?_
   conv => whnf
   cases h; exact ⟨rfl, rfl⟩
  conv => whnf
  refine Br.oe h (fun p17 h => ?_) (fun p17 h => ?_)
  ·conv => whnf
   refine CallQ.io (slr true 1 Ag) (rP true (Aj false)) (by first | rfl | simp only [Aa, V.fz, fzL, V.up, upL, Ab, Ac, Ad, slr, List.cons_append, List.nil_append] | simp [Aa, V.fz, fzL, V.up, upL, Ab, Ac, Ad, slr]) rfl (fun _ => rfl) (fun _ => ⟨rfl, rfl⟩) rfl h (fun r h => Wy h) (fun r18 u19 h => ?_)
   conv => whnf
   refine FrzQ.d (V.sl false (1 : Nat) (List.map Ag r18)) (by first | (simp only [slr]; done) | (simp [A9, V.fz, Ab, slr]; done)) ?_
   conv => whnf
   refine CallQ.o V.bool (by first | rfl | simp only [Aa, V.fz, fzL, V.up, upL, Ab, Ac, Ad, slr, List.cons_append, List.nil_append] | simp [Aa, V.fz, fzL, V.up, upL, Ab, Ac, Ad, slr]) h (fun r h => Aig h) (fun r20 h => ?_)
   conv => whnf
   refine Br.ob h (fun p21 h => ?_) (fun p21 h => ?_)
   ·conv => whnf
    refine CallP.o (Ae true) (by first | rfl | simp only [Aa, V.fz, fzL, V.up, upL, Ab, Ac, Ad, slr, List.cons_append, List.nil_append] | simp [Aa, V.fz, fzL, V.up, upL, Ab, Ac, Ad, slr]) h (fun r h => Ac1 h) (fun r22 h => ?_)
    conv => whnf
    refine SetKids.lit rfl ?_
    conv => whnf
    refine SetKids.lit rfl ?_
    conv => whnf
    refine FrzQ.d ((rP false (Ae false)) r1) ((A9 _).trans (Eq.trans (b := V.fz ((rP true (Ae false)) r1)) rfl (Ad (rP true (Ae false)) _))) ?_
    conv => whnf
    refine FrzQ.d ((rP false (Ae false)) r22) ((A9 _).trans (Eq.trans (b := V.fz ((rP true (Ae true)) r22)) rfl (Ad (rP true (Ae true)) _))) ?_
    conv => whnf
    cases h; exact ⟨rfl, rfl⟩
   conv => whnf
   cases h; exact ⟨rfl, rfl⟩
  conv => whnf
  refine Br.oe h (fun p23 h => ?_) (fun p23 h => ?_)
  ·conv => whnf
   refine CallQ.o (slr true 1 (slr false 1 Ag)) (by first | rfl | simp only [Aa, V.fz, fzL, V.up, upL, Ab, Ac, Ad, slr, List.cons_append, List.nil_append] | simp [Aa, V.fz, fzL, V.up, upL, Ab, Ac, Ad, slr]) h (fun r h => Alq h) (fun r24 h => ?_)
   conv => whnf
   refine FrzQ.d (V.sl false (1 : Nat) (List.map (slr false (1 : Nat) Ag) r24)) (by first | (simp only [slr]; done) | (simp [A9, V.fz, Ab, slr]; done)) ?_
   conv => whnf
   refine Len.map ?_
   conv => whnf
   refine Ask.o h fun p25 h => ?_
   conv => whnf
   refine Len.map ?_
   conv => whnf
   refine Ask.o h fun p26 h => ?_
   conv => whnf
   refine Elem.o (by first | omega | (simp [Ap] at *; omega)) ?_
   conv => whnf
   refine Len.map ?_
   conv => whnf
   refine Br.od h (fun p27 h => ?_) (fun p27 h => ?_)
   ·conv => whnf
    refine Len.map ?_
    conv => whnf
    refine CallQ.io Ag (rP true (Aj false)) (by first | rfl | simp only [Aa, V.fz, fzL, V.up, upL, Ab, Ac, Ad, slr, List.cons_append, List.nil_append] | simp [Aa, V.fz, fzL, V.up, upL, Ab, Ac, Ad, slr]) rfl (fun _ => rfl) (fun _ => ⟨rfl, rfl⟩) rfl h (fun r h => Ar h) (fun r28 u29 h => ?_)
    conv => whnf
    refine Len.map ?_
    conv => whnf
    refine Ask.o h fun p30 h => ?_
    conv => whnf
    refine Elem.o (by first | omega | (simp [Ap] at *; omega)) ?_
    conv => whnf
    refine Len.map ?_
    conv => whnf
    refine Br.od h (fun p31 h => ?_) (fun p31 h => ?_)
    ·conv => whnf
     refine SameQ.mk ⟨rfl, ?_⟩
     conv => whnf
     refine SameQ.mk ⟨rfl, ?_⟩
     conv => whnf
     refine SameQ.mk ⟨rfl, ?_⟩
     conv => whnf
     refine CallQ.o (Ae true) (by first | rfl | simp only [Aa, V.fz, fzL, V.up, upL, Ab, Ac, Ad, slr, List.cons_append, List.nil_append] | simp [Aa, V.fz, fzL, V.up, upL, Ab, Ac, Ad, slr]) h (fun r h => Ak7 h) (fun r32 h => ?_)
     conv => whnf
     refine SameQ.mk ⟨rfl, ?_⟩
     conv => whnf
     refine SetKids.lit rfl ?_
     conv => whnf
     refine SameQ.mk ⟨rfl, ?_⟩
     conv => whnf
     refine SetKids.lit rfl ?_
     conv => whnf
     refine FrzQ.d ((rP false (Ae false)) r32) ((A9 _).trans (Eq.trans (b := V.fz ((rP true (Ae true)) r32)) rfl (Ad (rP true (Ae true)) _))) ?_
     conv => whnf
     refine FrzQ.d ((rP false (Ae false)) r1) ((A9 _).trans (Eq.trans (b := V.fz ((rP true (Ae false)) r1)) rfl (Ad (rP true (Ae false)) _))) ?_
     conv => whnf
     cases h; exact ⟨rfl, rfl⟩
    conv => whnf
    cases h; exact ⟨rfl, rfl⟩
   conv => whnf
   cases h; exact ⟨rfl, rfl⟩
  conv => whnf
  refine Br.oe h (fun p33 h => ?_) (fun p33 h => ?_)
  ·conv => whnf
   refine LoopQ.o [8, 4, 3, 2, 0, 119] (Hk r1) (Mf r1) h (fun s o h => Vv s o h) (by first | rfl | simp [restrict, look, Aa, V.fz, fzL, V.up, upL, Ab, Ac, Ad, slr]) (by rintro (_ | _) <;> rfl) ?_
   rintro (⟨q43_3, q43_119⟩ | q43_119) h
   ·try dsimp only at h
    conv => whnf
    cases h; exact ⟨rfl, rfl⟩
   try dsimp only at h
   conv => whnf
   cases h; exact ⟨rfl, rfl⟩
  conv => whnf
  cases h; exact ⟨rfl, rfl⟩
 rintro (⟨q44_3, q44_2, q44_119⟩ | q44_119) h
 ·try dsimp only at h
  conv => whnf
  cases h; exact ⟨(by first | rfl | simp only [Ah, Aa, V.fz, fzL, V.up, upL, Ab, Ac, Ad, slr] | simp [Ah, Aa, V.fz, fzL, V.up, upL, Ab, Ac, Ad, slr]), (by first | rfl | simp only [Ah, Aa, V.fz, fzL, V.up, upL, Ab, Ac, Ad, slr] | simp [Ah, Aa, V.fz, fzL, V.up, upL, Ab, Ac, Ad, slr])⟩
 try dsimp only at h
 conv => whnf
 refine CallQ.o (Ae true) (by first | rfl | simp only [Aa, V.fz, fzL, V.up, upL, Ab, Ac, Ad, slr, List.cons_append, List.nil_append] | simp [Aa, V.fz, fzL, V.up, upL, Ab, Ac, Ad, slr]) h (fun r h => Z1 h) (fun r45 h => ?_)
 conv => whnf
 refine SetKids.lit rfl ?_
 conv => whnf
 refine LoopQ.o [11, 10, 4, 3, 2, 0, 119] (Hu r1) (Mh r1) h (fun s o h => U8 s o h) (by first | rfl | simp [restrict, look, Aa, V.fz, fzL, V.up, upL, Ab, Ac, Ad, slr]) (fun _ => rfl) ?_
 rintro ⟨q54_10, q54_119⟩ h
 try dsimp only at h
 conv => whnf
 refine FrzQ.d ((rP false (Ae false)) q54_10) ((A9 _).trans (Eq.trans (b := V.fz ((rP true (Ae true)) q54_10)) rfl (Ad (rP true (Ae true)) _))) ?_
 conv => whnf
 refine SameQ.mk ⟨rfl, ?_⟩
 conv => whnf
 refine SameQ.mk ⟨rfl, ?_⟩
 conv => whnf
 refine SetKids.lit rfl ?_
 conv => whnf
 refine SameQ.mk ⟨rfl, ?_⟩
 conv => whnf
 refine SetKids.lit rfl ?_
 conv => whnf
 refine FrzQ.d ((rP false (Ae false)) r1) ((A9 _).trans (Eq.trans (b := V.fz ((rP true (Ae false)) r1)) rfl (Ad (rP true (Ae false)) _))) ?_
 conv => whnf
 refine FrzQ.d ((rP false (Ae false)) q54_10) ((A9 _).trans (Eq.trans (b := V.fz ((rP true (Ae false)) q54_10)) rfl (Ad (rP true (Ae false)) _))) ?_
 conv => whnf
 cases h; exact ⟨(by first | rfl | simp only [Ah, Aa, V.fz, fzL, V.up, upL, Ab, Ac, Ad, slr] | simp [Ah, Aa, V.fz, fzL, V.up, upL, Ab, Ac, Ad, slr]), (by first | rfl | simp only [Ah, Aa, V.fz, fzL, V.up, upL, Ab, Ac, Ad, slr] | simp [Ah, Aa, V.fz, fzL, V.up, upL, Ab, Ac, Ad, slr])⟩
noncomputable def Gs (a0 : SAlgebra) (b0 : SAlgebra) (f0 : (List Int)) : Option (Int × (List Int) × Bool) :=
 (((Cg (a0) (b0)).bind fun r1 =>
 if (r1) = true then
 (Ib (a0) (b0) (f0)).bind fun r3 =>
 if (r3) = true then
 some (.inl ())
 else
 some (.inr ())
 else
 some (.inr ()) : Option (Unit ⊕ Unit))).bind fun t => match t with
 | (.inl _) => ((E3 (a0) (b0) (f0)).bind fun r6 =>
 if r6.fst < (0 : Int) then
 some ((0 : Int), Al Int, false)
 else
 ask ((0 : Int) ≤ r6.fst ∧ r6.fst < (↑a0.Ops.length : Int)) <|
 (Io (r6.snd) ((nth a0.Ops r6.fst.toNat).Arity) (a0.Size)).bind fun r9 =>
 some (r6.fst, r9, true))
 | (.inr _) => (some ((0 : Int), Al Int, false))
theorem Adz {a0 : SAlgebra} {b0 : SAlgebra} {f0 : (List Int)} {v : (Int × (List Int) × Bool)} (h : Gs a0 b0 f0 = some v) : Ret Try.prog Nj [(Ae false) a0, (Ae false) b0, (slr false 1 Ag) f0] ((fun r => V.tup [Ag r.1, (slr true 1 Ag) r.2.1, V.bool r.2.2]) v) := by
 refine Av Ac5 (Nat.le_of_ble_eq_true rfl) ?_
 unfold Gs at h
 conv => whnf
 refine CutQ.o (fun t : (Unit ⊕ Unit) => match t with | (.inl s) => (Ex.normal, [4, 3, 2], [(4, A.val ((rP true (Ae false)) (b0))), (3, A.val ((rP true (Ae false)) (a0))), (2, A.val ((slr false 1 Ag) (f0)))]) | (.inr s) => (Ex.ret, [8, 7, 6], [(8, A.val (V.bool (false))), (7, A.val ((slr true 1 Ag) (Al Int))), (6, A.val (Ag ((0 : Int))))])) h ?_ ?_
 ·intro t h
  conv => whnf
  refine Cells.lit rfl rfl ?_
  conv => whnf
  refine Cells.lit rfl rfl ?_
  conv => whnf
  refine CallQ.o V.bool (by first | rfl | simp only [Aa, V.fz, fzL, V.up, upL, Ab, Ac, Ad, slr, List.cons_append, List.nil_append] | simp [Aa, V.fz, fzL, V.up, upL, Ab, Ac, Ad, slr]) h (fun r h => Gy h) (fun r1 h => ?_)
  conv => whnf
  refine Br.flip ?_
  conv => whnf
  refine Br.ob h (fun p2 h => ?_) (fun p2 h => ?_)
  ·conv => whnf
   refine Cells.lit rfl rfl ?_
   conv => whnf
   refine Br.no ?_
   conv => whnf
   refine Cells.lit rfl rfl ?_
   conv => whnf
   refine Br.no ?_
   conv => whnf
   refine Br.no ?_
   conv => whnf
   refine CallQ.o V.bool (by first | rfl | simp only [Aa, V.fz, fzL, V.up, upL, Ab, Ac, Ad, slr, List.cons_append, List.nil_append] | simp [Aa, V.fz, fzL, V.up, upL, Ab, Ac, Ad, slr]) h (fun r h => Yg h) (fun r3 h => ?_)
   conv => whnf
   refine Br.no ?_
   conv => whnf
   refine Br.no ?_
   conv => whnf
   refine Br.flip ?_
   conv => whnf
   refine Br.ob h (fun p4 h => ?_) (fun p4 h => ?_)
   ·conv => whnf
    cases h; exact ⟨rfl, rfl⟩
   conv => whnf
   refine BslQ.o Ag (Al Int) (by exact fun _ => ⟨rfl, rfl⟩) (by first | rfl | simp only [Aa, V.fz, fzL, V.up, upL, Ab, Ac, Ad, slr, List.cons_append, List.nil_append] | simp [Aa, V.fz, fzL, V.up, upL, Ab, Ac, Ad, slr]) ?_
   conv => whnf
   cases h; exact ⟨rfl, rfl⟩
  conv => whnf
  refine Br.yes ?_
  conv => whnf
  refine Br.yes ?_
  conv => whnf
  refine Br.yes ?_
  conv => whnf
  refine Br.yes ?_
  conv => whnf
  refine Br.yes ?_
  conv => whnf
  refine Br.yes ?_
  conv => whnf
  refine BslQ.o Ag (Al Int) (by exact fun _ => ⟨rfl, rfl⟩) (by first | rfl | simp only [Aa, V.fz, fzL, V.up, upL, Ab, Ac, Ad, slr, List.cons_append, List.nil_append] | simp [Aa, V.fz, fzL, V.up, upL, Ab, Ac, Ad, slr]) ?_
  conv => whnf
  cases h; exact ⟨rfl, rfl⟩
 rintro (⟨⟩ | ⟨⟩) h
 ·try dsimp only at h
  conv => whnf
  refine Cells.lit rfl rfl ?_
  conv => whnf
  refine Cells.lit rfl rfl ?_
  conv => whnf
  refine CallQ.o (fun r => V.tup [Ag r.1, Ag r.2]) (by first | rfl | simp only [Aa, V.fz, fzL, V.up, upL, Ab, Ac, Ad, slr, List.cons_append, List.nil_append] | simp [Aa, V.fz, fzL, V.up, upL, Ab, Ac, Ad, slr]) h (fun r h => V1 h) (fun r6 h => ?_)
  conv => whnf
  refine Br.od h (fun p7 h => ?_) (fun p7 h => ?_)
  ·conv => whnf
   refine BslQ.o Ag (Al Int) (by exact fun _ => ⟨rfl, rfl⟩) (by first | rfl | simp only [Aa, V.fz, fzL, V.up, upL, Ab, Ac, Ad, slr, List.cons_append, List.nil_append] | simp [Aa, V.fz, fzL, V.up, upL, Ab, Ac, Ad, slr]) ?_
   conv => whnf
   cases h; exact (by first | rfl | simp only [Ah, Aa, V.fz, fzL, V.up, upL, Ab, Ac, Ad, slr] | simp [Ah, Aa, V.fz, fzL, V.up, upL, Ab, Ac, Ad, slr])
  conv => whnf
  refine Cells.lit rfl rfl ?_
  conv => whnf
  refine Len.map ?_
  conv => whnf
  refine Ask.o h fun p8 h => ?_
  conv => whnf
  refine Elem.o (by first | omega | (simp [Ap] at *; omega)) ?_
  conv => whnf
  refine Cells.lit rfl rfl ?_
  conv => whnf
  refine CallP.o (slr true 1 Ag) (by first | rfl | simp only [Aa, V.fz, fzL, V.up, upL, Ab, Ac, Ad, slr, List.cons_append, List.nil_append] | simp [Aa, V.fz, fzL, V.up, upL, Ab, Ac, Ad, slr]) h (fun r h => Ah4 h) (fun r9 h => ?_)
  conv => whnf
  cases h; exact (by first | rfl | simp only [Ah, Aa, V.fz, fzL, V.up, upL, Ab, Ac, Ad, slr] | simp [Ah, Aa, V.fz, fzL, V.up, upL, Ab, Ac, Ad, slr])
 try dsimp only at h
 conv => whnf
 cases h; exact (by first | rfl | simp only [Ah, Aa, V.fz, fzL, V.up, upL, Ab, Ac, Ad, slr] | simp [Ah, Aa, V.fz, fzL, V.up, upL, Ab, Ac, Ad, slr])
noncomputable def H8 (a0 : SAlgebra) (b0 : SAlgebra) (f0 : (List Int)) : Option (Bool × Bool) :=
 (Cg (a0) (b0)).bind fun r1 =>
 if (r1) = true then
 (Fa (a0) (b0) (f0)).bind fun r3 =>
 some (r3, true)
 else
 some (false, false)
theorem Yx {a0 : SAlgebra} {b0 : SAlgebra} {f0 : (List Int)} {v : (Bool × Bool)} (h : H8 a0 b0 f0 = some v) : Ret Try.prog Nu [(Ae false) a0, (Ae false) b0, (slr false 1 Ag) f0] ((fun r => V.tup [V.bool r.1, V.bool r.2]) v) := by
 refine Av Alt (Nat.le_of_ble_eq_true rfl) ?_
 unfold H8 at h
 conv => whnf
 refine Cells.lit rfl rfl ?_
 conv => whnf
 refine Cells.lit rfl rfl ?_
 conv => whnf
 refine CallQ.o V.bool (by first | rfl | simp only [Aa, V.fz, fzL, V.up, upL, Ab, Ac, Ad, slr, List.cons_append, List.nil_append] | simp [Aa, V.fz, fzL, V.up, upL, Ab, Ac, Ad, slr]) h (fun r h => Gy h) (fun r1 h => ?_)
 conv => whnf
 refine Br.flip ?_
 conv => whnf
 refine Br.ob h (fun p2 h => ?_) (fun p2 h => ?_)
 ·conv => whnf
  refine Cells.lit rfl rfl ?_
  conv => whnf
  refine Cells.lit rfl rfl ?_
  conv => whnf
  refine CallQ.o V.bool (by first | rfl | simp only [Aa, V.fz, fzL, V.up, upL, Ab, Ac, Ad, slr, List.cons_append, List.nil_append] | simp [Aa, V.fz, fzL, V.up, upL, Ab, Ac, Ad, slr]) h (fun r h => Nr h) (fun r3 h => ?_)
  conv => whnf
  cases h; exact (by first | rfl | simp only [Ah, Aa, V.fz, fzL, V.up, upL, Ab, Ac, Ad, slr] | simp [Ah, Aa, V.fz, fzL, V.up, upL, Ab, Ac, Ad, slr])
 conv => whnf
 cases h; exact (by first | rfl | simp only [Ah, Aa, V.fz, fzL, V.up, upL, Ab, Ac, Ad, slr] | simp [Ah, Aa, V.fz, fzL, V.up, upL, Ab, Ac, Ad, slr])
end Go.Proofs.Ytiakjbigaaanhaa.Ax
