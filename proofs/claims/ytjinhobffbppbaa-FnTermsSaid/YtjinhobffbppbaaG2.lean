/-
 What the functions compute, as functions on plain data, and that the program does compute it; written by program.
-/
import Derived.Test.YtjinhobffbppbaaCode
namespace Go.Proofs.Ytjinhobffbppbaa.Ax
open Go
set_option maxRecDepth 100000
set_option maxHeartbeats 4000000
noncomputable def D5 (a0 : SAlgebra) (t0 : List Int) (_values0 : List Int) (x8 : Int) (x7 : List Int) : (Int × Int) → Option ((Int × Int) ⊕ Int) := fun (x12, x11) =>
 if x12 < (nth a0.Ops ((-1 : Int) - nth t0 x8.toNat).toNat).Arity then
 ask (InI (x11 * a0.Size)) <|
 ask (InI ((↑x7.length : Int) - (1 : Int))) <|
 ask (InI ((↑x7.length : Int) - (1 : Int) - x12)) <|
 ask ((0 : Int) ≤ (↑x7.length : Int) - (1 : Int) - x12 ∧ (↑x7.length : Int) - (1 : Int) - x12 < (↑x7.length : Int)) <|
 ask (InI (x11 * a0.Size + nth x7 ((↑x7.length : Int) - (1 : Int) - x12).toNat)) <|
 ask (InI (x12 + (1 : Int))) <|
 some (.inl (x12 + (1 : Int), x11 * a0.Size + nth x7 ((↑x7.length : Int) - (1 : Int) - x12).toNat))
 else
 some (.inr x11)
def Kt (a0 : SAlgebra) (t0 : List Int) (values0 : List Int) (x8 : Int) (x7 : List Int) : (Int × Int) → St := fun s => [(12, A.val (Ae s.1)), (11, A.val (Ae s.2)), (10, A.val ((rP true (Ba false)) (nth a0.Ops ((-1 : Int) - nth t0 x8.toNat).toNat))), (8, A.val (Ae (x8))), (7, A.val ((slr true 1 Ae) (x7))), (3, A.val ((rP true (Ag false)) (a0))), (1, A.val ((slr false 1 Ae) (t0))), (2, A.val ((slr false 1 Ae) (values0)))]
def Pq (a0 : SAlgebra) (t0 : List Int) (values0 : List Int) (x8 : Int) (x7 : List Int) : Int → Tgt
 | s => ((Ex.exit 2), [11, 10, 8, 7, 3, 1, 2], [(11, A.val (Ae s)), (10, A.val ((rP true (Ba false)) (nth a0.Ops ((-1 : Int) - nth t0 x8.toNat).toNat))), (8, A.val (Ae (x8))), (7, A.val ((slr true 1 Ae) (x7))), (3, A.val ((rP true (Ag false)) (a0))), (1, A.val ((slr false 1 Ae) (t0))), (2, A.val ((slr false 1 Ae) (values0)))])
theorem Za {a0 : SAlgebra} {t0 : List Int} {values0 : List Int} {x8 : Int} {x7 : List Int} (s : (Int × Int)) (o : (Int × Int) ⊕ Int) (h : D5 a0 t0 values0 x8 x7 s = some o) : vc Try.prog Ph (F6 [12, 11, 10, 8, 7, 3, 1, 2] (Kt a0 t0 values0 x8 x7) (Pq a0 t0 values0 x8 x7) o) (Kt a0 t0 values0 x8 x7 s) := by
 obtain ⟨x12, x11⟩ := s
 unfold D5 at h
 try dsimp only at h
 conv => whnf
 refine Cells.lit rfl rfl ?_
 conv => whnf
 refine Br.od h (fun p10 h => ?_) (fun p10 h => ?_)
 ·conv => whnf
  refine Cells.lit rfl rfl ?_
  conv => whnf
  refine Ask.o h fun p11 h => ?_
  conv => whnf
  refine Len.map ?_
  conv => whnf
  refine Ask.o h fun p12 h => ?_
  conv => whnf
  refine Ask.o h fun p13 h => ?_
  conv => whnf
  refine Len.map ?_
  conv => whnf
  refine Ask.o h fun p14 h => ?_
  conv => whnf
  refine Cells.one (fun _ => ⟨rfl, rfl⟩) (by first | omega | (simp [A5] at *; omega)) ?_
  conv => whnf
  refine Ask.o h fun p15 h => ?_
  conv => whnf
  refine Ask.o h fun p16 h => ?_
  conv => whnf
  cases h; exact ⟨rfl, rfl⟩
 conv => whnf
 cases h; exact ⟨rfl, rfl⟩
noncomputable def Es (a0 : SAlgebra) (t0 : List Int) (values0 : List Int) : (Int × (List Int)) → Option ((Int × (List Int)) ⊕ (List Int)) := fun (x8, x7) =>
 if x8 ≥ (0 : Int) then
 ask ((0 : Int) ≤ x8 ∧ x8 < (↑t0.length : Int)) <|
 if nth t0 x8.toNat ≥ (0 : Int) then
 ask ((0 : Int) ≤ nth t0 x8.toNat ∧ nth t0 x8.toNat < (↑values0.length : Int)) <|
 ask ((x7).length + ([nth values0 (nth t0 x8.toNat).toNat]).length ≤ LIM) <|
 ask (InI (x8 - (1 : Int))) <|
 some (.inl (x8 - (1 : Int), x7 ++ [nth values0 (nth t0 x8.toNat).toNat]))
 else
 ask (InI ((-1 : Int) - nth t0 x8.toNat)) <|
 ask ((0 : Int) ≤ (-1 : Int) - nth t0 x8.toNat ∧ (-1 : Int) - nth t0 x8.toNat < (↑a0.Ops.length : Int)) <|
 (Bb (D5 a0 t0 values0 x8 x7) ((0 : Int), (0 : Int))).bind fun q17_11 =>
 ask ((0 : Int) ≤ q17_11 ∧ q17_11 < (↑(nth a0.Ops ((-1 : Int) - nth t0 x8.toNat).toNat).Table.length : Int)) <|
 ask (InI ((↑x7.length : Int) - (nth a0.Ops ((-1 : Int) - nth t0 x8.toNat).toNat).Arity)) <|
 ask (0 ≤ (0 : Int) ∧ (0 : Int) ≤ (↑x7.length : Int) - (nth a0.Ops ((-1 : Int) - nth t0 x8.toNat).toNat).Arity ∧ (↑x7.length : Int) - (nth a0.Ops ((-1 : Int) - nth t0 x8.toNat).toNat).Arity ≤ ((x7.length : Nat) : Int)) <|
 ask ((List.take (((↑x7.length : Int) - (nth a0.Ops ((-1 : Int) - nth t0 x8.toNat).toNat).Arity).toNat - Int.toNat (0 : Int)) (List.drop (Int.toNat (0 : Int)) x7)).length + ([nth (nth a0.Ops ((-1 : Int) - nth t0 x8.toNat).toNat).Table q17_11.toNat]).length ≤ LIM) <|
 ask (InI (x8 - (1 : Int))) <|
 some (.inl (x8 - (1 : Int), List.take (((↑x7.length : Int) - (nth a0.Ops ((-1 : Int) - nth t0 x8.toNat).toNat).Arity).toNat - Int.toNat (0 : Int)) (List.drop (Int.toNat (0 : Int)) x7) ++ [nth (nth a0.Ops ((-1 : Int) - nth t0 x8.toNat).toNat).Table q17_11.toNat]))
 else
 some (.inr x7)
def Kq (a0 : SAlgebra) (t0 : List Int) (values0 : List Int) : (Int × (List Int)) → St := fun s => [(8, A.val (Ae s.1)), (7, A.val ((slr true 1 Ae) s.2)), (3, A.val ((rP true (Ag false)) (a0))), (1, A.val ((slr false 1 Ae) (t0))), (2, A.val ((slr false 1 Ae) (values0)))]
def Pb (_a0 : SAlgebra) (_t0 : List Int) (_values0 : List Int) : (List Int) → Tgt
 | s => ((Ex.exit 0), [7], [(7, A.val ((slr true 1 Ae) s))])
theorem Xr {a0 : SAlgebra} {t0 : List Int} {values0 : List Int} (s : (Int × (List Int))) (o : (Int × (List Int)) ⊕ (List Int)) (h : Es a0 t0 values0 s = some o) : vc Try.prog Ot (F6 [8, 7, 3, 1, 2] (Kq a0 t0 values0) (Pb a0 t0 values0) o) (Kq a0 t0 values0 s) := by
 obtain ⟨x8, x7⟩ := s
 unfold Es at h
 try dsimp only at h
 conv => whnf
 refine Br.od h (fun p3 h => ?_) (fun p3 h => ?_)
 ·conv => whnf
  refine Len.map ?_
  conv => whnf
  refine Ask.o h fun p4 h => ?_
  conv => whnf
  refine Elem.o (by first | omega | (simp [A5] at *; omega)) ?_
  conv => whnf
  refine Br.od h (fun p5 h => ?_) (fun p5 h => ?_)
  ·conv => whnf
   refine Len.map ?_
   conv => whnf
   refine Ask.o h fun p6 h => ?_
   conv => whnf
   refine Elem.o (by first | omega | (simp [A5] at *; omega)) ?_
   conv => whnf
   refine BslQ.o Ae ([nth values0 (nth t0 x8.toNat).toNat]) (by exact fun _ => ⟨rfl, rfl⟩) (by first | rfl | simp only [Aa, V.fz, fzL, V.up, upL, Ab, Ac, Ad, slr, List.cons_append, List.nil_append] | simp [Aa, V.fz, fzL, V.up, upL, Ab, Ac, Ad, slr]) ?_
   conv => whnf
   refine NoOwn.o (fun _ => rfl) ?_
   conv => whnf
   refine AppQ.o (m := 1) Ae (by exact fun _ => ⟨rfl, rfl⟩) (x7) ([nth values0 (nth t0 x8.toNat).toNat]) (by first | rfl | simp only [Aa, V.fz, fzL, V.up, upL, Ab, Ac, Ad, slr, List.cons_append, List.nil_append] | simp [Aa, V.fz, fzL, V.up, upL, Ab, Ac, Ad, slr]) (by first | rfl | simp only [Aa, V.fz, fzL, V.up, upL, Ab, Ac, Ad, slr, List.cons_append, List.nil_append] | simp [Aa, V.fz, fzL, V.up, upL, Ab, Ac, Ad, slr]) h fun h => ?_
   conv => whnf
   refine Ask.o h fun p7 h => ?_
   conv => whnf
   cases h; exact ⟨rfl, rfl⟩
  conv => whnf
  refine Cells.lit rfl rfl ?_
  conv => whnf
  refine Ask.o h fun p8 h => ?_
  conv => whnf
  refine Len.map ?_
  conv => whnf
  refine Ask.o h fun p9 h => ?_
  conv => whnf
  refine Elem.o (by first | omega | (simp [A5] at *; omega)) ?_
  conv => whnf
  refine SetKids.lit rfl ?_
  conv => whnf
  refine LoopQ.o [12, 11, 10, 8, 7, 3, 1, 2] (Kt a0 t0 values0 x8 x7) (Pq a0 t0 values0 x8 x7) h (fun s o h => Za s o h) (by first | rfl | simp [restrict, look, Aa, V.fz, fzL, V.up, upL, Ab, Ac, Ad, slr]) (fun _ => rfl) ?_
  rintro q17_11 h
  try dsimp only at h
  conv => whnf
  refine Cells.lit rfl rfl ?_
  conv => whnf
  refine Cells.lit rfl rfl ?_
  conv => whnf
  refine Len.map ?_
  conv => whnf
  refine Ask.o h fun p18 h => ?_
  conv => whnf
  refine Elem.o (by first | omega | (simp [A5] at *; omega)) ?_
  conv => whnf
  obtain ⟨p21, h⟩ := Bz.1 h
  obtain ⟨p22, h⟩ := Bz.1 h
  obtain ⟨p23, h⟩ := Bz.1 h
  obtain ⟨p24, h⟩ := Bz.1 h
  refine Two.mk ⟨?_, ?_⟩
  ·conv => whnf
   refine SameQ.mk ⟨rfl, ?_⟩
   conv => whnf
   refine SameQ.mk ⟨rfl, ?_⟩
   conv => whnf
   refine SameQ.mk ⟨rfl, ?_⟩
   conv => whnf
   refine Cells.lit rfl rfl ?_
   conv => whnf
   refine SameQ.mk ⟨rfl, ?_⟩
   conv => whnf
   refine SameQ.mk ⟨rfl, ?_⟩
   conv => whnf
   refine Cells.lit rfl rfl ?_
   conv => whnf
   refine SameQ.mk ⟨rfl, ?_⟩
   conv => whnf
   refine SameQ.mk ⟨rfl, ?_⟩
   conv => whnf
   refine Len.map ?_
   conv => whnf
   refine Ask.mk p18 ?_
   conv => whnf
   refine Elem.o (by first | omega | (simp [A5] at *; omega)) ?_
   conv => whnf
   refine SameQ.mk ⟨rfl, ?_⟩
   conv => whnf
   refine SameQ.mk ⟨rfl, ?_⟩
   conv => whnf
   refine Len.map ?_
   conv => whnf
   refine Two.mk ⟨?_, ?_⟩
   ·conv => whnf
    refine SameQ.mk ⟨rfl, ?_⟩
    conv => whnf
    refine SameQ.mk ⟨rfl, ?_⟩
    conv => whnf
    refine Cells.lit rfl rfl ?_
    conv => whnf
    refine SameQ.mk ⟨rfl, ?_⟩
    conv => whnf
    refine SameQ.mk ⟨rfl, ?_⟩
    conv => whnf
    refine Cells.lit rfl rfl ?_
    conv => whnf
    refine SameQ.mk ⟨rfl, ?_⟩
    conv => whnf
    refine SameQ.mk ⟨rfl, ?_⟩
    conv => whnf
    refine Len.map ?_
    conv => whnf
    refine Ask.mk p18 ?_
    conv => whnf
    refine Elem.o (by first | omega | (simp [A5] at *; omega)) ?_
    conv => whnf
    refine SameQ.mk ⟨rfl, ?_⟩
    conv => whnf
    refine SameQ.mk ⟨rfl, ?_⟩
    conv => whnf
    refine Ask.mk p21 ?_
    conv => whnf
    refine Two.mk ⟨?_, ?_⟩
    ·conv => whnf
     refine SameQ.mk ⟨rfl, ?_⟩
     conv => whnf
     refine SameQ.mk ⟨rfl, ?_⟩
     conv => whnf
     refine Cells.lit rfl rfl ?_
     conv => whnf
     refine SameQ.mk ⟨rfl, ?_⟩
     conv => whnf
     refine SameQ.mk ⟨rfl, ?_⟩
     conv => whnf
     refine Len.map ?_
     conv => whnf
     refine Ask.mk p18 ?_
     conv => whnf
     refine Elem.o (by first | omega | (simp [A5] at *; omega)) ?_
     conv => whnf
     refine SameQ.mk ⟨rfl, ?_⟩
     conv => whnf
     refine SameQ.mk ⟨rfl, ?_⟩
     conv => whnf
     refine SlcQ.o Ae (Bz.2 ⟨p22, h⟩) fun h => ?_
     conv => whnf
     refine SameQ.mk ⟨rfl, ?_⟩
     conv => whnf
     refine Cells.lit rfl rfl ?_
     conv => whnf
     refine SameQ.mk ⟨rfl, ?_⟩
     conv => whnf
     refine SameQ.mk ⟨rfl, ?_⟩
     conv => whnf
     refine Len.map ?_
     conv => whnf
     refine Ask.mk p18 ?_
     conv => whnf
     refine Elem.o (by first | omega | (simp [A5] at *; omega)) ?_
     conv => whnf
     refine SameQ.mk ⟨rfl, ?_⟩
     conv => whnf
     refine SameQ.mk ⟨rfl, ?_⟩
     conv => whnf
     refine BslQ.o Ae ([nth (nth a0.Ops ((-1 : Int) - nth t0 x8.toNat).toNat).Table q17_11.toNat]) (by exact fun _ => ⟨rfl, rfl⟩) (by first | rfl | simp only [Aa, V.fz, fzL, V.up, upL, Ab, Ac, Ad, slr, List.cons_append, List.nil_append] | simp [Aa, V.fz, fzL, V.up, upL, Ab, Ac, Ad, slr]) ?_
     conv => whnf
     refine NoOwn.o (fun _ => rfl) ?_
     conv => whnf
     refine AppQ.o (m := 1) Ae (by exact fun _ => ⟨rfl, rfl⟩) (List.take (((↑x7.length : Int) - (nth a0.Ops ((-1 : Int) - nth t0 x8.toNat).toNat).Arity).toNat - Int.toNat (0 : Int)) (List.drop (Int.toNat (0 : Int)) x7)) ([nth (nth a0.Ops ((-1 : Int) - nth t0 x8.toNat).toNat).Table q17_11.toNat]) (by first | rfl | simp only [Aa, V.fz, fzL, V.up, upL, Ab, Ac, Ad, slr, List.cons_append, List.nil_append] | simp [Aa, V.fz, fzL, V.up, upL, Ab, Ac, Ad, slr]) (by first | rfl | simp only [Aa, V.fz, fzL, V.up, upL, Ab, Ac, Ad, slr, List.cons_append, List.nil_append] | simp [Aa, V.fz, fzL, V.up, upL, Ab, Ac, Ad, slr]) (Bz.2 ⟨p23, h⟩) fun h => ?_
     conv => whnf
     refine Ask.mk p24 ?_
     conv => whnf
     cases h; exact ⟨rfl, rfl⟩
    conv => whnf
    refine SameQ.mk ⟨rfl, ?_⟩
    conv => whnf
    refine SameQ.mk ⟨rfl, ?_⟩
    conv => whnf
    refine Cells.lit rfl rfl ?_
    conv => whnf
    refine SameQ.mk ⟨rfl, ?_⟩
    conv => whnf
    refine SameQ.mk ⟨rfl, ?_⟩
    conv => whnf
    refine Len.map ?_
    conv => whnf
    refine Ask.mk p18 ?_
    conv => whnf
    refine Elem.o (by first | omega | (simp [A5] at *; omega)) ?_
    conv => whnf
    refine SameQ.mk ⟨rfl, ?_⟩
    conv => whnf
    refine SameQ.mk ⟨rfl, ?_⟩
    conv => whnf
    refine BslQ.o Ae ([nth (nth a0.Ops ((-1 : Int) - nth t0 x8.toNat).toNat).Table q17_11.toNat]) (by exact fun _ => ⟨rfl, rfl⟩) (by first | rfl | simp only [Aa, V.fz, fzL, V.up, upL, Ab, Ac, Ad, slr, List.cons_append, List.nil_append] | simp [Aa, V.fz, fzL, V.up, upL, Ab, Ac, Ad, slr]) ?_
    conv => whnf
    refine SameQ.mk ⟨rfl, ?_⟩
    conv => whnf
    refine SlcQ.o Ae (Bz.2 ⟨p22, h⟩) fun h => ?_
    conv => whnf
    refine NoOwn.o (fun _ => rfl) ?_
    conv => whnf
    refine AppQ.o (m := 1) Ae (by exact fun _ => ⟨rfl, rfl⟩) (List.take (((↑x7.length : Int) - (nth a0.Ops ((-1 : Int) - nth t0 x8.toNat).toNat).Arity).toNat - Int.toNat (0 : Int)) (List.drop (Int.toNat (0 : Int)) x7)) ([nth (nth a0.Ops ((-1 : Int) - nth t0 x8.toNat).toNat).Table q17_11.toNat]) (by first | rfl | simp only [Aa, V.fz, fzL, V.up, upL, Ab, Ac, Ad, slr, List.cons_append, List.nil_append] | simp [Aa, V.fz, fzL, V.up, upL, Ab, Ac, Ad, slr]) (by first | rfl | simp only [Aa, V.fz, fzL, V.up, upL, Ab, Ac, Ad, slr, List.cons_append, List.nil_append] | simp [Aa, V.fz, fzL, V.up, upL, Ab, Ac, Ad, slr]) (Bz.2 ⟨p23, h⟩) fun h => ?_
    conv => whnf
    refine Ask.mk p24 ?_
    conv => whnf
    cases h; exact ⟨rfl, rfl⟩
   conv => whnf
   refine SameQ.mk ⟨rfl, ?_⟩
   conv => whnf
   refine SameQ.mk ⟨rfl, ?_⟩
   conv => whnf
   refine Cells.lit rfl rfl ?_
   conv => whnf
   refine SameQ.mk ⟨rfl, ?_⟩
   conv => whnf
   refine SameQ.mk ⟨rfl, ?_⟩
   conv => whnf
   refine Cells.lit rfl rfl ?_
   conv => whnf
   refine SameQ.mk ⟨rfl, ?_⟩
   conv => whnf
   refine SameQ.mk ⟨rfl, ?_⟩
   conv => whnf
   refine Len.map ?_
   conv => whnf
   refine Ask.mk p18 ?_
   conv => whnf
   refine Elem.o (by first | omega | (simp [A5] at *; omega)) ?_
   conv => whnf
   refine SameQ.mk ⟨rfl, ?_⟩
   conv => whnf
   refine SameQ.mk ⟨rfl, ?_⟩
   conv => whnf
   refine BslQ.o Ae ([nth (nth a0.Ops ((-1 : Int) - nth t0 x8.toNat).toNat).Table q17_11.toNat]) (by exact fun _ => ⟨rfl, rfl⟩) (by first | rfl | simp only [Aa, V.fz, fzL, V.up, upL, Ab, Ac, Ad, slr, List.cons_append, List.nil_append] | simp [Aa, V.fz, fzL, V.up, upL, Ab, Ac, Ad, slr]) ?_
   conv => whnf
   refine SameQ.mk ⟨rfl, ?_⟩
   conv => whnf
   refine SameQ.mk ⟨rfl, ?_⟩
   conv => whnf
   refine Cells.lit rfl rfl ?_
   conv => whnf
   refine SameQ.mk ⟨rfl, ?_⟩
   conv => whnf
   refine Ask.mk p21 ?_
   conv => whnf
   refine SameQ.mk ⟨rfl, ?_⟩
   conv => whnf
   refine SlcQ.o Ae (Bz.2 ⟨p22, h⟩) fun h => ?_
   conv => whnf
   refine NoOwn.o (fun _ => rfl) ?_
   conv => whnf
   refine AppQ.o (m := 1) Ae (by exact fun _ => ⟨rfl, rfl⟩) (List.take (((↑x7.length : Int) - (nth a0.Ops ((-1 : Int) - nth t0 x8.toNat).toNat).Arity).toNat - Int.toNat (0 : Int)) (List.drop (Int.toNat (0 : Int)) x7)) ([nth (nth a0.Ops ((-1 : Int) - nth t0 x8.toNat).toNat).Table q17_11.toNat]) (by first | rfl | simp only [Aa, V.fz, fzL, V.up, upL, Ab, Ac, Ad, slr, List.cons_append, List.nil_append] | simp [Aa, V.fz, fzL, V.up, upL, Ab, Ac, Ad, slr]) (by first | rfl | simp only [Aa, V.fz, fzL, V.up, upL, Ab, Ac, Ad, slr, List.cons_append, List.nil_append] | simp [Aa, V.fz, fzL, V.up, upL, Ab, Ac, Ad, slr]) (Bz.2 ⟨p23, h⟩) fun h => ?_
   conv => whnf
   refine Ask.mk p24 ?_
   conv => whnf
   cases h; exact ⟨rfl, rfl⟩
  conv => whnf
  refine SameQ.mk ⟨rfl, ?_⟩
  conv => whnf
  refine SameQ.mk ⟨rfl, ?_⟩
  conv => whnf
  refine SameQ.mk ⟨rfl, ?_⟩
  conv => whnf
  refine Cells.lit rfl rfl ?_
  conv => whnf
  refine SameQ.mk ⟨rfl, ?_⟩
  conv => whnf
  refine SameQ.mk ⟨rfl, ?_⟩
  conv => whnf
  refine Cells.lit rfl rfl ?_
  conv => whnf
  refine SameQ.mk ⟨rfl, ?_⟩
  conv => whnf
  refine SameQ.mk ⟨rfl, ?_⟩
  conv => whnf
  refine Len.map ?_
  conv => whnf
  refine Ask.mk p18 ?_
  conv => whnf
  refine Elem.o (by first | omega | (simp [A5] at *; omega)) ?_
  conv => whnf
  refine SameQ.mk ⟨rfl, ?_⟩
  conv => whnf
  refine SameQ.mk ⟨rfl, ?_⟩
  conv => whnf
  refine BslQ.o Ae ([nth (nth a0.Ops ((-1 : Int) - nth t0 x8.toNat).toNat).Table q17_11.toNat]) (by exact fun _ => ⟨rfl, rfl⟩) (by first | rfl | simp only [Aa, V.fz, fzL, V.up, upL, Ab, Ac, Ad, slr, List.cons_append, List.nil_append] | simp [Aa, V.fz, fzL, V.up, upL, Ab, Ac, Ad, slr]) ?_
  conv => whnf
  refine SameQ.mk ⟨rfl, ?_⟩
  conv => whnf
  refine SameQ.mk ⟨rfl, ?_⟩
  conv => whnf
  refine SameQ.mk ⟨rfl, ?_⟩
  conv => whnf
  refine Cells.lit rfl rfl ?_
  conv => whnf
  refine SameQ.mk ⟨rfl, ?_⟩
  conv => whnf
  refine Len.map ?_
  conv => whnf
  refine SameQ.mk ⟨rfl, ?_⟩
  conv => whnf
  refine SameQ.mk ⟨rfl, ?_⟩
  conv => whnf
  refine Cells.lit rfl rfl ?_
  conv => whnf
  refine SameQ.mk ⟨rfl, ?_⟩
  conv => whnf
  refine Ask.mk p21 ?_
  conv => whnf
  refine SameQ.mk ⟨rfl, ?_⟩
  conv => whnf
  refine SlcQ.o Ae (Bz.2 ⟨p22, h⟩) fun h => ?_
  conv => whnf
  refine NoOwn.o (fun _ => rfl) ?_
  conv => whnf
  refine AppQ.o (m := 1) Ae (by exact fun _ => ⟨rfl, rfl⟩) (List.take (((↑x7.length : Int) - (nth a0.Ops ((-1 : Int) - nth t0 x8.toNat).toNat).Arity).toNat - Int.toNat (0 : Int)) (List.drop (Int.toNat (0 : Int)) x7)) ([nth (nth a0.Ops ((-1 : Int) - nth t0 x8.toNat).toNat).Table q17_11.toNat]) (by first | rfl | simp only [Aa, V.fz, fzL, V.up, upL, Ab, Ac, Ad, slr, List.cons_append, List.nil_append] | simp [Aa, V.fz, fzL, V.up, upL, Ab, Ac, Ad, slr]) (by first | rfl | simp only [Aa, V.fz, fzL, V.up, upL, Ab, Ac, Ad, slr, List.cons_append, List.nil_append] | simp [Aa, V.fz, fzL, V.up, upL, Ab, Ac, Ad, slr]) (Bz.2 ⟨p23, h⟩) fun h => ?_
  conv => whnf
  refine Ask.mk p24 ?_
  conv => whnf
  cases h; exact ⟨rfl, rfl⟩
 conv => whnf
 cases h; exact ⟨rfl, rfl⟩
noncomputable def Jk (a0 : SAlgebra) (t0 : (List Int)) (values0 : (List Int)) : Option Int :=
 ask ((0 : Int) ≤ (↑t0.length : Int) ∧ (↑t0.length : Int) ≤ (↑LIM : Int)) <|
 ask (InI ((↑t0.length : Int) - (1 : Int))) <|
 (Bb (Es a0 t0 values0) ((↑t0.length : Int) - (1 : Int), Au Int)).bind fun q25_7 =>
 ask ((0 : Int) ≤ (0 : Int) ∧ (0 : Int) < (↑q25_7.length : Int)) <|
 some (nth q25_7 (Int.toNat (0 : Int)))
theorem Ae5 {a0 : SAlgebra} {t0 : (List Int)} {values0 : (List Int)} {v : Int} (h : Jk a0 t0 values0 = some v) : Ret Try.prog Pr [(Ag false) a0, (slr false 1 Ae) t0, (slr false 1 Ae) values0] (Ae v) := by
 refine Bf Ael (Nat.le_of_ble_eq_true rfl) ?_
 unfold Jk at h
 conv => whnf
 refine Len.map ?_
 conv => whnf
 refine Ask.o h fun p1 h => ?_
 conv => whnf
 refine Len.map ?_
 conv => whnf
 refine Ask.o h fun p2 h => ?_
 conv => whnf
 refine LoopQ.o [8, 7, 3, 1, 2] (Kq a0 t0 values0) (Pb a0 t0 values0) h (fun s o h => Xr s o h) (by first | rfl | simp [restrict, look, Aa, V.fz, fzL, V.up, upL, Ab, Ac, Ad, slr]) (fun _ => rfl) ?_
 rintro q25_7 h
 try dsimp only at h
 conv => whnf
 refine Len.map ?_
 conv => whnf
 refine Ask.o h fun p26 h => ?_
 conv => whnf
 refine Cells.one (fun _ => ⟨rfl, rfl⟩) (by first | omega | (simp [A5] at *; omega)) ?_
 conv => whnf
 cases h; exact (by first | rfl | simp only [Ah, Aa, V.fz, fzL, V.up, upL, Ab, Ac, Ad, slr] | simp [Ah, Aa, V.fz, fzL, V.up, upL, Ab, Ac, Ad, slr])
noncomputable def Cv (x0 : Int) (a0 : Int) (b0 : Int) : Option Bool :=
 if x0 ≥ a0 then
 some (decide (x0 ≤ b0))
 else
 some false
theorem G8 {x0 : Int} {a0 : Int} {b0 : Int} {v : Bool} (h : Cv x0 a0 b0 = some v) : Ret Try.prog Fa [Ae x0, Ae a0, Ae b0] (V.bool v) := by
 refine Bf Afk (Nat.le_of_ble_eq_true rfl) ?_
 unfold Cv at h
 conv => whnf
 refine Br.od h (fun p1 h => ?_) (fun p1 h => ?_)
 ·conv => whnf
  refine Br.yes ?_
  conv => whnf
  refine Br.yes ?_
  conv => whnf
  refine Br.yes ?_
  conv => whnf
  cases h; exact (by first | rfl | simp only [Ah, Aa, V.fz, fzL, V.up, upL, Ab, Ac, Ad, slr] | simp [Ah, Aa, V.fz, fzL, V.up, upL, Ab, Ac, Ad, slr])
 conv => whnf
 refine Br.no ?_
 conv => whnf
 refine Br.no ?_
 conv => whnf
 refine Br.no ?_
 conv => whnf
 cases h; exact (by first | rfl | simp only [Ah, Aa, V.fz, fzL, V.up, upL, Ab, Ac, Ad, slr] | simp [Ah, Aa, V.fz, fzL, V.up, upL, Ab, Ac, Ad, slr])
noncomputable def Ga (list0 : (List Int)) : Option (List Int) :=
 ask ((Au Int).length + (list0).length ≤ LIM) <|
 some (Au Int ++ list0)
theorem Sy {list0 : (List Int)} {v : (List Int)} (h : Ga list0 = some v) : Ret Try.prog J5 [(slr false 1 Ae) list0] ((slr true 1 Ae) v) := by
 refine Bf Adg (Nat.le_of_ble_eq_true rfl) ?_
 unfold Ga at h
 conv => whnf
 refine BslQ.o Ae (Au Int) (by exact fun _ => ⟨rfl, rfl⟩) (by first | rfl | simp only [Aa, V.fz, fzL, V.up, upL, Ab, Ac, Ad, slr, List.cons_append, List.nil_append] | simp [Aa, V.fz, fzL, V.up, upL, Ab, Ac, Ad, slr]) ?_
 conv => whnf
 refine AppQ.o (m := 1) Ae (by exact fun _ => ⟨rfl, rfl⟩) (Au Int) (list0) (by first | rfl | simp only [Aa, V.fz, fzL, V.up, upL, Ab, Ac, Ad, slr, List.cons_append, List.nil_append] | simp [Aa, V.fz, fzL, V.up, upL, Ab, Ac, Ad, slr]) (by first | rfl | simp only [Aa, V.fz, fzL, V.up, upL, Ab, Ac, Ad, slr, List.cons_append, List.nil_append] | simp [Aa, V.fz, fzL, V.up, upL, Ab, Ac, Ad, slr]) h fun h => ?_
 conv => whnf
 cases h; exact (by first | rfl | simp only [Ah, Aa, V.fz, fzL, V.up, upL, Ab, Ac, Ad, slr] | simp [Ah, Aa, V.fz, fzL, V.up, upL, Ab, Ac, Ad, slr])
noncomputable def Bm (a0 : SAlgebra) (t0 : List Int) : (Int × Int) → Option ((Int × Int) ⊕ (Unit ⊕ Int)) := fun (x7, x2) =>
 if x7 > (0 : Int) then
 if x2 ≥ (↑t0.length : Int) then
 some (.inr (.inl ()))
 else
 ask ((0 : Int) ≤ x2 ∧ x2 < (↑t0.length : Int)) <|
 ((if nth t0 x2.toNat ≥ (6 : Int) then
 some true
 else
 some (decide (nth t0 x2.toNat < IntKind.i64.wrap ((0 : Int) - (↑a0.Ops.length : Int)))) : Option Bool)).bind fun q5_29 =>
 if (q5_29) = true then
 some (.inr (.inl ()))
 else
 if nth t0 x2.toNat ≥ (0 : Int) then
 ask (InI (x7 - (1 : Int))) <|
 ask (InI (x2 + (1 : Int))) <|
 some (.inl (x7 - (1 : Int), x2 + (1 : Int)))
 else
 ask (InI ((-1 : Int) - nth t0 x2.toNat)) <|
 ask ((0 : Int) ≤ (-1 : Int) - nth t0 x2.toNat ∧ (-1 : Int) - nth t0 x2.toNat < (↑a0.Ops.length : Int)) <|
 ask (InI ((nth a0.Ops ((-1 : Int) - nth t0 x2.toNat).toNat).Arity - (1 : Int))) <|
 ask (InI (x7 + ((nth a0.Ops ((-1 : Int) - nth t0 x2.toNat).toNat).Arity - (1 : Int)))) <|
 ask (InI (x2 + (1 : Int))) <|
 some (.inl (x7 + ((nth a0.Ops ((-1 : Int) - nth t0 x2.toNat).toNat).Arity - (1 : Int)), x2 + (1 : Int)))
 else
 some (.inr (.inr x2))
def Jt (a0 : SAlgebra) (t0 : List Int) : (Int × Int) → St := fun s => [(7, A.val (Ae s.1)), (3, A.val ((rP true (Ag false)) (a0))), (1, A.val ((slr false 1 Ae) (t0))), (2, A.val (Ae s.2))]
def N2 (_a0 : SAlgebra) (_t0 : List Int) : (Unit ⊕ Int) → Tgt
 | (.inl _s) => (Ex.ret, [6], [(6, A.val (Ae ((-1 : Int))))])
 | (.inr s) => ((Ex.exit 0), [2], [(2, A.val (Ae s))])
theorem V5 {a0 : SAlgebra} {t0 : List Int} (s : (Int × Int)) (o : (Int × Int) ⊕ (Unit ⊕ Int)) (h : Bm a0 t0 s = some o) : vc Try.prog Ob (F6 [7, 3, 1, 2] (Jt a0 t0) (N2 a0 t0) o) (Jt a0 t0 s) := by
 obtain ⟨x7, x2⟩ := s
 unfold Bm at h
 try dsimp only at h
 conv => whnf
 refine Br.od h (fun p1 h => ?_) (fun p1 h => ?_)
 ·conv => whnf
  refine Len.map ?_
  conv => whnf
  refine Br.od h (fun p2 h => ?_) (fun p2 h => ?_)
  ·conv => whnf
   cases h; exact ⟨rfl, rfl⟩
  conv => whnf
  refine Len.map ?_
  conv => whnf
  refine Ask.o h fun p3 h => ?_
  conv => whnf
  refine Elem.o (by first | omega | (simp [A5] at *; omega)) ?_
  conv => whnf
  refine CutQ.o (fun t : Bool => match t with | s => (Ex.normal, [29, 8, 7, 3, 1, 2], [(29, A.val (V.bool s)), (8, A.val (Ae (nth t0 x2.toNat))), (7, A.val (Ae (x7))), (3, A.val ((rP true (Ag false)) (a0))), (1, A.val ((slr false 1 Ae) (t0))), (2, A.val (Ae (x2)))])) h ?_ ?_
  ·intro t h
   conv => whnf
   refine Br.od h (fun p4 h => ?_) (fun p4 h => ?_)
   ·conv => whnf
    refine Br.yes ?_
    conv => whnf
    refine Br.yes ?_
    conv => whnf
    refine Br.yes ?_
    conv => whnf
    refine Br.yes ?_
    conv => whnf
    refine Br.yes ?_
    conv => whnf
    refine Br.yes ?_
    conv => whnf
    cases h; exact ⟨rfl, rfl⟩
   conv => whnf
   refine Br.no ?_
   conv => whnf
   refine Br.no ?_
   conv => whnf
   refine Cells.lit rfl rfl ?_
   conv => whnf
   refine Br.no ?_
   conv => whnf
   refine Len.map ?_
   conv => whnf
   refine Br.no ?_
   conv => whnf
   refine Br.no ?_
   conv => whnf
   refine Br.no ?_
   conv => whnf
   cases h; exact ⟨rfl, rfl⟩
  rintro q5_29 h
  try dsimp only at h
  conv => whnf
  refine Br.ob h (fun p6 h => ?_) (fun p6 h => ?_)
  ·conv => whnf
   cases h; exact ⟨rfl, rfl⟩
  conv => whnf
  refine Br.od h (fun p7 h => ?_) (fun p7 h => ?_)
  ·conv => whnf
   refine Ask.o h fun p8 h => ?_
   conv => whnf
   refine Ask.o h fun p9 h => ?_
   conv => whnf
   cases h; exact ⟨rfl, rfl⟩
  conv => whnf
  refine Cells.lit rfl rfl ?_
  conv => whnf
  refine Ask.o h fun p10 h => ?_
  conv => whnf
  refine Len.map ?_
  conv => whnf
  refine Ask.o h fun p11 h => ?_
  conv => whnf
  refine Elem.o (by first | omega | (simp [A5] at *; omega)) ?_
  conv => whnf
  refine Ask.o h fun p12 h => ?_
  conv => whnf
  refine Ask.o h fun p13 h => ?_
  conv => whnf
  refine Ask.o h fun p14 h => ?_
  conv => whnf
  cases h; exact ⟨rfl, rfl⟩
 conv => whnf
 cases h; exact ⟨rfl, rfl⟩
noncomputable def Ej (a0 : SAlgebra) (t0 : (List Int)) (at0 : Int) : Option Int :=
 (Bb (Bm a0 t0) ((1 : Int), at0)).bind fun t => match t with
 | (.inl _) => (some (-1 : Int))
 | (.inr q15_2) => (some q15_2)
theorem Nd {a0 : SAlgebra} {t0 : (List Int)} {at0 : Int} {v : Int} (h : Ej a0 t0 at0 = some v) : Ret Try.prog Hp [(Ag false) a0, (slr false 1 Ae) t0, Ae at0] (Ae v) := by
 refine Bf Adv (Nat.le_of_ble_eq_true rfl) ?_
 unfold Ej at h
 conv => whnf
 refine LoopQ.o [7, 3, 1, 2] (Jt a0 t0) (N2 a0 t0) h (fun s o h => V5 s o h) (by first | rfl | simp [restrict, look, Aa, V.fz, fzL, V.up, upL, Ab, Ac, Ad, slr]) (by rintro (_ | _) <;> rfl) ?_
 rintro (⟨⟩ | q15_2) h
 ·try dsimp only at h
  conv => whnf
  cases h; exact (by first | rfl | simp only [Ah, Aa, V.fz, fzL, V.up, upL, Ab, Ac, Ad, slr] | simp [Ah, Aa, V.fz, fzL, V.up, upL, Ab, Ac, Ad, slr])
 try dsimp only at h
 conv => whnf
 cases h; exact (by first | rfl | simp only [Ah, Aa, V.fz, fzL, V.up, upL, Ab, Ac, Ad, slr] | simp [Ah, Aa, V.fz, fzL, V.up, upL, Ab, Ac, Ad, slr])
noncomputable def Fk (l0 : (List Int)) : Option (List Int) :=
 ask ((Au Int).length + (l0).length ≤ LIM) <|
 some (Au Int ++ l0)
theorem Nk {l0 : (List Int)} {v : (List Int)} (h : Fk l0 = some v) : Ret Try.prog Hl [(slr false 1 Ae) l0] ((slr true 1 Ae) v) := by
 refine Bf Ab6 (Nat.le_of_ble_eq_true rfl) ?_
 unfold Fk at h
 conv => whnf
 refine BslQ.o Ae (Au Int) (by exact fun _ => ⟨rfl, rfl⟩) (by first | rfl | simp only [Aa, V.fz, fzL, V.up, upL, Ab, Ac, Ad, slr, List.cons_append, List.nil_append] | simp [Aa, V.fz, fzL, V.up, upL, Ab, Ac, Ad, slr]) ?_
 conv => whnf
 refine AppQ.o (m := 1) Ae (by exact fun _ => ⟨rfl, rfl⟩) (Au Int) (l0) (by first | rfl | simp only [Aa, V.fz, fzL, V.up, upL, Ab, Ac, Ad, slr, List.cons_append, List.nil_append] | simp [Aa, V.fz, fzL, V.up, upL, Ab, Ac, Ad, slr]) (by first | rfl | simp only [Aa, V.fz, fzL, V.up, upL, Ab, Ac, Ad, slr, List.cons_append, List.nil_append] | simp [Aa, V.fz, fzL, V.up, upL, Ab, Ac, Ad, slr]) h fun h => ?_
 conv => whnf
 cases h; exact (by first | rfl | simp only [Ah, Aa, V.fz, fzL, V.up, upL, Ab, Ac, Ad, slr] | simp [Ah, Aa, V.fz, fzL, V.up, upL, Ab, Ac, Ad, slr])
noncomputable def De (self : SAlgebra → List Int → Int → Option (Int × Int)) (a0 : SAlgebra) (t0 : List Int) : (Int × Int × Int) → Option ((Int × Int × Int) ⊕ (Int × Int)) := fun (x10, x9, x2) =>
 if x10 > (0 : Int) then
 (self (a0) (t0) (x2)).bind fun r7 =>
 ask (InI (x10 - (1 : Int))) <|
 some (.inl (x10 - (1 : Int), if r7.fst > x9 then r7.fst else x9, r7.snd))
 else
 some (.inr (x9, x2))
def Ht (a0 : SAlgebra) (t0 : List Int) : (Int × Int × Int) → St := fun s => [(10, A.val (Ae s.1)), (9, A.val (Ae s.2.1)), (2, A.val (Ae s.2.2)), (3, A.val ((rP true (Ag false)) (a0))), (1, A.val ((slr false 1 Ae) (t0)))]
def Ll (_a0 : SAlgebra) (_t0 : List Int) : (Int × Int) → Tgt
 | s => ((Ex.exit 0), [9, 2], [(9, A.val (Ae s.1)), (2, A.val (Ae s.2))])
theorem Sn {self : SAlgebra → List Int → Int → Option (Int × Int)} {a0 : SAlgebra} {t0 : List Int} (hself : ∀ {w_0 w_1 w_2 v}, self w_0 w_1 w_2 = some v → Ret Try.prog Dd [(Ag false) w_0, (slr false 1 Ae) w_1, Ae w_2] ((fun r => V.tup [Ae r.1, Ae r.2]) v)) (s : (Int × Int × Int)) (o : (Int × Int × Int) ⊕ (Int × Int)) (h : De self a0 t0 s = some o) : vc Try.prog Lk (F6 [10, 9, 2, 3, 1] (Ht a0 t0) (Ll a0 t0) o) (Ht a0 t0 s) := by
 obtain ⟨x10, x9, x2⟩ := s
 unfold De at h
 try dsimp only at h
 conv => whnf
 refine Br.od h (fun p6 h => ?_) (fun p6 h => ?_)
 ·conv => whnf
  refine Cells.lit rfl rfl ?_
  conv => whnf
  refine CallQ.o (fun r => V.tup [Ae r.1, Ae r.2]) (by first | rfl | simp only [Aa, V.fz, fzL, V.up, upL, Ab, Ac, Ad, slr, List.cons_append, List.nil_append] | simp [Aa, V.fz, fzL, V.up, upL, Ab, Ac, Ad, slr]) h (fun r h => hself h) (fun r7 h => ?_)
  conv => whnf
  refine Ask.o h fun p8 h => ?_
  conv => whnf
  cases h; exact ⟨rfl, rfl⟩
 conv => whnf
 cases h; exact ⟨rfl, rfl⟩
noncomputable def Cj (self : SAlgebra → (List Int) → Int → Option (Int × Int)) (a0 : SAlgebra) (t0 : (List Int)) (at0 : Int) : Option (Int × Int) :=
 ask ((0 : Int) ≤ at0 ∧ at0 < (↑t0.length : Int)) <|
 ask (InI (at0 + (1 : Int))) <|
 if nth t0 at0.toNat ≥ (0 : Int) then
 some ((0 : Int), at0 + (1 : Int))
 else
 ask (InI ((-1 : Int) - nth t0 at0.toNat)) <|
 ask ((0 : Int) ≤ (-1 : Int) - nth t0 at0.toNat ∧ (-1 : Int) - nth t0 at0.toNat < (↑a0.Ops.length : Int)) <|
 (Bb (De self a0 t0) ((nth a0.Ops ((-1 : Int) - nth t0 at0.toNat).toNat).Arity, (0 : Int), at0 + (1 : Int))).bind fun (q9_9, q9_2) =>
 ask (InI (q9_9 + (1 : Int))) <|
 some (q9_9 + (1 : Int), q9_2)
noncomputable def Bw : Nat → SAlgebra → (List Int) → Int → Option (Int × Int)
 | 0 => fun _ _ _ => none
 | n + 1 => Cj (Bw n)
theorem U8 {self : SAlgebra → (List Int) → Int → Option (Int × Int)} (hself : ∀ {w_0 w_1 w_2 v}, self w_0 w_1 w_2 = some v → Ret Try.prog Dd [(Ag false) w_0, (slr false 1 Ae) w_1, Ae w_2] ((fun r => V.tup [Ae r.1, Ae r.2]) v)) {a0 : SAlgebra} {t0 : (List Int)} {at0 : Int} {v : (Int × Int)} (h : Cj self a0 t0 at0 = some v) : Ret Try.prog Dd [(Ag false) a0, (slr false 1 Ae) t0, Ae at0] ((fun r => V.tup [Ae r.1, Ae r.2]) v) := by
 refine Bf Yb (Nat.le_of_ble_eq_true rfl) ?_
 unfold Cj at h
 conv => whnf
 refine Len.map ?_
 conv => whnf
 refine Ask.o h fun p1 h => ?_
 conv => whnf
 refine Elem.o (by first | omega | (simp [A5] at *; omega)) ?_
 conv => whnf
 refine Ask.o h fun p2 h => ?_
 conv => whnf
 refine Br.od h (fun p3 h => ?_) (fun p3 h => ?_)
 ·conv => whnf
  cases h; exact (by first | rfl | simp only [Ah, Aa, V.fz, fzL, V.up, upL, Ab, Ac, Ad, slr] | simp [Ah, Aa, V.fz, fzL, V.up, upL, Ab, Ac, Ad, slr])
 conv => whnf
 refine Cells.lit rfl rfl ?_
 conv => whnf
 refine Ask.o h fun p4 h => ?_
 conv => whnf
 refine Len.map ?_
 conv => whnf
 refine Ask.o h fun p5 h => ?_
 conv => whnf
 refine Elem.o (by first | omega | (simp [A5] at *; omega)) ?_
 conv => whnf
 refine LoopQ.o [10, 9, 2, 3, 1] (Ht a0 t0) (Ll a0 t0) h (fun s o h => Sn hself s o h) (by first | rfl | simp [restrict, look, Aa, V.fz, fzL, V.up, upL, Ab, Ac, Ad, slr]) (fun _ => rfl) ?_
 rintro ⟨q9_9, q9_2⟩ h
 try dsimp only at h
 conv => whnf
 refine Ask.o h fun p10 h => ?_
 conv => whnf
 cases h; exact (by first | rfl | simp only [Ah, Aa, V.fz, fzL, V.up, upL, Ab, Ac, Ad, slr] | simp [Ah, Aa, V.fz, fzL, V.up, upL, Ab, Ac, Ad, slr])
theorem Mf : ∀ (n : Nat) {a0 : SAlgebra} {t0 : (List Int)} {at0 : Int} {v : (Int × Int)}, Bw n a0 t0 at0 = some v → Ret Try.prog Dd [(Ag false) a0, (slr false 1 Ae) t0, Ae at0] ((fun r => V.tup [Ae r.1, Ae r.2]) v)
 | 0, _, _, _, _, h => by cases h
 | n + 1, _, _, _, _, h => U8 (fun h => Mf n h) h
theorem Yc {a0 : SAlgebra} {t0 : (List Int)} {at0 : Int} {v : (Int × Int)} (h : (Oh fun n => Bw n a0 t0 at0) = some v) : Ret Try.prog Dd [(Ag false) a0, (slr false 1 Ae) t0, Ae at0] ((fun r => V.tup [Ae r.1, Ae r.2]) v) := by
 obtain ⟨n, hn⟩ := U3 h
 exact Mf n hn
noncomputable def Dn (n0 : Int) : (Int × Int) → Option ((Int × Int) ⊕ Int) := fun (x5, x1) =>
 if x1 > (0 : Int) then
 ask (InI (x5 * n0)) <|
 ask (InI (x1 - (1 : Int))) <|
 some (.inl (x5 * n0, x1 - (1 : Int)))
 else
 some (.inr x5)
def Jo (n0 : Int) : (Int × Int) → St := fun s => [(5, A.val (Ae s.1)), (0, A.val (Ae (n0))), (1, A.val (Ae s.2))]
def N9 (_n0 : Int) : Int → Tgt
 | s => ((Ex.exit 0), [5], [(5, A.val (Ae s))])
theorem V6 {n0 : Int} (s : (Int × Int)) (o : (Int × Int) ⊕ Int) (h : Dn n0 s = some o) : vc Try.prog N3 (F6 [5, 0, 1] (Jo n0) (N9 n0) o) (Jo n0 s) := by
 obtain ⟨x5, x1⟩ := s
 unfold Dn at h
 try dsimp only at h
 conv => whnf
 refine Br.od h (fun p1 h => ?_) (fun p1 h => ?_)
 ·conv => whnf
  refine Ask.o h fun p2 h => ?_
  conv => whnf
  refine Ask.o h fun p3 h => ?_
  conv => whnf
  cases h; exact ⟨rfl, rfl⟩
 conv => whnf
 cases h; exact ⟨rfl, rfl⟩
noncomputable def Fc (n0 : Int) (k0 : Int) : Option Int :=
 (Bb (Dn n0) ((1 : Int), k0)).bind fun q4_5 =>
 some q4_5
theorem S6 {n0 : Int} {k0 : Int} {v : Int} (h : Fc n0 k0 = some v) : Ret Try.prog J4 [Ae n0, Ae k0] (Ae v) := by
 refine Bf Ab7 (Nat.le_of_ble_eq_true rfl) ?_
 unfold Fc at h
 conv => whnf
 refine LoopQ.o [5, 0, 1] (Jo n0) (N9 n0) h (fun s o h => V6 s o h) (by first | rfl | simp [restrict, look, Aa, V.fz, fzL, V.up, upL, Ab, Ac, Ad, slr]) (fun _ => rfl) ?_
 rintro q4_5 h
 try dsimp only at h
 conv => whnf
 cases h; exact (by first | rfl | simp only [Ah, Aa, V.fz, fzL, V.up, upL, Ab, Ac, Ad, slr] | simp [Ah, Aa, V.fz, fzL, V.up, upL, Ab, Ac, Ad, slr])
noncomputable def Df (c0 : Sl1Cur) : Option (Int × Sl1Cur) :=
 ((if c0.at_ < (↑c0.code.length : Int) then
 ask ((0 : Int) ≤ c0.at_ ∧ c0.at_ < (↑c0.code.length : Int)) <|
 some (IntKind.i64.wrap (nth c0.code c0.at_.toNat))
 else
 some (0 : Int) : Option Int)).bind fun q3_3 =>
 ask (InI (c0.at_ + (1 : Int))) <|
 if c0.at_ + (1 : Int) ≤ (↑c0.code.length : Int) then
 some (q3_3, { code := c0.code, at_ := c0.at_ + (1 : Int), seed := IntKind.u64.wrap (IntKind.u64.wrap (IntKind.u64.wrap (c0.seed * (6364136223846793005 : Int)) + IntKind.u64.wrap q3_3) + (550289 : Int)) })
 else
 some (IntKind.i64.wrap (IntKind.u64.wrap (↑(BitVec.ofInt IntKind.u64.bits ((IntKind.u64.wrap (IntKind.u64.wrap (IntKind.u64.wrap (c0.seed * (6364136223846793005 : Int)) + IntKind.u64.wrap q3_3) + (550289 : Int))).fdiv ((2 : Int) ^ min (Int.toNat (40 : Int)) IntKind.u64.bits)) &&& BitVec.ofInt IntKind.u64.bits (255 : Int)).toNat : Int)), { code := c0.code, at_ := c0.at_ + (1 : Int), seed := IntKind.u64.wrap (IntKind.u64.wrap (IntKind.u64.wrap (c0.seed * (6364136223846793005 : Int)) + IntKind.u64.wrap q3_3) + (550289 : Int)) })
theorem K1 {c0 : Sl1Cur} {v : (Int × Sl1Cur)} (h : Df c0 = some v) : Og Try.prog Fv [(rP true (Ai false)) c0] (Ae v.1) 0 ((rP true (Ai false)) v.2) := by
 refine Nm S9 (Nat.le_of_ble_eq_true rfl) ?_
 unfold Df at h
 conv => whnf
 refine CutQ.o (fun t : Int => match t with | s => (Ex.normal, [3, 0, 62], [(3, A.val (Ae s)), (0, A.ref 62 []), (62, A.val ((rP true (Ai false)) (c0)))])) h ?_ ?_
 ·intro t h
  conv => whnf
  refine Cells.lit rfl rfl ?_
  conv => whnf
  refine Cells.lit rfl rfl ?_
  conv => whnf
  refine Len.map ?_
  conv => whnf
  refine Br.od h (fun p1 h => ?_) (fun p1 h => ?_)
  ·conv => whnf
   refine Cells.lit rfl rfl ?_
   conv => whnf
   refine Cells.lit rfl rfl ?_
   conv => whnf
   refine Len.map ?_
   conv => whnf
   refine Ask.o h fun p2 h => ?_
   conv => whnf
   refine Elem.o (by first | omega | (simp [A5] at *; omega)) ?_
   conv => whnf
   cases h; exact ⟨rfl, rfl⟩
  conv => whnf
  cases h; exact ⟨rfl, rfl⟩
 rintro q3_3 h
 try dsimp only at h
 conv => whnf
 refine Cells.lit rfl rfl ?_
 conv => whnf
 refine Ask.o h fun p4 h => ?_
 conv => whnf
 refine SetKids.lit rfl ?_
 conv => whnf
 refine Cells.lit rfl rfl ?_
 conv => whnf
 refine SetKids.lit rfl ?_
 conv => whnf
 refine Cells.lit rfl rfl ?_
 conv => whnf
 refine Cells.lit rfl rfl ?_
 conv => whnf
 refine Len.map ?_
 conv => whnf
 refine Br.od h (fun p5 h => ?_) (fun p5 h => ?_)
 ·conv => whnf
  cases h; exact ⟨(by first | rfl | simp only [Ah, Aa, V.fz, fzL, V.up, upL, Ab, Ac, Ad, slr] | simp [Ah, Aa, V.fz, fzL, V.up, upL, Ab, Ac, Ad, slr]), (by first | rfl | simp only [Ah, Aa, V.fz, fzL, V.up, upL, Ab, Ac, Ad, slr] | simp [Ah, Aa, V.fz, fzL, V.up, upL, Ab, Ac, Ad, slr])⟩
 conv => whnf
 refine Cells.lit rfl rfl ?_
 conv => whnf
 cases h; exact ⟨(by first | rfl | simp only [Ah, Aa, V.fz, fzL, V.up, upL, Ab, Ac, Ad, slr] | simp [Ah, Aa, V.fz, fzL, V.up, upL, Ab, Ac, Ad, slr]), (by first | rfl | simp only [Ah, Aa, V.fz, fzL, V.up, upL, Ab, Ac, Ad, slr] | simp [Ah, Aa, V.fz, fzL, V.up, upL, Ab, Ac, Ad, slr])⟩
noncomputable def Gv (a0 : Int) (b0 : Int) : Option Int :=
 if a0 > b0 then
 some a0
 else
 some b0
theorem Z5 {a0 : Int} {b0 : Int} {v : Int} (h : Gv a0 b0 = some v) : Ret Try.prog Lx [Ae a0, Ae b0] (Ae v) := by
 refine Bf Zp (Nat.le_of_ble_eq_true rfl) ?_
 unfold Gv at h
 conv => whnf
 refine Br.od h (fun p1 h => ?_) (fun p1 h => ?_)
 ·conv => whnf
  cases h; exact (by first | rfl | simp only [Ah, Aa, V.fz, fzL, V.up, upL, Ab, Ac, Ad, slr] | simp [Ah, Aa, V.fz, fzL, V.up, upL, Ab, Ac, Ad, slr])
 conv => whnf
 cases h; exact (by first | rfl | simp only [Ah, Aa, V.fz, fzL, V.up, upL, Ab, Ac, Ad, slr] | simp [Ah, Aa, V.fz, fzL, V.up, upL, Ab, Ac, Ad, slr])
end Go.Proofs.Ytjinhobffbppbaa.Ax
