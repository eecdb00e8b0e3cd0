/-
 What the functions compute, as functions on plain data, and that the program does compute it; written by program.
-/
import Derived.Test.YtjinhobffbppbaaCode
import Derived.Test.YtjinhobffbppbaaG2
import Derived.Test.YtjinhobffbppbaaG3
import Derived.Test.YtjinhobffbppbaaG4
namespace Go.Proofs.Ytjinhobffbppbaa.Ax
open Go
set_option maxRecDepth 100000
set_option maxHeartbeats 4000000
noncomputable def D4 (n0 : Int) (op0 : SOp) : Int → Option (Int ⊕ (Unit ⊕ Unit)) := fun x5 =>
 if x5 < (↑op0.Table.length : Int) then
 ask ((0 : Int) ≤ x5 ∧ x5 < (↑op0.Table.length : Int)) <|
 ask (InI (n0 - (1 : Int))) <|
 (Cv (nth op0.Table x5.toNat) ((0 : Int)) (n0 - (1 : Int))).bind fun r9 =>
 if (r9) = true then
 ask (InI (x5 + (1 : Int))) <|
 some (.inl (x5 + (1 : Int)))
 else
 some (.inr (.inl ()))
 else
 some (.inr (.inr ()))
def Kl (n0 : Int) (op0 : SOp) : Int → St := fun s => [(5, A.val (Ae s)), (3, A.val ((rP true (Ba false)) (op0))), (0, A.val (Ae (n0)))]
def Ol (_n0 : Int) (_op0 : SOp) : (Unit ⊕ Unit) → Tgt
 | (.inl _s) => (Ex.ret, [4], [(4, A.val (V.bool (false)))])
 | (.inr _s) => ((Ex.exit 0), [], [])
theorem W3 {n0 : Int} {op0 : SOp} (x5 : Int) (o : Int ⊕ (Unit ⊕ Unit)) (h : D4 n0 op0 x5 = some o) : vc Try.prog Po (F6 [5, 3, 0] (Kl n0 op0) (Ol n0 op0) o) (Kl n0 op0 x5) := by
 unfold D4 at h
 try dsimp only at h
 conv => whnf
 refine Cells.lit rfl rfl ?_
 conv => whnf
 refine Len.map ?_
 conv => whnf
 refine Br.od h (fun p6 h => ?_) (fun p6 h => ?_)
 ·conv => whnf
  refine Cells.lit rfl rfl ?_
  conv => whnf
  refine Len.map ?_
  conv => whnf
  refine Ask.o h fun p7 h => ?_
  conv => whnf
  refine Elem.o (by first | omega | (simp [A5] at *; omega)) ?_
  conv => whnf
  refine Ask.o h fun p8 h => ?_
  conv => whnf
  refine CallQ.o V.bool (by first | rfl | simp only [Aa, V.fz, fzL, V.up, upL, Ab, Ac, Ad, slr, List.cons_append, List.nil_append] | simp [Aa, V.fz, fzL, V.up, upL, Ab, Ac, Ad, slr]) h (fun r h => G8 h) (fun r9 h => ?_)
  conv => whnf
  refine Br.flip ?_
  conv => whnf
  refine Br.ob h (fun p10 h => ?_) (fun p10 h => ?_)
  ·conv => whnf
   refine Ask.o h fun p11 h => ?_
   conv => whnf
   cases h; exact ⟨rfl, rfl⟩
  conv => whnf
  cases h; exact ⟨rfl, rfl⟩
 conv => whnf
 cases h; exact ⟨rfl, rfl⟩
noncomputable def Jb (n0 : Int) (op0 : SOp) : Option Bool :=
 (((Cv (op0.Arity) ((0 : Int)) ((3 : Int))).bind fun r1 =>
 if (r1) = true then
 (Fc (n0) (op0.Arity)).bind fun r3 =>
 if (↑op0.Table.length : Int) ≠ r3 then
 some (.inl ())
 else
 some (.inr ())
 else
 some (.inl ()) : Option (Unit ⊕ Unit))).bind fun t => match t with
 | (.inl _) => (some false)
 | (.inr _) => ((Bb (D4 n0 op0) (0 : Int)).bind fun t => match t with
 | (.inl _) => (some false)
 | (.inr _) => (some true))
theorem Afs {n0 : Int} {op0 : SOp} {v : Bool} (h : Jb n0 op0 = some v) : Ret Try.prog On [Ae n0, (Ba false) op0] (V.bool v) := by
 refine Bf Aeu (Nat.le_of_ble_eq_true rfl) ?_
 unfold Jb at h
 conv => whnf
 refine CutQ.o (fun t : (Unit ⊕ Unit) => match t with | (.inl s) => (Ex.ret, [4], [(4, A.val (V.bool (false)))]) | (.inr s) => (Ex.normal, [3, 0], [(3, A.val ((rP true (Ba false)) (op0))), (0, A.val (Ae (n0)))])) h ?_ ?_
 ·intro t h
  conv => whnf
  refine Cells.lit rfl rfl ?_
  conv => whnf
  refine CallP.o V.bool (by first | rfl | simp only [Aa, V.fz, fzL, V.up, upL, Ab, Ac, Ad, slr, List.cons_append, List.nil_append] | simp [Aa, V.fz, fzL, V.up, upL, Ab, Ac, Ad, slr]) h (fun r h => G8 h) (fun r1 h => ?_)
  conv => whnf
  refine Br.flip ?_
  conv => whnf
  refine Br.ob h (fun p2 h => ?_) (fun p2 h => ?_)
  ·conv => whnf
   refine Br.no ?_
   conv => whnf
   refine Cells.lit rfl rfl ?_
   conv => whnf
   refine Br.no ?_
   conv => whnf
   refine Len.map ?_
   conv => whnf
   refine Br.no ?_
   conv => whnf
   refine Br.no ?_
   conv => whnf
   refine Br.no ?_
   conv => whnf
   refine Cells.lit rfl rfl ?_
   conv => whnf
   refine Br.no ?_
   conv => whnf
   refine CallP.o Ae (by first | rfl | simp only [Aa, V.fz, fzL, V.up, upL, Ab, Ac, Ad, slr, List.cons_append, List.nil_append] | simp [Aa, V.fz, fzL, V.up, upL, Ab, Ac, Ad, slr]) h (fun r h => S6 h) (fun r3 h => ?_)
   conv => whnf
   refine Br.no ?_
   conv => whnf
   refine Br.no ?_
   conv => whnf
   refine Br.on h (fun p4 h => ?_) (fun p4 h => ?_)
   ·conv => whnf
    cases h; exact ⟨rfl, rfl⟩
   conv => whnf
   cases h; exact ⟨rfl, rfl⟩
  conv => whnf
  refine Br.yes ?_
  conv => whnf
  refine Br.yes ?_
  conv => whnf
  refine Br.yes ?_
  conv => whnf
  refine Br.yes ?_
  conv => whnf
  refine Br.yes ?_
  conv => whnf
  refine Br.yes ?_
  conv => whnf
  refine Br.yes ?_
  conv => whnf
  refine Br.yes ?_
  conv => whnf
  refine Br.yes ?_
  conv => whnf
  cases h; exact ⟨rfl, rfl⟩
 rintro (⟨⟩ | ⟨⟩) h
 ·try dsimp only at h
  conv => whnf
  cases h; exact (by first | rfl | simp only [Ah, Aa, V.fz, fzL, V.up, upL, Ab, Ac, Ad, slr] | simp [Ah, Aa, V.fz, fzL, V.up, upL, Ab, Ac, Ad, slr])
 try dsimp only at h
 conv => whnf
 refine LoopQ.o [5, 3, 0] (Kl n0 op0) (Ol n0 op0) h (fun s o h => W3 s o h) (by first | rfl | simp [restrict, look, Aa, V.fz, fzL, V.up, upL, Ab, Ac, Ad, slr]) (by rintro (_ | _) <;> rfl) ?_
 rintro (⟨⟩ | ⟨⟩) h
 ·try dsimp only at h
  conv => whnf
  cases h; exact (by first | rfl | simp only [Ah, Aa, V.fz, fzL, V.up, upL, Ab, Ac, Ad, slr] | simp [Ah, Aa, V.fz, fzL, V.up, upL, Ab, Ac, Ad, slr])
 try dsimp only at h
 conv => whnf
 cases h; exact (by first | rfl | simp only [Ah, Aa, V.fz, fzL, V.up, upL, Ab, Ac, Ad, slr] | simp [Ah, Aa, V.fz, fzL, V.up, upL, Ab, Ac, Ad, slr])
noncomputable def Cb (a0 : SAlgebra) (terms0 : List (List Int)) : Int → Option (Int ⊕ (Unit ⊕ Unit)) := fun x9 =>
 if x9 < (↑terms0.length : Int) then
 ask ((0 : Int) ≤ x9 ∧ x9 < (↑terms0.length : Int)) <|
 (El (a0) (nth terms0 x9.toNat)).bind fun r3 =>
 if (r3) = true then
 ask (InI (x9 + (1 : Int))) <|
 some (.inl (x9 + (1 : Int)))
 else
 some (.inr (.inl ()))
 else
 some (.inr (.inr ()))
def G0 (a0 : SAlgebra) (terms0 : List (List Int)) : Int → St := fun s => [(9, A.val (Ae s)), (8, A.val (Ae ((↑terms0.length : Int)))), (7, A.val ((slr false 1 (slr false 1 Ae)) (terms0))), (2, A.val ((rP true (Ag false)) (a0)))]
def Kr (_a0 : SAlgebra) (_terms0 : List (List Int)) : (Unit ⊕ Unit) → Tgt
 | (.inl _s) => (Ex.ret, [4], [(4, A.val (V.bool (false)))])
 | (.inr _s) => ((Ex.exit 0), [], [])
theorem Rs {a0 : SAlgebra} {terms0 : List (List Int)} (x9 : Int) (o : Int ⊕ (Unit ⊕ Unit)) (h : Cb a0 terms0 x9 = some o) : vc Try.prog Kg (F6 [9, 8, 7, 2] (G0 a0 terms0) (Kr a0 terms0) o) (G0 a0 terms0 x9) := by
 unfold Cb at h
 try dsimp only at h
 conv => whnf
 refine Br.od h (fun p1 h => ?_) (fun p1 h => ?_)
 ·conv => whnf
  refine Len.map ?_
  conv => whnf
  refine Ask.o h fun p2 h => ?_
  conv => whnf
  refine Elem.o (by first | omega | (simp [A5] at *; omega)) ?_
  conv => whnf
  refine Cells.lit rfl rfl ?_
  conv => whnf
  refine CallQ.o V.bool (by first | rfl | simp only [Aa, V.fz, fzL, V.up, upL, Ab, Ac, Ad, slr, List.cons_append, List.nil_append] | simp [Aa, V.fz, fzL, V.up, upL, Ab, Ac, Ad, slr]) h (fun r h => L2 h) (fun r3 h => ?_)
  conv => whnf
  refine Br.flip ?_
  conv => whnf
  refine Br.ob h (fun p4 h => ?_) (fun p4 h => ?_)
  ·conv => whnf
   refine Ask.o h fun p5 h => ?_
   conv => whnf
   cases h; exact ⟨rfl, rfl⟩
  conv => whnf
  cases h; exact ⟨rfl, rfl⟩
 conv => whnf
 cases h; exact ⟨rfl, rfl⟩
noncomputable def Fo (a0 : SAlgebra) (terms0 : (List (List Int))) : Option Bool :=
 (Bb (Cb a0 terms0) (0 : Int)).bind fun t => match t with
 | (.inl _) => (some false)
 | (.inr _) => (some true)
theorem Wl {a0 : SAlgebra} {terms0 : (List (List Int))} {v : Bool} (h : Fo a0 terms0 = some v) : Ret Try.prog Jy [(Ag false) a0, (slr false 1 (slr false 1 Ae)) terms0] (V.bool v) := by
 refine Bf Wk (Nat.le_of_ble_eq_true rfl) ?_
 unfold Fo at h
 conv => whnf
 refine Len.map ?_
 conv => whnf
 refine LoopQ.o [9, 8, 7, 2] (G0 a0 terms0) (Kr a0 terms0) h (fun s o h => Rs s o h) (by first | rfl | simp [restrict, look, Aa, V.fz, fzL, V.up, upL, Ab, Ac, Ad, slr]) (by rintro (_ | _) <;> rfl) ?_
 rintro (⟨⟩ | ⟨⟩) h
 ·try dsimp only at h
  conv => whnf
  cases h; exact (by first | rfl | simp only [Ah, Aa, V.fz, fzL, V.up, upL, Ab, Ac, Ad, slr] | simp [Ah, Aa, V.fz, fzL, V.up, upL, Ab, Ac, Ad, slr])
 try dsimp only at h
 conv => whnf
 cases h; exact (by first | rfl | simp only [Ah, Aa, V.fz, fzL, V.up, upL, Ab, Ac, Ad, slr] | simp [Ah, Aa, V.fz, fzL, V.up, upL, Ab, Ac, Ad, slr])
noncomputable def Em (a0 : SAlgebra) (t0 : (List Int)) : Option Bool :=
 if (↑t0.length : Int) > (0 : Int) then
 if (↑t0.length : Int) ≤ (60 : Int) then
 (C9 (a0) (t0) ((0 : Int))).bind fun r3 =>
 some (r3 == (↑t0.length : Int))
 else
 some false
 else
 some false
theorem Lw {a0 : SAlgebra} {t0 : (List Int)} {v : Bool} (h : Em a0 t0 = some v) : Ret Try.prog Gn [(Ag false) a0, (slr false 1 Ae) t0] (V.bool v) := by
 refine Bf Aaz (Nat.le_of_ble_eq_true rfl) ?_
 unfold Em at h
 conv => whnf
 refine Len.map ?_
 conv => whnf
 refine Br.od h (fun p1 h => ?_) (fun p1 h => ?_)
 ·conv => whnf
  refine Br.yes ?_
  conv => whnf
  refine Len.map ?_
  conv => whnf
  refine Br.yes ?_
  conv => whnf
  refine Br.yes ?_
  conv => whnf
  refine Br.od h (fun p2 h => ?_) (fun p2 h => ?_)
  ·conv => whnf
   refine Cells.lit rfl rfl ?_
   conv => whnf
   refine Br.yes ?_
   conv => whnf
   refine Br.yes ?_
   conv => whnf
   refine CallQ.o Ae (by first | rfl | simp only [Aa, V.fz, fzL, V.up, upL, Ab, Ac, Ad, slr, List.cons_append, List.nil_append] | simp [Aa, V.fz, fzL, V.up, upL, Ab, Ac, Ad, slr]) h (fun r h => Hq h) (fun r3 h => ?_)
   conv => whnf
   refine Br.yes ?_
   conv => whnf
   refine Br.yes ?_
   conv => whnf
   refine Len.map ?_
   conv => whnf
   refine Br.yes ?_
   conv => whnf
   refine Br.yes ?_
   conv => whnf
   cases h; exact (by first | rfl | simp only [Ah, Aa, V.fz, fzL, V.up, upL, Ab, Ac, Ad, slr] | simp [Ah, Aa, V.fz, fzL, V.up, upL, Ab, Ac, Ad, slr])
  conv => whnf
  refine Br.no ?_
  conv => whnf
  refine Br.no ?_
  conv => whnf
  refine Br.no ?_
  conv => whnf
  refine Br.no ?_
  conv => whnf
  refine Br.no ?_
  conv => whnf
  refine Br.no ?_
  conv => whnf
  cases h; exact (by first | rfl | simp only [Ah, Aa, V.fz, fzL, V.up, upL, Ab, Ac, Ad, slr] | simp [Ah, Aa, V.fz, fzL, V.up, upL, Ab, Ac, Ad, slr])
 conv => whnf
 refine Br.no ?_
 conv => whnf
 refine Br.no ?_
 conv => whnf
 refine Br.no ?_
 conv => whnf
 refine Br.no ?_
 conv => whnf
 refine Br.no ?_
 conv => whnf
 refine Br.no ?_
 conv => whnf
 refine Br.no ?_
 conv => whnf
 refine Br.no ?_
 conv => whnf
 refine Br.no ?_
 conv => whnf
 refine Br.no ?_
 conv => whnf
 cases h; exact (by first | rfl | simp only [Ah, Aa, V.fz, fzL, V.up, upL, Ab, Ac, Ad, slr] | simp [Ah, Aa, V.fz, fzL, V.up, upL, Ab, Ac, Ad, slr])
noncomputable def Gs (a0 : SAlgebra) (t0 : (List Int)) (at0 : Int) (by0 : (List Int)) : Option (List Int) :=
 ask (0 ≤ (0 : Int) ∧ (0 : Int) ≤ at0 ∧ at0 ≤ ((t0.length : Nat) : Int)) <|
 (Fk (List.take (at0.toNat - Int.toNat (0 : Int)) (List.drop (Int.toNat (0 : Int)) t0))).bind fun r1 =>
 ask ((r1).length + (by0).length ≤ LIM) <|
 (C9 (a0) (t0) (at0)).bind fun r2 =>
 ask (0 ≤ r2 ∧ r2 ≤ (↑t0.length : Int) ∧ (↑t0.length : Int) ≤ ((t0.length : Nat) : Int)) <|
 ask ((r1 ++ by0).length + (List.take ((↑t0.length : Int).toNat - r2.toNat) (List.drop r2.toNat t0)).length ≤ LIM) <|
 some (r1 ++ by0 ++ List.take ((↑t0.length : Int).toNat - r2.toNat) (List.drop r2.toNat t0))
theorem Zu {a0 : SAlgebra} {t0 : (List Int)} {at0 : Int} {by0 : (List Int)} {v : (List Int)} (h : Gs a0 t0 at0 by0 = some v) : Ret Try.prog Lu [(Ag false) a0, (slr false 1 Ae) t0, Ae at0, (slr false 1 Ae) by0] ((slr true 1 Ae) v) := by
 refine Bf Aau (Nat.le_of_ble_eq_true rfl) ?_
 unfold Gs at h
 conv => whnf
 refine SlcQ.o Ae h fun h => ?_
 conv => whnf
 refine CallP.o (slr true 1 Ae) (by first | rfl | simp only [Aa, V.fz, fzL, V.up, upL, Ab, Ac, Ad, slr, List.cons_append, List.nil_append] | simp [Aa, V.fz, fzL, V.up, upL, Ab, Ac, Ad, slr]) h (fun r h => Nk h) (fun r1 h => ?_)
 conv => whnf
 refine AppQ.o (m := 1) Ae (by exact fun _ => ⟨rfl, rfl⟩) (r1) (by0) (by first | rfl | simp only [Aa, V.fz, fzL, V.up, upL, Ab, Ac, Ad, slr, List.cons_append, List.nil_append] | simp [Aa, V.fz, fzL, V.up, upL, Ab, Ac, Ad, slr]) (by first | rfl | simp only [Aa, V.fz, fzL, V.up, upL, Ab, Ac, Ad, slr, List.cons_append, List.nil_append] | simp [Aa, V.fz, fzL, V.up, upL, Ab, Ac, Ad, slr]) h fun h => ?_
 conv => whnf
 refine Cells.lit rfl rfl ?_
 conv => whnf
 refine CallP.o Ae (by first | rfl | simp only [Aa, V.fz, fzL, V.up, upL, Ab, Ac, Ad, slr, List.cons_append, List.nil_append] | simp [Aa, V.fz, fzL, V.up, upL, Ab, Ac, Ad, slr]) h (fun r h => Hq h) (fun r2 h => ?_)
 conv => whnf
 refine Len.map ?_
 conv => whnf
 refine SlcQ.o Ae h fun h => ?_
 conv => whnf
 refine AppQ.o (m := 1) Ae (by exact fun _ => ⟨rfl, rfl⟩) (r1 ++ by0) (List.take ((↑t0.length : Int).toNat - r2.toNat) (List.drop r2.toNat t0)) (by first | rfl | simp only [Aa, V.fz, fzL, V.up, upL, Ab, Ac, Ad, slr, List.cons_append, List.nil_append] | simp [Aa, V.fz, fzL, V.up, upL, Ab, Ac, Ad, slr]) (by first | rfl | simp only [Aa, V.fz, fzL, V.up, upL, Ab, Ac, Ad, slr, List.cons_append, List.nil_append] | simp [Aa, V.fz, fzL, V.up, upL, Ab, Ac, Ad, slr]) h fun h => ?_
 conv => whnf
 cases h; exact (by first | rfl | simp only [Ah, Aa, V.fz, fzL, V.up, upL, Ab, Ac, Ad, slr] | simp [Ah, Aa, V.fz, fzL, V.up, upL, Ab, Ac, Ad, slr])
noncomputable def B4 (a0 : SAlgebra) : Int → Option (Int ⊕ (Unit ⊕ Unit)) := fun x22 =>
 if x22 < (↑a0.Ops.length : Int) then
 ask ((0 : Int) ≤ x22 ∧ x22 < (↑a0.Ops.length : Int)) <|
 (Jd (nth a0.Ops x22.toNat) (a0.Size)).bind fun r7 =>
 if (r7) = true then
 ask (InI (x22 + (1 : Int))) <|
 some (.inl (x22 + (1 : Int)))
 else
 some (.inr (.inl ()))
 else
 some (.inr (.inr ()))
def Gh (a0 : SAlgebra) : Int → St := fun s => [(22, A.val (Ae s)), (21, A.val (Ae ((↑a0.Ops.length : Int)))), (20, A.val ((slr false 2 (Ba false)) (a0.Ops))), (1, A.val ((rP true (Ag false)) (a0)))]
def J2 (_a0 : SAlgebra) : (Unit ⊕ Unit) → Tgt
 | (.inl _s) => (Ex.ret, [2], [(2, A.val (V.bool (false)))])
 | (.inr _s) => ((Ex.exit 0), [], [])
theorem Qp {a0 : SAlgebra} (x22 : Int) (o : Int ⊕ (Unit ⊕ Unit)) (h : B4 a0 x22 = some o) : vc Try.prog Jz (F6 [22, 21, 20, 1] (Gh a0) (J2 a0) o) (Gh a0 x22) := by
 unfold B4 at h
 try dsimp only at h
 conv => whnf
 refine Br.od h (fun p5 h => ?_) (fun p5 h => ?_)
 ·conv => whnf
  refine Len.map ?_
  conv => whnf
  refine Ask.o h fun p6 h => ?_
  conv => whnf
  refine Elem.o (by first | omega | (simp [A5] at *; omega)) ?_
  conv => whnf
  refine SetKids.lit rfl ?_
  conv => whnf
  refine Cells.lit rfl rfl ?_
  conv => whnf
  refine Cells.lit rfl rfl ?_
  conv => whnf
  refine CallQ.o V.bool (by first | rfl | simp only [Aa, V.fz, fzL, V.up, upL, Ab, Ac, Ad, slr, List.cons_append, List.nil_append] | simp [Aa, V.fz, fzL, V.up, upL, Ab, Ac, Ad, slr]) h (fun r h => Aem h) (fun r7 h => ?_)
  conv => whnf
  refine Br.flip ?_
  conv => whnf
  refine Br.ob h (fun p8 h => ?_) (fun p8 h => ?_)
  ·conv => whnf
   refine Ask.o h fun p9 h => ?_
   conv => whnf
   cases h; exact ⟨rfl, rfl⟩
  conv => whnf
  cases h; exact ⟨rfl, rfl⟩
 conv => whnf
 cases h; exact ⟨rfl, rfl⟩
noncomputable def Ew (a0 : SAlgebra) : Option Bool :=
 ((if a0.Size < (1 : Int) then
 some (.inl ())
 else
 if a0.Size > (8 : Int) then
 some (.inl ())
 else
 if (↑a0.Ops.length : Int) > (4 : Int) then
 some (.inl ())
 else
 some (.inr ()) : Option (Unit ⊕ Unit))).bind fun t => match t with
 | (.inl _) => (some false)
 | (.inr _) => ((Bb (B4 a0) (0 : Int)).bind fun t => match t with
 | (.inl _) => (some false)
 | (.inr _) => (some true))
theorem Tu {a0 : SAlgebra} {v : Bool} (h : Ew a0 = some v) : Ret Try.prog Il [(Ag false) a0] (V.bool v) := by
 refine Bf Tz (Nat.le_of_ble_eq_true rfl) ?_
 unfold Ew at h
 conv => whnf
 refine CutQ.o (fun t : (Unit ⊕ Unit) => match t with | (.inl s) => (Ex.ret, [2], [(2, A.val (V.bool (false)))]) | (.inr s) => (Ex.normal, [1], [(1, A.val ((rP true (Ag false)) (a0)))])) h ?_ ?_
 ·intro t h
  conv => whnf
  refine Cells.lit rfl rfl ?_
  conv => whnf
  refine Br.od h (fun p1 h => ?_) (fun p1 h => ?_)
  ·conv => whnf
   refine Br.yes ?_
   conv => whnf
   refine Br.yes ?_
   conv => whnf
   refine Br.yes ?_
   conv => whnf
   refine Br.yes ?_
   conv => whnf
   refine Br.yes ?_
   conv => whnf
   refine Br.yes ?_
   conv => whnf
   refine Br.yes ?_
   conv => whnf
   refine Br.yes ?_
   conv => whnf
   refine Br.yes ?_
   conv => whnf
   cases h; exact ⟨rfl, rfl⟩
  conv => whnf
  refine Br.no ?_
  conv => whnf
  refine Cells.lit rfl rfl ?_
  conv => whnf
  refine Br.no ?_
  conv => whnf
  refine Br.no ?_
  conv => whnf
  refine Br.od h (fun p2 h => ?_) (fun p2 h => ?_)
  ·conv => whnf
   refine Br.yes ?_
   conv => whnf
   refine Br.yes ?_
   conv => whnf
   refine Br.yes ?_
   conv => whnf
   refine Br.yes ?_
   conv => whnf
   refine Br.yes ?_
   conv => whnf
   cases h; exact ⟨rfl, rfl⟩
  conv => whnf
  refine Br.no ?_
  conv => whnf
  refine Cells.lit rfl rfl ?_
  conv => whnf
  refine Br.no ?_
  conv => whnf
  refine Len.map ?_
  conv => whnf
  refine Br.no ?_
  conv => whnf
  refine Br.no ?_
  conv => whnf
  refine Br.od h (fun p3 h => ?_) (fun p3 h => ?_)
  ·conv => whnf
   cases h; exact ⟨rfl, rfl⟩
  conv => whnf
  cases h; exact ⟨rfl, rfl⟩
 rintro (⟨⟩ | ⟨⟩) h
 ·try dsimp only at h
  conv => whnf
  cases h; exact (by first | rfl | simp only [Ah, Aa, V.fz, fzL, V.up, upL, Ab, Ac, Ad, slr] | simp [Ah, Aa, V.fz, fzL, V.up, upL, Ab, Ac, Ad, slr])
 try dsimp only at h
 conv => whnf
 refine Cells.lit rfl rfl ?_
 conv => whnf
 refine Len.map ?_
 conv => whnf
 refine LoopQ.o [22, 21, 20, 1] (Gh a0) (J2 a0) h (fun s o h => Qp s o h) (by first | rfl | simp [restrict, look, Aa, V.fz, fzL, V.up, upL, Ab, Ac, Ad, slr]) (by rintro (_ | _) <;> rfl) ?_
 rintro (⟨⟩ | ⟨⟩) h
 ·try dsimp only at h
  conv => whnf
  cases h; exact (by first | rfl | simp only [Ah, Aa, V.fz, fzL, V.up, upL, Ab, Ac, Ad, slr] | simp [Ah, Aa, V.fz, fzL, V.up, upL, Ab, Ac, Ad, slr])
 try dsimp only at h
 conv => whnf
 cases h; exact (by first | rfl | simp only [Ah, Aa, V.fz, fzL, V.up, upL, Ab, Ac, Ad, slr] | simp [Ah, Aa, V.fz, fzL, V.up, upL, Ab, Ac, Ad, slr])
noncomputable def C0 (a0 : SAlgebra) : Int → Option (Int ⊕ (Unit ⊕ Unit)) := fun x3 =>
 if x3 < (↑a0.Ops.length : Int) then
 ask ((0 : Int) ≤ x3 ∧ x3 < (↑a0.Ops.length : Int)) <|
 (Jb (a0.Size) (nth a0.Ops x3.toNat)).bind fun r7 =>
 if (r7) = true then
 ask (InI (x3 + (1 : Int))) <|
 some (.inl (x3 + (1 : Int)))
 else
 some (.inr (.inl ()))
 else
 some (.inr (.inr ()))
def Ie (a0 : SAlgebra) : Int → St := fun s => [(3, A.val (Ae s)), (1, A.val ((rP true (Ag false)) (a0)))]
def Mg (_a0 : SAlgebra) : (Unit ⊕ Unit) → Tgt
 | (.inl _s) => (Ex.ret, [2], [(2, A.val (V.bool (false)))])
 | (.inr _s) => ((Ex.exit 0), [], [])
theorem Uj {a0 : SAlgebra} (x3 : Int) (o : Int ⊕ (Unit ⊕ Unit)) (h : C0 a0 x3 = some o) : vc Try.prog Mc (F6 [3, 1] (Ie a0) (Mg a0) o) (Ie a0 x3) := by
 unfold C0 at h
 try dsimp only at h
 conv => whnf
 refine Cells.lit rfl rfl ?_
 conv => whnf
 refine Len.map ?_
 conv => whnf
 refine Br.od h (fun p5 h => ?_) (fun p5 h => ?_)
 ·conv => whnf
  refine Cells.lit rfl rfl ?_
  conv => whnf
  refine Cells.lit rfl rfl ?_
  conv => whnf
  refine Len.map ?_
  conv => whnf
  refine Ask.o h fun p6 h => ?_
  conv => whnf
  refine Elem.o (by first | omega | (simp [A5] at *; omega)) ?_
  conv => whnf
  refine CallQ.o V.bool (by first | rfl | simp only [Aa, V.fz, fzL, V.up, upL, Ab, Ac, Ad, slr, List.cons_append, List.nil_append] | simp [Aa, V.fz, fzL, V.up, upL, Ab, Ac, Ad, slr]) h (fun r h => Afs h) (fun r7 h => ?_)
  conv => whnf
  refine Br.flip ?_
  conv => whnf
  refine Br.ob h (fun p8 h => ?_) (fun p8 h => ?_)
  ·conv => whnf
   refine Ask.o h fun p9 h => ?_
   conv => whnf
   cases h; exact ⟨rfl, rfl⟩
  conv => whnf
  cases h; exact ⟨rfl, rfl⟩
 conv => whnf
 cases h; exact ⟨rfl, rfl⟩
noncomputable def Fs (a0 : SAlgebra) : Option Bool :=
 (((Cv (a0.Size) ((1 : Int)) ((8 : Int))).bind fun r1 =>
 if (r1) = true then
 if (↑a0.Ops.length : Int) > (4 : Int) then
 some (.inl ())
 else
 some (.inr ())
 else
 some (.inl ()) : Option (Unit ⊕ Unit))).bind fun t => match t with
 | (.inl _) => (some false)
 | (.inr _) => ((Bb (C0 a0) (0 : Int)).bind fun t => match t with
 | (.inl _) => (some false)
 | (.inr _) => (some true))
theorem Qy {a0 : SAlgebra} {v : Bool} (h : Fs a0 = some v) : Ret Try.prog I8 [(Ag false) a0] (V.bool v) := by
 refine Bf Z4 (Nat.le_of_ble_eq_true rfl) ?_
 unfold Fs at h
 conv => whnf
 refine CutQ.o (fun t : (Unit ⊕ Unit) => match t with | (.inl s) => (Ex.ret, [2], [(2, A.val (V.bool (false)))]) | (.inr s) => (Ex.normal, [1], [(1, A.val ((rP true (Ag false)) (a0)))])) h ?_ ?_
 ·intro t h
  conv => whnf
  refine Cells.lit rfl rfl ?_
  conv => whnf
  refine CallQ.o V.bool (by first | rfl | simp only [Aa, V.fz, fzL, V.up, upL, Ab, Ac, Ad, slr, List.cons_append, List.nil_append] | simp [Aa, V.fz, fzL, V.up, upL, Ab, Ac, Ad, slr]) h (fun r h => G8 h) (fun r1 h => ?_)
  conv => whnf
  refine Br.flip ?_
  conv => whnf
  refine Br.ob h (fun p2 h => ?_) (fun p2 h => ?_)
  ·conv => whnf
   refine Br.no ?_
   conv => whnf
   refine Cells.lit rfl rfl ?_
   conv => whnf
   refine Br.no ?_
   conv => whnf
   refine Len.map ?_
   conv => whnf
   refine Br.no ?_
   conv => whnf
   refine Br.no ?_
   conv => whnf
   refine Br.od h (fun p3 h => ?_) (fun p3 h => ?_)
   ·conv => whnf
    cases h; exact ⟨rfl, rfl⟩
   conv => whnf
   cases h; exact ⟨rfl, rfl⟩
  conv => whnf
  refine Br.yes ?_
  conv => whnf
  refine Br.yes ?_
  conv => whnf
  refine Br.yes ?_
  conv => whnf
  refine Br.yes ?_
  conv => whnf
  refine Br.yes ?_
  conv => whnf
  cases h; exact ⟨rfl, rfl⟩
 rintro (⟨⟩ | ⟨⟩) h
 ·try dsimp only at h
  conv => whnf
  cases h; exact (by first | rfl | simp only [Ah, Aa, V.fz, fzL, V.up, upL, Ab, Ac, Ad, slr] | simp [Ah, Aa, V.fz, fzL, V.up, upL, Ab, Ac, Ad, slr])
 try dsimp only at h
 conv => whnf
 refine LoopQ.o [3, 1] (Ie a0) (Mg a0) h (fun s o h => Uj s o h) (by first | rfl | simp [restrict, look, Aa, V.fz, fzL, V.up, upL, Ab, Ac, Ad, slr]) (by rintro (_ | _) <;> rfl) ?_
 rintro (⟨⟩ | ⟨⟩) h
 ·try dsimp only at h
  conv => whnf
  cases h; exact (by first | rfl | simp only [Ah, Aa, V.fz, fzL, V.up, upL, Ab, Ac, Ad, slr] | simp [Ah, Aa, V.fz, fzL, V.up, upL, Ab, Ac, Ad, slr])
 try dsimp only at h
 conv => whnf
 cases h; exact (by first | rfl | simp only [Ah, Aa, V.fz, fzL, V.up, upL, Ab, Ac, Ad, slr] | simp [Ah, Aa, V.fz, fzL, V.up, upL, Ab, Ac, Ad, slr])
noncomputable def C7 (c0 : Sl1Cur) (n0 : Int) : Option (Bool × Sl1Cur) :=
 (Al (c0) (n0)).bind fun (r1, u2) =>
 some (r1 == (0 : Int), u2)
theorem I0 {c0 : Sl1Cur} {n0 : Int} {v : (Bool × Sl1Cur)} (h : C7 c0 n0 = some v) : Og Try.prog Er [(rP true (Ai false)) c0, Ae n0] (V.bool v.1) 0 ((rP true (Ai false)) v.2) := by
 refine Nm Um (Nat.le_of_ble_eq_true rfl) ?_
 unfold C7 at h
 conv => whnf
 refine CallQ.io Ae (rP true (Ai false)) (by first | rfl | simp only [Aa, V.fz, fzL, V.up, upL, Ab, Ac, Ad, slr, List.cons_append, List.nil_append] | simp [Aa, V.fz, fzL, V.up, upL, Ab, Ac, Ad, slr]) rfl (fun _ => rfl) (fun _ => ⟨rfl, rfl⟩) rfl h (fun r h => Aq h) (fun r1 u2 h => ?_)
 conv => whnf
 cases h; exact ⟨(by first | rfl | simp only [Ah, Aa, V.fz, fzL, V.up, upL, Ab, Ac, Ad, slr] | simp [Ah, Aa, V.fz, fzL, V.up, upL, Ab, Ac, Ad, slr]), (by first | rfl | simp only [Ah, Aa, V.fz, fzL, V.up, upL, Ab, Ac, Ad, slr] | simp [Ah, Aa, V.fz, fzL, V.up, upL, Ab, Ac, Ad, slr])⟩
noncomputable def Ak (c0 : Sl1Cur) (list0 : (List Int)) : Option (Int × Sl1Cur) :=
 (Al (c0) ((↑list0.length : Int))).bind fun (r1, u2) =>
 ask ((0 : Int) ≤ r1 ∧ r1 < (↑list0.length : Int)) <|
 some (nth list0 r1.toNat, u2)
theorem Ap {c0 : Sl1Cur} {list0 : (List Int)} {v : (Int × Sl1Cur)} (h : Ak c0 list0 = some v) : Og Try.prog Am [(rP true (Ai false)) c0, (slr false 1 Ae) list0] (Ae v.1) 0 ((rP true (Ai false)) v.2) := by
 refine Nm Rn (Nat.le_of_ble_eq_true rfl) ?_
 unfold Ak at h
 conv => whnf
 refine Len.map ?_
 conv => whnf
 refine CallQ.io Ae (rP true (Ai false)) (by first | rfl | simp only [Aa, V.fz, fzL, V.up, upL, Ab, Ac, Ad, slr, List.cons_append, List.nil_append] | simp [Aa, V.fz, fzL, V.up, upL, Ab, Ac, Ad, slr]) rfl (fun _ => rfl) (fun _ => ⟨rfl, rfl⟩) rfl h (fun r h => Aq h) (fun r1 u2 h => ?_)
 conv => whnf
 refine Len.map ?_
 conv => whnf
 refine Ask.o h fun p3 h => ?_
 conv => whnf
 refine Elem.o (by first | omega | (simp [A5] at *; omega)) ?_
 conv => whnf
 cases h; exact ⟨(by first | rfl | simp only [Ah, Aa, V.fz, fzL, V.up, upL, Ab, Ac, Ad, slr] | simp [Ah, Aa, V.fz, fzL, V.up, upL, Ab, Ac, Ad, slr]), (by first | rfl | simp only [Ah, Aa, V.fz, fzL, V.up, upL, Ab, Ac, Ad, slr] | simp [Ah, Aa, V.fz, fzL, V.up, upL, Ab, Ac, Ad, slr])⟩
noncomputable def Eh (a0 : SAlgebra) (t0 : List Int) : (Int × (List (List Int))) → Option ((Int × (List (List Int))) ⊕ (List (List Int))) := fun (x6, x5) =>
 if x6 < (↑t0.length : Int) then
 (C9 (a0) (t0) (x6)).bind fun r2 =>
 ask (0 ≤ x6 ∧ x6 ≤ r2 ∧ r2 ≤ ((t0.length : Nat) : Int)) <|
 (Fk (List.take (r2.toNat - x6.toNat) (List.drop x6.toNat t0))).bind fun r3 =>
 ask ((x5).length + ([r3]).length ≤ LIM) <|
 (C9 (a0) (t0) (x6)).bind fun r4 =>
 some (.inl (r4, x5 ++ [r3]))
 else
 some (.inr x5)
def H6 (a0 : SAlgebra) (t0 : List Int) : (Int × (List (List Int))) → St := fun s => [(6, A.val (Ae s.1)), (5, A.val ((slr true 1 (slr true 1 Ae)) s.2)), (2, A.val ((rP true (Ag false)) (a0))), (1, A.val ((slr false 1 Ae) (t0)))]
def Lm (_a0 : SAlgebra) (_t0 : List Int) : (List (List Int)) → Tgt
 | s => ((Ex.exit 0), [5], [(5, A.val ((slr true 1 (slr true 1 Ae)) s))])
theorem Tb {a0 : SAlgebra} {t0 : List Int} (s : (Int × (List (List Int)))) (o : (Int × (List (List Int))) ⊕ (List (List Int))) (h : Eh a0 t0 s = some o) : vc Try.prog Lp (F6 [6, 5, 2, 1] (H6 a0 t0) (Lm a0 t0) o) (H6 a0 t0 s) := by
 obtain ⟨x6, x5⟩ := s
 unfold Eh at h
 try dsimp only at h
 conv => whnf
 refine Len.map ?_
 conv => whnf
 refine Br.od h (fun p1 h => ?_) (fun p1 h => ?_)
 ·conv => whnf
  refine Cells.lit rfl rfl ?_
  conv => whnf
  refine CallQ.o Ae (by first | rfl | simp only [Aa, V.fz, fzL, V.up, upL, Ab, Ac, Ad, slr, List.cons_append, List.nil_append] | simp [Aa, V.fz, fzL, V.up, upL, Ab, Ac, Ad, slr]) h (fun r h => Hq h) (fun r2 h => ?_)
  conv => whnf
  refine SlcQ.o Ae h fun h => ?_
  conv => whnf
  refine CallQ.o (slr true 1 Ae) (by first | rfl | simp only [Aa, V.fz, fzL, V.up, upL, Ab, Ac, Ad, slr, List.cons_append, List.nil_append] | simp [Aa, V.fz, fzL, V.up, upL, Ab, Ac, Ad, slr]) h (fun r h => Nk h) (fun r3 h => ?_)
  conv => whnf
  refine BslQ.o (slr true 1 Ae) [r3] (by exact fun _ => ⟨rfl, rfl⟩) (by first | rfl | simp only [Aa, V.fz, fzL, V.up, upL, Ab, Ac, Ad, slr, List.cons_append, List.nil_append] | simp [Aa, V.fz, fzL, V.up, upL, Ab, Ac, Ad, slr]) ?_
  conv => whnf
  refine NoOwn.own rfl ?_
  conv => whnf
  refine AppQ.o (m := 1) (slr true 1 Ae) (by exact fun _ => ⟨rfl, rfl⟩) (x5) ([r3]) (by first | rfl | simp only [Aa, V.fz, fzL, V.up, upL, Ab, Ac, Ad, slr, List.cons_append, List.nil_append] | simp [Aa, V.fz, fzL, V.up, upL, Ab, Ac, Ad, slr]) (by first | rfl | simp only [Aa, V.fz, fzL, V.up, upL, Ab, Ac, Ad, slr, List.cons_append, List.nil_append] | simp [Aa, V.fz, fzL, V.up, upL, Ab, Ac, Ad, slr]) h fun h => ?_
  conv => whnf
  refine Cells.lit rfl rfl ?_
  conv => whnf
  refine CallQ.o Ae (by first | rfl | simp only [Aa, V.fz, fzL, V.up, upL, Ab, Ac, Ad, slr, List.cons_append, List.nil_append] | simp [Aa, V.fz, fzL, V.up, upL, Ab, Ac, Ad, slr]) h (fun r h => Hq h) (fun r4 h => ?_)
  conv => whnf
  cases h; exact ⟨rfl, rfl⟩
 conv => whnf
 cases h; exact ⟨rfl, rfl⟩
noncomputable def F0 (a0 : SAlgebra) (t0 : (List Int)) : Option (List (List Int)) :=
 (Bb (Eh a0 t0) ((1 : Int), Au (List Int))).bind fun q5_5 =>
 some q5_5
theorem Zf {a0 : SAlgebra} {t0 : (List Int)} {v : (List (List Int))} (h : F0 a0 t0 = some v) : Ret Try.prog Ku [(Ag false) a0, (slr false 1 Ae) t0] ((slr true 1 (slr true 1 Ae)) v) := by
 refine Bf Xe (Nat.le_of_ble_eq_true rfl) ?_
 unfold F0 at h
 conv => whnf
 refine BslQ.o (slr true 1 Ae) (Au (List Int)) (by exact fun _ => ⟨rfl, rfl⟩) (by first | rfl | simp only [Aa, V.fz, fzL, V.up, upL, Ab, Ac, Ad, slr, List.cons_append, List.nil_append] | simp [Aa, V.fz, fzL, V.up, upL, Ab, Ac, Ad, slr]) ?_
 conv => whnf
 refine LoopQ.o [6, 5, 2, 1] (H6 a0 t0) (Lm a0 t0) h (fun s o h => Tb s o h) (by first | rfl | simp [restrict, look, Aa, V.fz, fzL, V.up, upL, Ab, Ac, Ad, slr]) (fun _ => rfl) ?_
 rintro q5_5 h
 try dsimp only at h
 conv => whnf
 cases h; exact (by first | rfl | simp only [Ah, Aa, V.fz, fzL, V.up, upL, Ab, Ac, Ad, slr] | simp [Ah, Aa, V.fz, fzL, V.up, upL, Ab, Ac, Ad, slr])
noncomputable def B0 (a0 : SAlgebra) (t0 : (List Int)) : Option Bool :=
 (Ew (a0)).bind fun r1 =>
 if (r1) = true then
 (El (a0) (t0)).bind fun r3 =>
 some r3
 else
 some false
theorem Ek {a0 : SAlgebra} {t0 : (List Int)} {v : Bool} (h : B0 a0 t0 = some v) : Ret Try.prog C8 [(Ag false) a0, (slr false 1 Ae) t0] (V.bool v) := by
 refine Bf Z0 (Nat.le_of_ble_eq_true rfl) ?_
 unfold B0 at h
 conv => whnf
 refine Cells.lit rfl rfl ?_
 conv => whnf
 refine CallQ.o V.bool (by first | rfl | simp only [Aa, V.fz, fzL, V.up, upL, Ab, Ac, Ad, slr, List.cons_append, List.nil_append] | simp [Aa, V.fz, fzL, V.up, upL, Ab, Ac, Ad, slr]) h (fun r h => Tu h) (fun r1 h => ?_)
 conv => whnf
 refine Br.ob h (fun p2 h => ?_) (fun p2 h => ?_)
 ·conv => whnf
  refine Cells.lit rfl rfl ?_
  conv => whnf
  refine Br.yes ?_
  conv => whnf
  refine Br.yes ?_
  conv => whnf
  refine CallQ.o V.bool (by first | rfl | simp only [Aa, V.fz, fzL, V.up, upL, Ab, Ac, Ad, slr, List.cons_append, List.nil_append] | simp [Aa, V.fz, fzL, V.up, upL, Ab, Ac, Ad, slr]) h (fun r h => L2 h) (fun r3 h => ?_)
  conv => whnf
  refine Br.yes ?_
  conv => whnf
  cases h; exact (by first | rfl | simp only [Ah, Aa, V.fz, fzL, V.up, upL, Ab, Ac, Ad, slr] | simp [Ah, Aa, V.fz, fzL, V.up, upL, Ab, Ac, Ad, slr])
 conv => whnf
 refine Br.no ?_
 conv => whnf
 refine Br.no ?_
 conv => whnf
 refine Br.no ?_
 conv => whnf
 cases h; exact (by first | rfl | simp only [Ah, Aa, V.fz, fzL, V.up, upL, Ab, Ac, Ad, slr] | simp [Ah, Aa, V.fz, fzL, V.up, upL, Ab, Ac, Ad, slr])
end Go.Proofs.Ytjinhobffbppbaa.Ax
