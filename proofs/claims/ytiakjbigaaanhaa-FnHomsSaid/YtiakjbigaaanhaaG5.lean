/-
 What the functions compute, as functions on plain data, and that the program does compute it; written by program.
-/
import Derived.Test.YtiakjbigaaanhaaCode
import Derived.Test.YtiakjbigaaanhaaG1
import Derived.Test.YtiakjbigaaanhaaG2
namespace Go.Proofs.Ytiakjbigaaanhaa.Ax
open Go
set_option maxRecDepth 100000
set_option maxHeartbeats 4000000
noncomputable def Ck (a0 : SAlgebra) (names0 : List Int) (_x6 : Int) (_x5 : SAlgebra) (_x8 : Int) (_x7 : SOp) (r6 : List Int) : (Int × Int) → Option ((Int × Int) ⊕ Int) := fun (x11, x10) =>
 if x11 < (↑r6.length : Int) then
 ask (InI (x10 * a0.Size)) <|
 ask ((0 : Int) ≤ x11 ∧ x11 < (↑r6.length : Int)) <|
 ask ((0 : Int) ≤ nth r6 x11.toNat ∧ nth r6 x11.toNat < (↑names0.length : Int)) <|
 ask (InI (x10 * a0.Size + nth names0 (nth r6 x11.toNat).toNat)) <|
 ask (InI (x11 + (1 : Int))) <|
 some (.inl (x11 + (1 : Int), x10 * a0.Size + nth names0 (nth r6 x11.toNat).toNat))
 else
 some (.inr x10)
def I7 (a0 : SAlgebra) (names0 : List Int) (x6 : Int) (x5 : SAlgebra) (x8 : Int) (x7 : SOp) (r6 : List Int) : (Int × Int) → St := fun s => [(11, A.val (Ag s.1)), (10, A.val (Ag s.2)), (9, A.val ((slr true 1 Ag) (r6))), (8, A.val (Ag (x8))), (7, A.val ((rP true (A1 true)) (x7))), (6, A.val (Ag (x6))), (5, A.val ((rP true (Ae true)) (x5))), (4, A.val ((rP true (Ae true)) ({ Size := (0 : Int), Ops := Al SOp }))), (2, A.val ((rP true (Ae false)) (a0))), (1, A.val ((slr false 1 Ag) (names0)))]
def Oy (a0 : SAlgebra) (names0 : List Int) (x6 : Int) (x5 : SAlgebra) (x8 : Int) (x7 : SOp) (_r6 : List Int) : Int → Tgt
 | s => ((Ex.exit 4), [10, 8, 7, 6, 5, 4, 2, 1], [(10, A.val (Ag s)), (8, A.val (Ag (x8))), (7, A.val ((rP true (A1 true)) (x7))), (6, A.val (Ag (x6))), (5, A.val ((rP true (Ae true)) (x5))), (4, A.val ((rP true (Ae true)) ({ Size := (0 : Int), Ops := Al SOp }))), (2, A.val ((rP true (Ae false)) (a0))), (1, A.val ((slr false 1 Ag) (names0)))])
theorem X7 {a0 : SAlgebra} {names0 : List Int} {x6 : Int} {x5 : SAlgebra} {x8 : Int} {x7 : SOp} {r6 : List Int} (s : (Int × Int)) (o : (Int × Int) ⊕ Int) (h : Ck a0 names0 x6 x5 x8 x7 r6 s = some o) : vc Try.prog Ob (Cc [11, 10, 9, 8, 7, 6, 5, 4, 2, 1] (I7 a0 names0 x6 x5 x8 x7 r6) (Oy a0 names0 x6 x5 x8 x7 r6) o) (I7 a0 names0 x6 x5 x8 x7 r6 s) := by
 obtain ⟨x11, x10⟩ := s
 unfold Ck at h
 try dsimp only at h
 conv => whnf
 refine Len.map ?_
 conv => whnf
 refine Br.od h (fun p7 h => ?_) (fun p7 h => ?_)
 ·conv => whnf
  refine Cells.lit rfl rfl ?_
  conv => whnf
  refine Ask.o h fun p8 h => ?_
  conv => whnf
  refine Len.map ?_
  conv => whnf
  refine Ask.o h fun p9 h => ?_
  conv => whnf
  refine Cells.one (fun _ => ⟨rfl, rfl⟩) (by first | omega | (simp [Ap] at *; omega)) ?_
  conv => whnf
  refine Len.map ?_
  conv => whnf
  refine Ask.o h fun p10 h => ?_
  conv => whnf
  refine Elem.o (by first | omega | (simp [Ap] at *; omega)) ?_
  conv => whnf
  refine Ask.o h fun p11 h => ?_
  conv => whnf
  refine Ask.o h fun p12 h => ?_
  conv => whnf
  cases h; exact ⟨rfl, rfl⟩
 conv => whnf
 cases h; exact ⟨rfl, rfl⟩
noncomputable def Ci (a0 : SAlgebra) (names0 : List Int) (x6 : Int) (x5 : SAlgebra) : (Int × SOp) → Option ((Int × SOp) ⊕ SOp) := fun (x8, x7) =>
 if x8 < (↑x7.Table.length : Int) then
 (Cw (a0.Size) (x7.Arity) (x8)).bind fun r6 =>
 (Am (Ck a0 names0 x6 x5 x8 x7 r6) ((0 : Int), (0 : Int))).bind fun q13_10 =>
 ask ((0 : Int) ≤ x6 ∧ x6 < (↑a0.Ops.length : Int)) <|
 ask ((0 : Int) ≤ x8 ∧ x8 < (↑(nth a0.Ops x6.toNat).Table.length : Int)) <|
 ask ((0 : Int) ≤ nth (nth a0.Ops x6.toNat).Table x8.toNat ∧ nth (nth a0.Ops x6.toNat).Table x8.toNat < (↑names0.length : Int)) <|
 ask ((0 : Int) ≤ q13_10 ∧ q13_10 < (↑x7.Table.length : Int)) <|
 ask (InI (x8 + (1 : Int))) <|
 some (.inl (x8 + (1 : Int), { Arity := x7.Arity, Table := x7.Table.set q13_10.toNat (nth names0 (nth (nth a0.Ops x6.toNat).Table x8.toNat).toNat) }))
 else
 some (.inr x7)
def I9 (a0 : SAlgebra) (names0 : List Int) (x6 : Int) (x5 : SAlgebra) : (Int × SOp) → St := fun s => [(8, A.val (Ag s.1)), (7, A.val ((rP true (A1 true)) s.2)), (6, A.val (Ag (x6))), (5, A.val ((rP true (Ae true)) (x5))), (4, A.val ((rP true (Ae true)) ({ Size := (0 : Int), Ops := Al SOp }))), (2, A.val ((rP true (Ae false)) (a0))), (1, A.val ((slr false 1 Ag) (names0)))]
def O9 (a0 : SAlgebra) (names0 : List Int) (x6 : Int) (x5 : SAlgebra) : SOp → Tgt
 | s => ((Ex.exit 2), [7, 6, 5, 4, 2, 1], [(7, A.val ((rP true (A1 true)) s)), (6, A.val (Ag (x6))), (5, A.val ((rP true (Ae true)) (x5))), (4, A.val ((rP true (Ae true)) ({ Size := (0 : Int), Ops := Al SOp }))), (2, A.val ((rP true (Ae false)) (a0))), (1, A.val ((slr false 1 Ag) (names0)))])
theorem Xy {a0 : SAlgebra} {names0 : List Int} {x6 : Int} {x5 : SAlgebra} (s : (Int × SOp)) (o : (Int × SOp) ⊕ SOp) (h : Ci a0 names0 x6 x5 s = some o) : vc Try.prog Ol (Cc [8, 7, 6, 5, 4, 2, 1] (I9 a0 names0 x6 x5) (O9 a0 names0 x6 x5) o) (I9 a0 names0 x6 x5 s) := by
 obtain ⟨x8, x7⟩ := s
 unfold Ci at h
 try dsimp only at h
 conv => whnf
 refine Cells.lit rfl rfl ?_
 conv => whnf
 refine Kid.lit rfl rfl ?_
 conv => whnf
 refine Len.map ?_
 conv => whnf
 refine Br.od h (fun p5 h => ?_) (fun p5 h => ?_)
 ·conv => whnf
  refine Cells.lit rfl rfl ?_
  conv => whnf
  refine Cells.lit rfl rfl ?_
  conv => whnf
  refine CallQ.o (slr true 1 Ag) (by first | rfl | simp only [Aa, V.fz, fzL, V.up, upL, Ab, Ac, Ad, slr, List.cons_append, List.nil_append] | simp [Aa, V.fz, fzL, V.up, upL, Ab, Ac, Ad, slr]) h (fun r h => Iq h) (fun r6 h => ?_)
  conv => whnf
  refine LoopQ.o [11, 10, 9, 8, 7, 6, 5, 4, 2, 1] (I7 a0 names0 x6 x5 x8 x7 r6) (Oy a0 names0 x6 x5 x8 x7 r6) h (fun s o h => X7 s o h) (by first | rfl | simp [restrict, look, Aa, V.fz, fzL, V.up, upL, Ab, Ac, Ad, slr]) (fun _ => rfl) ?_
  rintro q13_10 h
  try dsimp only at h
  conv => whnf
  refine Cells.lit rfl rfl ?_
  conv => whnf
  refine Cells.lit rfl rfl ?_
  conv => whnf
  refine Len.map ?_
  conv => whnf
  refine Ask.o h fun p14 h => ?_
  conv => whnf
  refine Elem.o (by first | omega | (simp [Ap] at *; omega)) ?_
  conv => whnf
  refine Len.map ?_
  conv => whnf
  refine Ask.o h fun p15 h => ?_
  conv => whnf
  refine Elem.o (by first | omega | (simp [Ap] at *; omega)) ?_
  conv => whnf
  refine Len.map ?_
  conv => whnf
  refine Ask.o h fun p16 h => ?_
  conv => whnf
  refine Elem.o (by first | omega | (simp [Ap] at *; omega)) ?_
  conv => whnf
  refine Kid.lit rfl rfl ?_
  conv => whnf
  refine Len.map ?_
  conv => whnf
  refine Ask.o h fun p17 h => ?_
  conv => whnf
  refine Kid.lit rfl rfl ?_
  conv => whnf
  refine SetKids.one (fun _ => ⟨rfl, rfl⟩) (nth names0 (nth (nth a0.Ops x6.toNat).Table x8.toNat).toNat) (by first | rfl | simp only [Aa, V.fz, fzL, V.up, upL, Ab, Ac, Ad, slr, List.cons_append, List.nil_append] | simp [Aa, V.fz, fzL, V.up, upL, Ab, Ac, Ad, slr]) (by first | omega | (simp [Ap] at *; omega)) ?_
  conv => whnf
  refine Kid.lit rfl rfl ?_
  conv => whnf
  refine SetKids.lit rfl ?_
  conv => whnf
  refine Ask.o h fun p18 h => ?_
  conv => whnf
  cases h; exact ⟨rfl, rfl⟩
 conv => whnf
 cases h; exact ⟨rfl, rfl⟩
noncomputable def Ch (a0 : SAlgebra) (names0 : List Int) : (Int × SAlgebra) → Option ((Int × SAlgebra) ⊕ SAlgebra) := fun (x6, x5) =>
 if x6 < (↑a0.Ops.length : Int) then
 ask ((0 : Int) ≤ x6 ∧ x6 < (↑a0.Ops.length : Int)) <|
 ask ((0 : Int) ≤ x6 ∧ x6 < (↑a0.Ops.length : Int)) <|
 ask ((0 : Int) ≤ (↑(nth a0.Ops x6.toNat).Table.length : Int) ∧ (↑(nth a0.Ops x6.toNat).Table.length : Int) ≤ (↑LIM : Int)) <|
 (Am (Ci a0 names0 x6 x5) ((0 : Int), { Arity := (nth a0.Ops x6.toNat).Arity, Table := List.replicate (↑(nth a0.Ops x6.toNat).Table.length : Int).toNat (0 : Int) })).bind fun q19_7 =>
 ask ((x5.Ops).length + ([q19_7]).length ≤ LIM) <|
 ask (InI (x6 + (1 : Int))) <|
 some (.inl (x6 + (1 : Int), { Size := x5.Size, Ops := x5.Ops ++ [q19_7] }))
 else
 some (.inr x5)
def I3 (a0 : SAlgebra) (names0 : List Int) : (Int × SAlgebra) → St := fun s => [(6, A.val (Ag s.1)), (5, A.val ((rP true (Ae true)) s.2)), (4, A.val ((rP true (Ae true)) ({ Size := (0 : Int), Ops := Al SOp }))), (2, A.val ((rP true (Ae false)) (a0))), (1, A.val ((slr false 1 Ag) (names0)))]
def N6 (_a0 : SAlgebra) (_names0 : List Int) : SAlgebra → Tgt
 | s => ((Ex.exit 0), [5, 4], [(5, A.val ((rP true (Ae true)) s)), (4, A.val ((rP true (Ae true)) ({ Size := (0 : Int), Ops := Al SOp })))])
theorem Xz {a0 : SAlgebra} {names0 : List Int} (s : (Int × SAlgebra)) (o : (Int × SAlgebra) ⊕ SAlgebra) (h : Ch a0 names0 s = some o) : vc Try.prog Ot (Cc [6, 5, 4, 2, 1] (I3 a0 names0) (N6 a0 names0) o) (I3 a0 names0 s) := by
 obtain ⟨x6, x5⟩ := s
 unfold Ch at h
 try dsimp only at h
 conv => whnf
 refine Cells.lit rfl rfl ?_
 conv => whnf
 refine Len.map ?_
 conv => whnf
 refine Br.od h (fun p1 h => ?_) (fun p1 h => ?_)
 ·conv => whnf
  refine Cells.lit rfl rfl ?_
  conv => whnf
  refine Len.map ?_
  conv => whnf
  refine Ask.o h fun p2 h => ?_
  conv => whnf
  refine Elem.o (by first | omega | (simp [Ap] at *; omega)) ?_
  conv => whnf
  refine Cells.lit rfl rfl ?_
  conv => whnf
  refine Len.map ?_
  conv => whnf
  refine Ask.o h fun p3 h => ?_
  conv => whnf
  refine Elem.o (by first | omega | (simp [Ap] at *; omega)) ?_
  conv => whnf
  refine Len.map ?_
  conv => whnf
  refine Ask.o h fun p4 h => ?_
  conv => whnf
  refine MkQ.o Ag ((0 : Int)) rfl ?_
  conv => whnf
  refine SetKids.lit rfl ?_
  conv => whnf
  refine LoopQ.o [8, 7, 6, 5, 4, 2, 1] (I9 a0 names0 x6 x5) (O9 a0 names0 x6 x5) h (fun s o h => Xy s o h) (by first | rfl | simp [restrict, look, Aa, V.fz, fzL, V.up, upL, Ab, Ac, Ad, slr]) (fun _ => rfl) ?_
  rintro q19_7 h
  try dsimp only at h
  conv => whnf
  refine Cells.lit rfl rfl ?_
  conv => whnf
  refine Cells.lit rfl rfl ?_
  conv => whnf
  refine BslQ.o (A1 true) [q19_7] (by exact fun _ => ⟨rfl, rfl⟩) (by first | rfl | simp only [Aa, V.fz, fzL, V.up, upL, Ab, Ac, Ad, slr, List.cons_append, List.nil_append] | simp [Aa, V.fz, fzL, V.up, upL, Ab, Ac, Ad, slr]) ?_
  conv => whnf
  refine NoOwn.own rfl ?_
  conv => whnf
  refine Kid.lit rfl rfl ?_
  conv => whnf
  refine Kid.lit rfl rfl ?_
  conv => whnf
  refine SetKids.lit rfl ?_
  conv => whnf
  refine AppQ.o (m := 2) (A1 true) (by exact fun _ => ⟨rfl, rfl⟩) (x5.Ops) ([q19_7]) (by first | rfl | simp only [Aa, V.fz, fzL, V.up, upL, Ab, Ac, Ad, slr, List.cons_append, List.nil_append] | simp [Aa, V.fz, fzL, V.up, upL, Ab, Ac, Ad, slr]) (by first | rfl | simp only [Aa, V.fz, fzL, V.up, upL, Ab, Ac, Ad, slr, List.cons_append, List.nil_append] | simp [Aa, V.fz, fzL, V.up, upL, Ab, Ac, Ad, slr]) h fun h => ?_
  conv => whnf
  refine SetKids.lit rfl ?_
  conv => whnf
  refine Ask.o h fun p20 h => ?_
  conv => whnf
  cases h; exact ⟨rfl, rfl⟩
 conv => whnf
 cases h; exact ⟨rfl, rfl⟩
noncomputable def E8 (a0 : SAlgebra) (names0 : (List Int)) : Option SAlgebra :=
 (Am (Ch a0 names0) ((0 : Int), { Size := a0.Size, Ops := Al SOp })).bind fun q21_5 =>
 some q21_5
theorem Ac1 {a0 : SAlgebra} {names0 : (List Int)} {v : SAlgebra} (h : E8 a0 names0 = some v) : Ret Try.prog Mz [(Ae false) a0, (slr false 1 Ag) names0] ((Ae true) v) := by
 refine Av Ac8 (Nat.le_of_ble_eq_true rfl) ?_
 unfold E8 at h
 conv => whnf
 refine Cells.lit rfl rfl ?_
 conv => whnf
 refine SetKids.lit rfl ?_
 conv => whnf
 refine LoopQ.o [6, 5, 4, 2, 1] (I3 a0 names0) (N6 a0 names0) h (fun s o h => Xz s o h) (by first | rfl | simp [restrict, look, Aa, V.fz, fzL, V.up, upL, Ab, Ac, Ad, slr]) (fun _ => rfl) ?_
 rintro q21_5 h
 try dsimp only at h
 conv => whnf
 refine Cells.lit rfl rfl ?_
 conv => whnf
 refine SetKids.lit rfl ?_
 conv => whnf
 cases h; exact (by first | rfl | simp only [Ah, Aa, V.fz, fzL, V.up, upL, Ab, Ac, Ad, slr] | simp [Ah, Aa, V.fz, fzL, V.up, upL, Ab, Ac, Ad, slr])
noncomputable def Gr (_a0 : SAlgebra) (sub0 : List Int) (_x6 : Int) (_x5 : SAlgebra) (_x8 : Int) (_x7 : SOp) : (Int × (List Int)) → Option ((Int × (List Int)) ⊕ (List Int)) := fun (x10, x9) =>
 if x10 < (↑x9.length : Int) then
 ask ((0 : Int) ≤ x10 ∧ x10 < (↑x9.length : Int)) <|
 ask ((0 : Int) ≤ nth x9 x10.toNat ∧ nth x9 x10.toNat < (↑sub0.length : Int)) <|
 ask ((0 : Int) ≤ x10 ∧ x10 < (↑x9.length : Int)) <|
 ask (InI (x10 + (1 : Int))) <|
 some (.inl (x10 + (1 : Int), x9.set x10.toNat (nth sub0 (nth x9 x10.toNat).toNat)))
 else
 some (.inr x9)
def M4 (a0 : SAlgebra) (sub0 : List Int) (x6 : Int) (x5 : SAlgebra) (x8 : Int) (x7 : SOp) : (Int × (List Int)) → St := fun s => [(10, A.val (Ag s.1)), (9, A.val ((slr true 1 Ag) s.2)), (8, A.val (Ag (x8))), (7, A.val ((rP true (A1 true)) (x7))), (6, A.val (Ag (x6))), (5, A.val ((rP true (Ae true)) (x5))), (4, A.val ((rP true (Ae true)) ({ Size := (0 : Int), Ops := Al SOp }))), (2, A.val ((rP true (Ae false)) (a0))), (1, A.val ((slr false 1 Ag) (sub0)))]
def T5 (a0 : SAlgebra) (sub0 : List Int) (x6 : Int) (x5 : SAlgebra) (x8 : Int) (x7 : SOp) : (List Int) → Tgt
 | s => ((Ex.exit 4), [9, 8, 7, 6, 5, 4, 2, 1], [(9, A.val ((slr true 1 Ag) s)), (8, A.val (Ag (x8))), (7, A.val ((rP true (A1 true)) (x7))), (6, A.val (Ag (x6))), (5, A.val ((rP true (Ae true)) (x5))), (4, A.val ((rP true (Ae true)) ({ Size := (0 : Int), Ops := Al SOp }))), (2, A.val ((rP true (Ae false)) (a0))), (1, A.val ((slr false 1 Ag) (sub0)))])
theorem Adf {a0 : SAlgebra} {sub0 : List Int} {x6 : Int} {x5 : SAlgebra} {x8 : Int} {x7 : SOp} (s : (Int × (List Int))) (o : (Int × (List Int)) ⊕ (List Int)) (h : Gr a0 sub0 x6 x5 x8 x7 s = some o) : vc Try.prog T7 (Cc [10, 9, 8, 7, 6, 5, 4, 2, 1] (M4 a0 sub0 x6 x5 x8 x7) (T5 a0 sub0 x6 x5 x8 x7) o) (M4 a0 sub0 x6 x5 x8 x7 s) := by
 obtain ⟨x10, x9⟩ := s
 unfold Gr at h
 try dsimp only at h
 conv => whnf
 refine Len.map ?_
 conv => whnf
 refine Br.od h (fun p6 h => ?_) (fun p6 h => ?_)
 ·conv => whnf
  refine Len.map ?_
  conv => whnf
  refine Ask.o h fun p7 h => ?_
  conv => whnf
  refine Cells.one (fun _ => ⟨rfl, rfl⟩) (by first | omega | (simp [Ap] at *; omega)) ?_
  conv => whnf
  refine Len.map ?_
  conv => whnf
  refine Ask.o h fun p8 h => ?_
  conv => whnf
  refine Elem.o (by first | omega | (simp [Ap] at *; omega)) ?_
  conv => whnf
  refine Len.map ?_
  conv => whnf
  refine Ask.o h fun p9 h => ?_
  conv => whnf
  refine SetKids.one (fun _ => ⟨rfl, rfl⟩) (nth sub0 (nth x9 x10.toNat).toNat) (by first | rfl | simp only [Aa, V.fz, fzL, V.up, upL, Ab, Ac, Ad, slr, List.cons_append, List.nil_append] | simp [Aa, V.fz, fzL, V.up, upL, Ab, Ac, Ad, slr]) (by first | omega | (simp [Ap] at *; omega)) ?_
  conv => whnf
  refine Ask.o h fun p10 h => ?_
  conv => whnf
  cases h; exact ⟨rfl, rfl⟩
 conv => whnf
 cases h; exact ⟨rfl, rfl⟩
noncomputable def Gq (a0 : SAlgebra) (sub0 : List Int) (x6 : Int) (x5 : SAlgebra) : (Int × SOp) → Option ((Int × SOp) ⊕ SOp) := fun (x8, x7) =>
 (Fd ((↑sub0.length : Int)) (x7.Arity)).bind fun r3 =>
 if x8 < r3 then
 (Cw ((↑sub0.length : Int)) (x7.Arity) (x8)).bind fun r5 =>
 (Am (Gr a0 sub0 x6 x5 x8 x7) ((0 : Int), r5)).bind fun q11_9 =>
 (Ev (a0) (x6) (q11_9)).bind fun r12 =>
 (Ht (sub0) (r12)).bind fun r13 =>
 ask ((x7.Table).length + ([r13]).length ≤ LIM) <|
 ask (InI (x8 + (1 : Int))) <|
 some (.inl (x8 + (1 : Int), { Arity := x7.Arity, Table := x7.Table ++ [r13] }))
 else
 some (.inr x7)
def Ng (a0 : SAlgebra) (sub0 : List Int) (x6 : Int) (x5 : SAlgebra) : (Int × SOp) → St := fun s => [(8, A.val (Ag s.1)), (7, A.val ((rP true (A1 true)) s.2)), (6, A.val (Ag (x6))), (5, A.val ((rP true (Ae true)) (x5))), (4, A.val ((rP true (Ae true)) ({ Size := (0 : Int), Ops := Al SOp }))), (2, A.val ((rP true (Ae false)) (a0))), (1, A.val ((slr false 1 Ag) (sub0)))]
def Ui (a0 : SAlgebra) (sub0 : List Int) (x6 : Int) (x5 : SAlgebra) : SOp → Tgt
 | s => ((Ex.exit 2), [7, 6, 5, 4, 2, 1], [(7, A.val ((rP true (A1 true)) s)), (6, A.val (Ag (x6))), (5, A.val ((rP true (Ae true)) (x5))), (4, A.val ((rP true (Ae true)) ({ Size := (0 : Int), Ops := Al SOp }))), (2, A.val ((rP true (Ae false)) (a0))), (1, A.val ((slr false 1 Ag) (sub0)))])
theorem Adc {a0 : SAlgebra} {sub0 : List Int} {x6 : Int} {x5 : SAlgebra} (s : (Int × SOp)) (o : (Int × SOp) ⊕ SOp) (h : Gq a0 sub0 x6 x5 s = some o) : vc Try.prog T8 (Cc [8, 7, 6, 5, 4, 2, 1] (Ng a0 sub0 x6 x5) (Ui a0 sub0 x6 x5) o) (Ng a0 sub0 x6 x5 s) := by
 obtain ⟨x8, x7⟩ := s
 unfold Gq at h
 try dsimp only at h
 conv => whnf
 refine Len.map ?_
 conv => whnf
 refine Cells.lit rfl rfl ?_
 conv => whnf
 refine CallQ.o Ag (by first | rfl | simp only [Aa, V.fz, fzL, V.up, upL, Ab, Ac, Ad, slr, List.cons_append, List.nil_append] | simp [Aa, V.fz, fzL, V.up, upL, Ab, Ac, Ad, slr]) h (fun r h => Th h) (fun r3 h => ?_)
 conv => whnf
 refine Br.od h (fun p4 h => ?_) (fun p4 h => ?_)
 ·conv => whnf
  refine Len.map ?_
  conv => whnf
  refine Cells.lit rfl rfl ?_
  conv => whnf
  refine CallQ.o (slr true 1 Ag) (by first | rfl | simp only [Aa, V.fz, fzL, V.up, upL, Ab, Ac, Ad, slr, List.cons_append, List.nil_append] | simp [Aa, V.fz, fzL, V.up, upL, Ab, Ac, Ad, slr]) h (fun r h => Iq h) (fun r5 h => ?_)
  conv => whnf
  refine LoopQ.o [10, 9, 8, 7, 6, 5, 4, 2, 1] (M4 a0 sub0 x6 x5 x8 x7) (T5 a0 sub0 x6 x5 x8 x7) h (fun s o h => Adf s o h) (by first | rfl | simp [restrict, look, Aa, V.fz, fzL, V.up, upL, Ab, Ac, Ad, slr]) (fun _ => rfl) ?_
  rintro q11_9 h
  try dsimp only at h
  conv => whnf
  refine Cells.lit rfl rfl ?_
  conv => whnf
  refine Cells.lit rfl rfl ?_
  conv => whnf
  refine CallP.rd Ag (by first | rfl | simp only [V.fz, fzL, V.up, Ab, Ad, slr] | simp [Aa, V.fz, fzL, V.up, upL, Ab, Ac, Ad, slr]) (fun _ => rfl) h (fun r h => Ox h) (fun r12 h => ?_)
  conv => whnf
  refine CallP.o Ag (by first | rfl | simp only [Aa, V.fz, fzL, V.up, upL, Ab, Ac, Ad, slr, List.cons_append, List.nil_append] | simp [Aa, V.fz, fzL, V.up, upL, Ab, Ac, Ad, slr]) h (fun r h => Ae3 h) (fun r13 h => ?_)
  conv => whnf
  refine BslQ.o Ag [r13] (by exact fun _ => ⟨rfl, rfl⟩) (by first | rfl | simp only [Aa, V.fz, fzL, V.up, upL, Ab, Ac, Ad, slr, List.cons_append, List.nil_append] | simp [Aa, V.fz, fzL, V.up, upL, Ab, Ac, Ad, slr]) ?_
  conv => whnf
  refine NoOwn.o (fun _ => rfl) ?_
  conv => whnf
  refine Kid.lit rfl rfl ?_
  conv => whnf
  refine Kid.lit rfl rfl ?_
  conv => whnf
  refine SetKids.lit rfl ?_
  conv => whnf
  refine AppQ.o (m := 1) Ag (by exact fun _ => ⟨rfl, rfl⟩) (x7.Table) ([r13]) (by first | rfl | simp only [Aa, V.fz, fzL, V.up, upL, Ab, Ac, Ad, slr, List.cons_append, List.nil_append] | simp [Aa, V.fz, fzL, V.up, upL, Ab, Ac, Ad, slr]) (by first | rfl | simp only [Aa, V.fz, fzL, V.up, upL, Ab, Ac, Ad, slr, List.cons_append, List.nil_append] | simp [Aa, V.fz, fzL, V.up, upL, Ab, Ac, Ad, slr]) h fun h => ?_
  conv => whnf
  refine SetKids.lit rfl ?_
  conv => whnf
  refine Ask.o h fun p14 h => ?_
  conv => whnf
  cases h; exact ⟨rfl, rfl⟩
 conv => whnf
 cases h; exact ⟨rfl, rfl⟩
noncomputable def Gv (a0 : SAlgebra) (sub0 : List Int) : (Int × SAlgebra) → Option ((Int × SAlgebra) ⊕ SAlgebra) := fun (x6, x5) =>
 if x6 < (↑a0.Ops.length : Int) then
 ask ((0 : Int) ≤ x6 ∧ x6 < (↑a0.Ops.length : Int)) <|
 (Am (Gq a0 sub0 x6 x5) ((0 : Int), { Arity := (nth a0.Ops x6.toNat).Arity, Table := Al Int })).bind fun q15_7 =>
 ask ((x5.Ops).length + ([q15_7]).length ≤ LIM) <|
 ask (InI (x6 + (1 : Int))) <|
 some (.inl (x6 + (1 : Int), { Size := x5.Size, Ops := x5.Ops ++ [q15_7] }))
 else
 some (.inr x5)
def Na (a0 : SAlgebra) (sub0 : List Int) : (Int × SAlgebra) → St := fun s => [(6, A.val (Ag s.1)), (5, A.val ((rP true (Ae true)) s.2)), (4, A.val ((rP true (Ae true)) ({ Size := (0 : Int), Ops := Al SOp }))), (2, A.val ((rP true (Ae false)) (a0))), (1, A.val ((slr false 1 Ag) (sub0)))]
def T1 (_a0 : SAlgebra) (_sub0 : List Int) : SAlgebra → Tgt
 | s => ((Ex.exit 0), [5, 4], [(5, A.val ((rP true (Ae true)) s)), (4, A.val ((rP true (Ae true)) ({ Size := (0 : Int), Ops := Al SOp })))])
theorem Adg {a0 : SAlgebra} {sub0 : List Int} (s : (Int × SAlgebra)) (o : (Int × SAlgebra) ⊕ SAlgebra) (h : Gv a0 sub0 s = some o) : vc Try.prog T9 (Cc [6, 5, 4, 2, 1] (Na a0 sub0) (T1 a0 sub0) o) (Na a0 sub0 s) := by
 obtain ⟨x6, x5⟩ := s
 unfold Gv at h
 try dsimp only at h
 conv => whnf
 refine Cells.lit rfl rfl ?_
 conv => whnf
 refine Len.map ?_
 conv => whnf
 refine Br.od h (fun p1 h => ?_) (fun p1 h => ?_)
 ·conv => whnf
  refine Cells.lit rfl rfl ?_
  conv => whnf
  refine Len.map ?_
  conv => whnf
  refine Ask.o h fun p2 h => ?_
  conv => whnf
  refine Elem.o (by first | omega | (simp [Ap] at *; omega)) ?_
  conv => whnf
  refine SetKids.lit rfl ?_
  conv => whnf
  refine LoopQ.o [8, 7, 6, 5, 4, 2, 1] (Ng a0 sub0 x6 x5) (Ui a0 sub0 x6 x5) h (fun s o h => Adc s o h) (by first | rfl | simp [restrict, look, Aa, V.fz, fzL, V.up, upL, Ab, Ac, Ad, slr]) (fun _ => rfl) ?_
  rintro q15_7 h
  try dsimp only at h
  conv => whnf
  refine Cells.lit rfl rfl ?_
  conv => whnf
  refine Cells.lit rfl rfl ?_
  conv => whnf
  refine BslQ.o (A1 true) [q15_7] (by exact fun _ => ⟨rfl, rfl⟩) (by first | rfl | simp only [Aa, V.fz, fzL, V.up, upL, Ab, Ac, Ad, slr, List.cons_append, List.nil_append] | simp [Aa, V.fz, fzL, V.up, upL, Ab, Ac, Ad, slr]) ?_
  conv => whnf
  refine NoOwn.own rfl ?_
  conv => whnf
  refine Kid.lit rfl rfl ?_
  conv => whnf
  refine Kid.lit rfl rfl ?_
  conv => whnf
  refine SetKids.lit rfl ?_
  conv => whnf
  refine AppQ.o (m := 2) (A1 true) (by exact fun _ => ⟨rfl, rfl⟩) (x5.Ops) ([q15_7]) (by first | rfl | simp only [Aa, V.fz, fzL, V.up, upL, Ab, Ac, Ad, slr, List.cons_append, List.nil_append] | simp [Aa, V.fz, fzL, V.up, upL, Ab, Ac, Ad, slr]) (by first | rfl | simp only [Aa, V.fz, fzL, V.up, upL, Ab, Ac, Ad, slr, List.cons_append, List.nil_append] | simp [Aa, V.fz, fzL, V.up, upL, Ab, Ac, Ad, slr]) h fun h => ?_
  conv => whnf
  refine SetKids.lit rfl ?_
  conv => whnf
  refine Ask.o h fun p16 h => ?_
  conv => whnf
  cases h; exact ⟨rfl, rfl⟩
 conv => whnf
 cases h; exact ⟨rfl, rfl⟩
noncomputable def Hy (a0 : SAlgebra) (sub0 : (List Int)) : Option SAlgebra :=
 (Am (Gv a0 sub0) ((0 : Int), { Size := (↑sub0.length : Int), Ops := Al SOp })).bind fun q17_5 =>
 some q17_5
theorem Ak7 {a0 : SAlgebra} {sub0 : (List Int)} {v : SAlgebra} (h : Hy a0 sub0 = some v) : Ret Try.prog Tv [(Ae false) a0, (slr false 1 Ag) sub0] ((Ae true) v) := by
 refine Av Akl (Nat.le_of_ble_eq_true rfl) ?_
 unfold Hy at h
 conv => whnf
 refine Len.map ?_
 conv => whnf
 refine SetKids.lit rfl ?_
 conv => whnf
 refine LoopQ.o [6, 5, 4, 2, 1] (Na a0 sub0) (T1 a0 sub0) h (fun s o h => Adg s o h) (by first | rfl | simp [restrict, look, Aa, V.fz, fzL, V.up, upL, Ab, Ac, Ad, slr]) (fun _ => rfl) ?_
 rintro q17_5 h
 try dsimp only at h
 conv => whnf
 refine Cells.lit rfl rfl ?_
 conv => whnf
 refine SetKids.lit rfl ?_
 conv => whnf
 cases h; exact (by first | rfl | simp only [Ah, Aa, V.fz, fzL, V.up, upL, Ab, Ac, Ad, slr] | simp [Ah, Aa, V.fz, fzL, V.up, upL, Ab, Ac, Ad, slr])
noncomputable def Lv (op0 : SOp) : Option SOp :=
 (Ei (op0.Table)).bind fun r1 =>
 some ({ Arity := op0.Arity, Table := r1 })
theorem Ai5 {op0 : SOp} {v : SOp} (h : Lv op0 = some v) : Ret Try.prog Qy [(A1 false) op0] ((A1 true) v) := by
 refine Av Aiu (Nat.le_of_ble_eq_true rfl) ?_
 unfold Lv at h
 conv => whnf
 refine Cells.lit rfl rfl ?_
 conv => whnf
 refine Cells.lit rfl rfl ?_
 conv => whnf
 refine CallP.o (slr true 1 Ag) (by first | rfl | simp only [Aa, V.fz, fzL, V.up, upL, Ab, Ac, Ad, slr, List.cons_append, List.nil_append] | simp [Aa, V.fz, fzL, V.up, upL, Ab, Ac, Ad, slr]) h (fun r h => Nq h) (fun r1 h => ?_)
 conv => whnf
 refine SetKids.lit rfl ?_
 conv => whnf
 cases h; exact (by first | rfl | simp only [Ah, Aa, V.fz, fzL, V.up, upL, Ab, Ac, Ad, slr] | simp [Ah, Aa, V.fz, fzL, V.up, upL, Ab, Ac, Ad, slr])
noncomputable def F6 (lists0 : List (List Int)) (l0 : List Int) : Int → Option (Int ⊕ Int) := fun x5 =>
 if x5 > (0 : Int) then
 ask (InI (x5 - (1 : Int))) <|
 ask ((0 : Int) ≤ x5 - (1 : Int) ∧ x5 - (1 : Int) < (↑lists0.length : Int)) <|
 if (↑l0.length : Int) < (↑(nth lists0 (x5 - (1 : Int)).toNat).length : Int) then
 ask (InI (x5 - (1 : Int))) <|
 some (.inl (x5 - (1 : Int)))
 else
 ask (InI (x5 - (1 : Int))) <|
 ask ((0 : Int) ≤ x5 - (1 : Int) ∧ x5 - (1 : Int) < (↑lists0.length : Int)) <|
 if (↑l0.length : Int) = (↑(nth lists0 (x5 - (1 : Int)).toNat).length : Int) then
 ask (InI (x5 - (1 : Int))) <|
 ask ((0 : Int) ≤ x5 - (1 : Int) ∧ x5 - (1 : Int) < (↑lists0.length : Int)) <|
 (It (l0) (nth lists0 (x5 - (1 : Int)).toNat)).bind fun r11 =>
 if (r11) = true then
 ask (InI (x5 - (1 : Int))) <|
 some (.inl (x5 - (1 : Int)))
 else
 some (.inr x5)
 else
 some (.inr x5)
 else
 some (.inr x5)
def Kv (lists0 : List (List Int)) (l0 : List Int) : Int → St := fun s => [(5, A.val (Ag s)), (0, A.val ((slr false 1 (slr false 1 Ag)) (lists0))), (1, A.val ((slr false 1 Ag) (l0)))]
def Ry (lists0 : List (List Int)) (l0 : List Int) : Int → Tgt
 | s => ((Ex.exit 0), [5, 0, 1], [(5, A.val (Ag s)), (0, A.val ((slr false 1 (slr false 1 Ag)) (lists0))), (1, A.val ((slr false 1 Ag) (l0)))])
theorem Ab4 {lists0 : List (List Int)} {l0 : List Int} (x5 : Int) (o : Int ⊕ Int) (h : F6 lists0 l0 x5 = some o) : vc Try.prog Sd (Cc [5, 0, 1] (Kv lists0 l0) (Ry lists0 l0) o) (Kv lists0 l0 x5) := by
 unfold F6 at h
 try dsimp only at h
 conv => whnf
 refine Br.od h (fun p1 h => ?_) (fun p1 h => ?_)
 ·conv => whnf
  refine Br.yes ?_
  conv => whnf
  refine Len.map ?_
  conv => whnf
  refine Br.yes ?_
  conv => whnf
  refine Br.yes ?_
  conv => whnf
  refine Br.yes ?_
  conv => whnf
  refine Ask.o h fun p2 h => ?_
  conv => whnf
  refine Br.yes ?_
  conv => whnf
  refine Len.map ?_
  conv => whnf
  refine Ask.o h fun p3 h => ?_
  conv => whnf
  refine Elem.o (by first | omega | (simp [Ap] at *; omega)) ?_
  conv => whnf
  refine Br.yes ?_
  conv => whnf
  refine Br.yes ?_
  conv => whnf
  refine Len.map ?_
  conv => whnf
  refine Br.yes ?_
  conv => whnf
  refine Br.yes ?_
  conv => whnf
  refine Br.od h (fun p4 h => ?_) (fun p4 h => ?_)
  ·conv => whnf
   refine Br.yes ?_
   conv => whnf
   refine Br.yes ?_
   conv => whnf
   refine Br.yes ?_
   conv => whnf
   refine Br.yes ?_
   conv => whnf
   refine Br.yes ?_
   conv => whnf
   refine Br.yes ?_
   conv => whnf
   refine Br.yes ?_
   conv => whnf
   refine Br.yes ?_
   conv => whnf
   refine Br.yes ?_
   conv => whnf
   refine Br.yes ?_
   conv => whnf
   refine Br.yes ?_
   conv => whnf
   refine Br.yes ?_
   conv => whnf
   refine Br.yes ?_
   conv => whnf
   refine Br.yes ?_
   conv => whnf
   refine Ask.o h fun p5 h => ?_
   conv => whnf
   cases h; exact ⟨rfl, rfl⟩
  conv => whnf
  refine Br.no ?_
  conv => whnf
  refine Len.map ?_
  conv => whnf
  refine Br.no ?_
  conv => whnf
  refine Br.no ?_
  conv => whnf
  refine Br.no ?_
  conv => whnf
  refine Ask.o h fun p6 h => ?_
  conv => whnf
  refine Br.no ?_
  conv => whnf
  refine Len.map ?_
  conv => whnf
  refine Ask.o h fun p7 h => ?_
  conv => whnf
  refine Elem.o (by first | omega | (simp [Ap] at *; omega)) ?_
  conv => whnf
  refine Br.no ?_
  conv => whnf
  refine Br.no ?_
  conv => whnf
  refine Len.map ?_
  conv => whnf
  refine Br.no ?_
  conv => whnf
  refine Br.no ?_
  conv => whnf
  refine Br.oe h (fun p8 h => ?_) (fun p8 h => ?_)
  ·conv => whnf
   refine Br.yes ?_
   conv => whnf
   refine Br.yes ?_
   conv => whnf
   refine Br.yes ?_
   conv => whnf
   refine Ask.o h fun p9 h => ?_
   conv => whnf
   refine Br.yes ?_
   conv => whnf
   refine Len.map ?_
   conv => whnf
   refine Ask.o h fun p10 h => ?_
   conv => whnf
   refine Elem.o (by first | omega | (simp [Ap] at *; omega)) ?_
   conv => whnf
   refine Br.yes ?_
   conv => whnf
   refine Br.yes ?_
   conv => whnf
   refine CallQ.o V.bool (by first | rfl | simp only [Aa, V.fz, fzL, V.up, upL, Ab, Ac, Ad, slr, List.cons_append, List.nil_append] | simp [Aa, V.fz, fzL, V.up, upL, Ab, Ac, Ad, slr]) h (fun r h => Ai9 h) (fun r11 h => ?_)
   conv => whnf
   refine Br.no ?_
   conv => whnf
   refine Br.yes ?_
   conv => whnf
   refine Br.yes ?_
   conv => whnf
   refine Br.no ?_
   conv => whnf
   refine Br.yes ?_
   conv => whnf
   refine Br.ob h (fun p12 h => ?_) (fun p12 h => ?_)
   ·conv => whnf
    refine Ask.o h fun p13 h => ?_
    conv => whnf
    cases h; exact ⟨rfl, rfl⟩
   conv => whnf
   cases h; exact ⟨rfl, rfl⟩
  conv => whnf
  refine Br.no ?_
  conv => whnf
  refine Br.no ?_
  conv => whnf
  refine Br.no ?_
  conv => whnf
  refine Br.no ?_
  conv => whnf
  refine Br.no ?_
  conv => whnf
  refine Br.no ?_
  conv => whnf
  refine Br.no ?_
  conv => whnf
  refine Br.no ?_
  conv => whnf
  refine Br.yes ?_
  conv => whnf
  refine Br.no ?_
  conv => whnf
  refine Br.yes ?_
  conv => whnf
  refine Br.no ?_
  conv => whnf
  cases h; exact ⟨rfl, rfl⟩
 conv => whnf
 refine Br.no ?_
 conv => whnf
 refine Br.no ?_
 conv => whnf
 refine Br.no ?_
 conv => whnf
 refine Br.no ?_
 conv => whnf
 refine Br.no ?_
 conv => whnf
 refine Br.no ?_
 conv => whnf
 refine Br.no ?_
 conv => whnf
 refine Br.no ?_
 conv => whnf
 refine Br.no ?_
 conv => whnf
 refine Br.no ?_
 conv => whnf
 refine Br.no ?_
 conv => whnf
 refine Br.no ?_
 conv => whnf
 cases h; exact ⟨rfl, rfl⟩
noncomputable def In (lists0 : (List (List Int))) (l0 : (List Int)) : Option (List (List Int)) :=
 (Am (F6 lists0 l0) (↑lists0.length : Int)).bind fun q14_5 =>
 ask (0 ≤ (0 : Int) ∧ (0 : Int) ≤ q14_5 ∧ q14_5 ≤ ((lists0.length : Nat) : Int)) <|
 ask ((Al (List Int)).length + (List.take (q14_5.toNat - Int.toNat (0 : Int)) (List.drop (Int.toNat (0 : Int)) lists0)).length ≤ LIM) <|
 ask ((Al (List Int) ++ List.take (q14_5.toNat - Int.toNat (0 : Int)) (List.drop (Int.toNat (0 : Int)) lists0)).length + ([l0]).length ≤ LIM) <|
 ask (0 ≤ q14_5 ∧ q14_5 ≤ (↑lists0.length : Int) ∧ (↑lists0.length : Int) ≤ ((lists0.length : Nat) : Int)) <|
 ask ((Al (List Int) ++ List.take (q14_5.toNat - Int.toNat (0 : Int)) (List.drop (Int.toNat (0 : Int)) lists0) ++ [l0]).length + (List.take ((↑lists0.length : Int).toNat - q14_5.toNat) (List.drop q14_5.toNat lists0)).length ≤ LIM) <|
 some (Al (List Int) ++ List.take (q14_5.toNat - Int.toNat (0 : Int)) (List.drop (Int.toNat (0 : Int)) lists0) ++ [l0] ++ List.take ((↑lists0.length : Int).toNat - q14_5.toNat) (List.drop q14_5.toNat lists0))
theorem Aht {lists0 : (List (List Int))} {l0 : (List Int)} {v : (List (List Int))} (h : In lists0 l0 = some v) : Ret Try.prog Qt [(slr false 1 (slr false 1 Ag)) lists0, (slr false 1 Ag) l0] ((slr true 1 (slr false 1 Ag)) v) := by
 refine Av Ahy (Nat.le_of_ble_eq_true rfl) ?_
 unfold In at h
 conv => whnf
 refine Len.map ?_
 conv => whnf
 refine LoopQ.o [5, 0, 1] (Kv lists0 l0) (Ry lists0 l0) h (fun s o h => Ab4 s o h) (by first | rfl | simp [restrict, look, Aa, V.fz, fzL, V.up, upL, Ab, Ac, Ad, slr]) (fun _ => rfl) ?_
 rintro q14_5 h
 try dsimp only at h
 conv => whnf
 refine BslQ.o (slr true 1 Ag) (Al (List Int)) (by exact fun _ => ⟨rfl, rfl⟩) (by first | rfl | simp only [Aa, V.fz, fzL, V.up, upL, Ab, Ac, Ad, slr, List.cons_append, List.nil_append] | simp [Aa, V.fz, fzL, V.up, upL, Ab, Ac, Ad, slr]) ?_
 conv => whnf
 refine SlcQ.o (slr false 1 Ag) h fun h => ?_
 conv => whnf
 refine AppQ.o (m := 1) (slr false 1 Ag) (by exact fun _ => ⟨rfl, rfl⟩) (Al (List Int)) (List.take (q14_5.toNat - Int.toNat (0 : Int)) (List.drop (Int.toNat (0 : Int)) lists0)) (by first | rfl | simp only [Aa, V.fz, fzL, V.up, upL, Ab, Ac, Ad, slr, List.cons_append, List.nil_append] | simp [Aa, V.fz, fzL, V.up, upL, Ab, Ac, Ad, slr]) (by first | rfl | simp only [Aa, V.fz, fzL, V.up, upL, Ab, Ac, Ad, slr, List.cons_append, List.nil_append] | simp [Aa, V.fz, fzL, V.up, upL, Ab, Ac, Ad, slr]) h fun h => ?_
 conv => whnf
 refine BslQ.o (slr false 1 Ag) [l0] (by exact fun _ => ⟨rfl, rfl⟩) (by first | rfl | simp only [Aa, V.fz, fzL, V.up, upL, Ab, Ac, Ad, slr, List.cons_append, List.nil_append] | simp [Aa, V.fz, fzL, V.up, upL, Ab, Ac, Ad, slr]) ?_
 conv => whnf
 refine NoOwn.o (fun _ => rfl) ?_
 conv => whnf
 refine AppQ.o (m := 1) (slr false 1 Ag) (by exact fun _ => ⟨rfl, rfl⟩) (Al (List Int) ++ List.take (q14_5.toNat - Int.toNat (0 : Int)) (List.drop (Int.toNat (0 : Int)) lists0)) ([l0]) (by first | rfl | simp only [Aa, V.fz, fzL, V.up, upL, Ab, Ac, Ad, slr, List.cons_append, List.nil_append] | simp [Aa, V.fz, fzL, V.up, upL, Ab, Ac, Ad, slr]) (by first | rfl | simp only [Aa, V.fz, fzL, V.up, upL, Ab, Ac, Ad, slr, List.cons_append, List.nil_append] | simp [Aa, V.fz, fzL, V.up, upL, Ab, Ac, Ad, slr]) h fun h => ?_
 conv => whnf
 refine Len.map ?_
 conv => whnf
 refine SlcQ.o (slr false 1 Ag) h fun h => ?_
 conv => whnf
 refine AppQ.o (m := 1) (slr false 1 Ag) (by exact fun _ => ⟨rfl, rfl⟩) (Al (List Int) ++ List.take (q14_5.toNat - Int.toNat (0 : Int)) (List.drop (Int.toNat (0 : Int)) lists0) ++ [l0]) (List.take ((↑lists0.length : Int).toNat - q14_5.toNat) (List.drop q14_5.toNat lists0)) (by first | rfl | simp only [Aa, V.fz, fzL, V.up, upL, Ab, Ac, Ad, slr, List.cons_append, List.nil_append] | simp [Aa, V.fz, fzL, V.up, upL, Ab, Ac, Ad, slr]) (by first | rfl | simp only [Aa, V.fz, fzL, V.up, upL, Ab, Ac, Ad, slr, List.cons_append, List.nil_append] | simp [Aa, V.fz, fzL, V.up, upL, Ab, Ac, Ad, slr]) h fun h => ?_
 conv => whnf
 cases h; exact (by first | rfl | simp only [Ah, Aa, V.fz, fzL, V.up, upL, Ab, Ac, Ad, slr] | simp [Ah, Aa, V.fz, fzL, V.up, upL, Ab, Ac, Ad, slr])
end Go.Proofs.Ytiakjbigaaanhaa.Ax
