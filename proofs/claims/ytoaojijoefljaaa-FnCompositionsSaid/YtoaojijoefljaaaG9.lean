/-
 What the functions compute, as functions on plain data, and that the program does compute it; written by program.
-/
import Derived.Test.YtoaojijoefljaaaCode
import Derived.Test.YtoaojijoefljaaaG1
import Derived.Test.YtoaojijoefljaaaG3
import Derived.Test.YtoaojijoefljaaaG4
import Derived.Test.YtoaojijoefljaaaG8
namespace Go.Proofs.Ytoaojijoefljaaa.Ax
open Go
set_option maxRecDepth 100000
set_option maxHeartbeats 4000000
noncomputable def Dr (r4 : Int) (_x6 : Int) (_x5 : SAlgebra) : (Int × SOp × Sl1Cur) → Option ((Int × SOp × Sl1Cur) ⊕ (SOp × Sl1Cur)) := fun (x8, x7, x132') =>
 if x8 > (0 : Int) then
 (Ap (x132') (r4)).bind fun (r16, u17) =>
 ask ((x7.Table).length + ([r16]).length ≤ LIM) <|
 ask (InI (x8 - (1 : Int))) <|
 some (.inl (x8 - (1 : Int), { Arity := x7.Arity, Table := x7.Table ++ [r16] }, u17))
 else
 some (.inr (x7, x132'))
def Hh (r4 : Int) (x6 : Int) (x5 : SAlgebra) : (Int × SOp × Sl1Cur) → St := fun s => [(8, A.val (Ae s.1)), (7, A.val ((rP true (Ai true)) s.2.1)), (6, A.val (Ae (x6))), (5, A.val ((rP true (Al true)) (x5))), (4, A.val (Ae (r4))), (2, A.val ((rP true (Al true)) ({ Size := (0 : Int), Ops := Ao SOp }))), (0, A.ref 132 []), (132, A.val ((rP true (Ak false)) s.2.2))]
def K9 (r4 : Int) (x6 : Int) (x5 : SAlgebra) : (SOp × Sl1Cur) → Tgt
 | s => ((Ex.exit 2), [7, 6, 5, 4, 2, 0, 132], [(7, A.val ((rP true (Ai true)) s.1)), (6, A.val (Ae (x6))), (5, A.val ((rP true (Al true)) (x5))), (4, A.val (Ae (r4))), (2, A.val ((rP true (Al true)) ({ Size := (0 : Int), Ops := Ao SOp }))), (0, A.ref 132 []), (132, A.val ((rP true (Ak false)) s.2))])
theorem Tz {r4 : Int} {x6 : Int} {x5 : SAlgebra} (s : (Int × SOp × Sl1Cur)) (o : (Int × SOp × Sl1Cur) ⊕ (SOp × Sl1Cur)) (h : Dr r4 x6 x5 s = some o) : vc Try.prog K2 (Dy [8, 7, 6, 5, 4, 2, 0, 132] (Hh r4 x6 x5) (K9 r4 x6 x5) o) (Hh r4 x6 x5 s) := by
 obtain ⟨x8, x7, x132'⟩ := s
 unfold Dr at h
 try dsimp only at h
 conv => whnf
 refine Br.od h (fun p15 h => ?_) (fun p15 h => ?_)
 ·conv => whnf
  refine Cells.lit rfl rfl ?_
  conv => whnf
  refine LendP.io Ae (rP true (Ak false)) (by rfl) (fun _ => rfl) (fun _ => ⟨rfl, rfl⟩) (fun _ => rfl) h (fun r h => Aw h) (fun r16 u17 h => ?_)
  conv => whnf
  refine BslQ.o Ae [r16] (by exact fun _ => ⟨rfl, rfl⟩) (by rfl) ?_
  conv => whnf
  refine NoOwn.o (fun _ => rfl) ?_
  conv => whnf
  refine Kid.lit rfl rfl ?_
  conv => whnf
  refine Kid.lit rfl rfl ?_
  conv => whnf
  refine SetKids.lit rfl ?_
  conv => whnf
  refine AppQ.o (m := 1) Ae (by exact fun _ => ⟨rfl, rfl⟩) (x7.Table) ([r16]) (by rfl) (by rfl) h fun h => ?_
  conv => whnf
  refine SetKids.lit rfl ?_
  conv => whnf
  refine Ask.o h fun p18 h => ?_
  conv => whnf
  cases h; exact ⟨rfl, rfl⟩
 conv => whnf
 cases h; exact ⟨rfl, rfl⟩
noncomputable def Dg (r4 : Int) : (Int × SAlgebra × Sl1Cur) → Option ((Int × SAlgebra × Sl1Cur) ⊕ (SAlgebra × Sl1Cur)) := fun (x6, x5, x132) =>
 if x6 > (0 : Int) then
 (Ay (x132) ([(0 : Int), (1 : Int), (2 : Int), (2 : Int), (3 : Int)])).bind fun (r9, u10) =>
 ((if r4 = (4 : Int) then
 if r9 = (3 : Int) then
 some ({ Arity := (2 : Int), Table := Ao Int })
 else
 some ({ Arity := r9, Table := Ao Int })
 else
 some ({ Arity := r9, Table := Ao Int }) : Option SOp)).bind fun q13_7 =>
 (Cj (r4) (q13_7.Arity)).bind fun r14 =>
 (Ar (Dr r4 x6 x5) (r14, q13_7, u10)).bind fun (q19_7, q19_132) =>
 ask ((x5.Ops).length + ([q19_7]).length ≤ LIM) <|
 ask (InI (x6 - (1 : Int))) <|
 some (.inl (x6 - (1 : Int), { Size := x5.Size, Ops := x5.Ops ++ [q19_7] }, q19_132))
 else
 some (.inr (x5, x132))
def G7 (r4 : Int) : (Int × SAlgebra × Sl1Cur) → St := fun s => [(6, A.val (Ae s.1)), (5, A.val ((rP true (Al true)) s.2.1)), (4, A.val (Ae (r4))), (2, A.val ((rP true (Al true)) ({ Size := (0 : Int), Ops := Ao SOp }))), (0, A.ref 132 []), (132, A.val ((rP true (Ak false)) s.2.2))]
def K6 (r4 : Int) : (SAlgebra × Sl1Cur) → Tgt
 | s => ((Ex.exit 0), [5, 4, 2, 0, 132], [(5, A.val ((rP true (Al true)) s.1)), (4, A.val (Ae (r4))), (2, A.val ((rP true (Al true)) ({ Size := (0 : Int), Ops := Ao SOp }))), (0, A.ref 132 []), (132, A.val ((rP true (Ak false)) s.2))])
theorem Ub {r4 : Int} (s : (Int × SAlgebra × Sl1Cur)) (o : (Int × SAlgebra × Sl1Cur) ⊕ (SAlgebra × Sl1Cur)) (h : Dg r4 s = some o) : vc Try.prog Lc (Dy [6, 5, 4, 2, 0, 132] (G7 r4) (K6 r4) o) (G7 r4 s) := by
 obtain ⟨x6, x5, x132⟩ := s
 unfold Dg at h
 try dsimp only at h
 conv => whnf
 refine Br.od h (fun p8 h => ?_) (fun p8 h => ?_)
 ·conv => whnf
  refine BslQ.o Ae ([(0 : Int), (1 : Int), (2 : Int), (2 : Int), (3 : Int)]) (by exact fun _ => ⟨rfl, rfl⟩) (by rfl) ?_
  conv => whnf
  refine CallQ.io Ae (rP true (Ak false)) (by first | rfl | (simp only [Aa, Au, V.fz, fzL, Ab, Ac, slr]; done) | simp [Aa, Au, V.fz, fzL, V.up, upL, Ab, Ac, Ad, slr]) rfl (fun _ => rfl) (fun _ => ⟨rfl, rfl⟩) rfl h (fun r h => A8 h) (fun r9 u10 h => ?_)
  conv => whnf
  refine SetKids.lit rfl ?_
  conv => whnf
  refine CutQ.o (fun t : SOp => match t with | s => (Ex.normal, [7, 6, 5, 4, 2, 0, 132], [(7, A.val ((rP true (Ai true)) s)), (6, A.val (Ae (x6))), (5, A.val ((rP true (Al true)) (x5))), (4, A.val (Ae (r4))), (2, A.val ((rP true (Al true)) ({ Size := (0 : Int), Ops := Ao SOp }))), (0, A.ref 132 []), (132, A.val ((rP true (Ak false)) (u10)))])) h ?_ ?_
  ·intro t h
   conv => whnf
   refine Br.oe h (fun p11 h => ?_) (fun p11 h => ?_)
   ·conv => whnf
    refine Br.yes ?_
    conv => whnf
    refine Cells.lit rfl rfl ?_
    conv => whnf
    refine Br.yes ?_
    conv => whnf
    refine Br.yes ?_
    conv => whnf
    refine Br.oe h (fun p12 h => ?_) (fun p12 h => ?_)
    ·conv => whnf
     refine SetKids.lit rfl ?_
     conv => whnf
     cases h; exact ⟨rfl, rfl⟩
    conv => whnf
    cases h; exact ⟨rfl, rfl⟩
   conv => whnf
   refine Br.no ?_
   conv => whnf
   refine Br.no ?_
   conv => whnf
   refine Br.no ?_
   conv => whnf
   refine Br.no ?_
   conv => whnf
   cases h; exact ⟨rfl, rfl⟩
  rintro q13_7 h
  try dsimp only at h
  conv => whnf
  refine Cells.lit rfl rfl ?_
  conv => whnf
  refine CallQ.o Ae (by rfl) h (fun r h => Gm h) (fun r14 h => ?_)
  conv => whnf
  refine LoopQ.o [8, 7, 6, 5, 4, 2, 0, 132] (Hh r4 x6 x5) (K9 r4 x6 x5) h (fun s o h => Tz s o h) (by rfl) (fun _ => rfl) ?_
  rintro ⟨q19_7, q19_132⟩ h
  try dsimp only at h
  conv => whnf
  refine Cells.lit rfl rfl ?_
  conv => whnf
  refine Cells.lit rfl rfl ?_
  conv => whnf
  refine BslQ.o (Ai true) [q19_7] (by exact fun _ => ⟨rfl, rfl⟩) (by rfl) ?_
  conv => whnf
  refine NoOwn.own rfl ?_
  conv => whnf
  refine Kid.lit rfl rfl ?_
  conv => whnf
  refine Kid.lit rfl rfl ?_
  conv => whnf
  refine SetKids.lit rfl ?_
  conv => whnf
  refine AppQ.o (m := 2) (Ai true) (by exact fun _ => ⟨rfl, rfl⟩) (x5.Ops) ([q19_7]) (by rfl) (by rfl) h fun h => ?_
  conv => whnf
  refine SetKids.lit rfl ?_
  conv => whnf
  refine Ask.o h fun p20 h => ?_
  conv => whnf
  cases h; exact ⟨rfl, rfl⟩
 conv => whnf
 cases h; exact ⟨rfl, rfl⟩
noncomputable def Dk (r4 : Int) : (SAlgebra × Sl1Cur) → Option ((SAlgebra × Sl1Cur) ⊕ (SAlgebra × Sl1Cur)) := fun (x5, x132) =>
 (Ap (x132) ((2 : Int))).bind fun (r52, u53) =>
 ask (InI ((4 : Int) + r52)) <|
 if (↑x5.Ops.length : Int) < (4 : Int) + r52 then
 ask ((0 : Int) ≤ r4 ∧ r4 ≤ (↑LIM : Int)) <|
 ask ((x5.Ops).length + (([{ Arity := (1 : Int), Table := List.replicate r4.toNat (0 : Int) }] : List SOp)).length ≤ LIM) <|
 some (.inl ({ Size := x5.Size, Ops := x5.Ops ++ [{ Arity := (1 : Int), Table := List.replicate r4.toNat (0 : Int) }] }, u53))
 else
 some (.inr (x5, u53))
def Hl (r4 : Int) : (SAlgebra × Sl1Cur) → St := fun s => [(5, A.val ((rP true (Al true)) s.1)), (4, A.val (Ae (r4))), (2, A.val ((rP true (Al true)) ({ Size := (0 : Int), Ops := Ao SOp }))), (0, A.ref 132 []), (132, A.val ((rP true (Ak false)) s.2))]
def Li (_r4 : Int) : (SAlgebra × Sl1Cur) → Tgt
 | s => ((Ex.exit 5), [5, 2, 132], [(5, A.val ((rP true (Al true)) s.1)), (2, A.val ((rP true (Al true)) ({ Size := (0 : Int), Ops := Ao SOp }))), (132, A.val ((rP true (Ak false)) s.2))])
theorem Ty {r4 : Int} (s : (SAlgebra × Sl1Cur)) (o : (SAlgebra × Sl1Cur) ⊕ (SAlgebra × Sl1Cur)) (h : Dk r4 s = some o) : vc Try.prog Lg (Dy [5, 4, 2, 0, 132] (Hl r4) (Li r4) o) (Hl r4 s) := by
 obtain ⟨x5, x132⟩ := s
 unfold Dk at h
 try dsimp only at h
 conv => whnf
 refine Cells.lit rfl rfl ?_
 conv => whnf
 refine Kid.lit rfl rfl ?_
 conv => whnf
 refine Len.map ?_
 conv => whnf
 refine LendP.io Ae (rP true (Ak false)) (by rfl) (fun _ => rfl) (fun _ => ⟨rfl, rfl⟩) (fun _ => rfl) h (fun r h => Aw h) (fun r52 u53 h => ?_)
 conv => whnf
 refine Ask.o h fun p54 h => ?_
 conv => whnf
 refine Br.od h (fun p55 h => ?_) (fun p55 h => ?_)
 ·conv => whnf
  refine Cells.lit rfl rfl ?_
  conv => whnf
  refine SameQ.mk ⟨rfl, ?_⟩
  conv => whnf
  refine Cells.lit rfl rfl ?_
  conv => whnf
  refine SameQ.mk ⟨rfl, ?_⟩
  conv => whnf
  refine SameQ.mk ⟨rfl, ?_⟩
  conv => whnf
  refine Ask.o h fun p56 h => ?_
  conv => whnf
  refine MkQ.o Ae ((0 : Int)) rfl ?_
  conv => whnf
  refine SameQ.mk ⟨rfl, ?_⟩
  conv => whnf
  refine Cells.lit rfl rfl ?_
  conv => whnf
  refine SameQ.mk ⟨rfl, ?_⟩
  conv => whnf
  refine SameQ.mk ⟨rfl, ?_⟩
  conv => whnf
  refine Cells.lit rfl rfl ?_
  conv => whnf
  refine SameQ.mk ⟨rfl, ?_⟩
  conv => whnf
  refine BslQ.o (Ai true) ([{ Arity := (1 : Int), Table := List.replicate r4.toNat (0 : Int) }]) (by exact fun _ => ⟨rfl, rfl⟩) (by rfl) ?_
  conv => whnf
  refine SameQ.mk ⟨rfl, ?_⟩
  conv => whnf
  refine Cells.lit rfl rfl ?_
  conv => whnf
  refine SameQ.mk ⟨rfl, ?_⟩
  conv => whnf
  refine NoOwn.own rfl ?_
  conv => whnf
  refine Kid.lit rfl rfl ?_
  conv => whnf
  refine Kid.lit rfl rfl ?_
  conv => whnf
  refine SetKids.lit rfl ?_
  conv => whnf
  refine AppQ.o (m := 2) (Ai true) (by exact fun _ => ⟨rfl, rfl⟩) (x5.Ops) ([{ Arity := (1 : Int), Table := List.replicate r4.toNat (0 : Int) }]) (by rfl) (by rfl) h fun h => ?_
  conv => whnf
  refine SetKids.lit rfl ?_
  conv => whnf
  cases h; exact ⟨rfl, rfl⟩
 conv => whnf
 cases h; exact ⟨rfl, rfl⟩
noncomputable def Et (c0 : Sl1Cur) : Option (SAlgebra × Sl1Cur) :=
 (Do (c0) ((4 : Int))).bind fun (r1, u2) =>
 if (r1) = true then
 (Ay (u2) ([(2 : Int), (2 : Int), (3 : Int), (3 : Int), (4 : Int)])).bind fun (r4, u5) =>
 (Ay (u5) ([(1 : Int), (1 : Int), (2 : Int)])).bind fun (r6, u7) =>
 (Ar (Dg r4) (r6, { Size := r4, Ops := Ao SOp }, u7)).bind fun (q21_5, q21_132) =>
 (Ap (q21_132) ((16 : Int))).bind fun (r22, u23) =>
 if r22 = (0 : Int) then
 ask (InI (r4 + (1 : Int))) <|
 (Ay (u23) ([(0 : Int), (9 : Int), r4 + (1 : Int)])).bind fun (r26, u27) =>
 some ({ Size := r26, Ops := q21_5.Ops }, u27)
 else
 if r22 = (1 : Int) then
 ask ((0 : Int) ≤ (0 : Int) ∧ (0 : Int) < (↑q21_5.Ops.length : Int)) <|
 ask (((nth q21_5.Ops (Int.toNat (0 : Int))).Table).length + ([(0 : Int)]).length ≤ LIM) <|
 some ({ Size := q21_5.Size, Ops := q21_5.Ops.set (Int.toNat (0 : Int)) { Arity := (nth q21_5.Ops (Int.toNat (0 : Int))).Arity, Table := (nth q21_5.Ops (Int.toNat (0 : Int))).Table ++ [(0 : Int)] } }, u23)
 else
 if r22 = (2 : Int) then
 ask ((0 : Int) ≤ (0 : Int) ∧ (0 : Int) < (↑q21_5.Ops.length : Int)) <|
 (Ap (u23) ((↑(nth q21_5.Ops (Int.toNat (0 : Int))).Table.length : Int))).bind fun (r32, u33) =>
 (Ay (u33) ([(-1 : Int), r4])).bind fun (r34, u35) =>
 ask ((0 : Int) ≤ r32 ∧ r32 < (↑(nth q21_5.Ops (Int.toNat (0 : Int))).Table.length : Int)) <|
 some ({ Size := q21_5.Size, Ops := q21_5.Ops.set (Int.toNat (0 : Int)) { Arity := (nth q21_5.Ops (Int.toNat (0 : Int))).Arity, Table := (nth q21_5.Ops (Int.toNat (0 : Int))).Table.set r32.toNat r34 } }, u35)
 else
 if r22 = (3 : Int) then
 (Ay (u23) ([(-1 : Int), (4 : Int)])).bind fun (r48, u49) =>
 ask ((0 : Int) ≤ (0 : Int) ∧ (0 : Int) < (↑q21_5.Ops.length : Int)) <|
 some ({ Size := q21_5.Size, Ops := q21_5.Ops.set (Int.toNat (0 : Int)) { Arity := r48, Table := (nth q21_5.Ops (Int.toNat (0 : Int))).Table } }, u49)
 else
 if r22 = (4 : Int) then
 (Ar (Dk r4) (q21_5, u23)).bind fun (q57_5, q57_132) =>
 some (q57_5, q57_132)
 else
 some (q21_5, u23)
 else
 (Ap (u2) ((17 : Int))).bind fun (r58, u59) =>
 (Jb (r58)).bind fun r60 =>
 some (r60, u59)
theorem Wp {c0 : Sl1Cur} {v : (SAlgebra × Sl1Cur)} (h : Et c0 = some v) : Sm Try.prog Ja [(rP true (Ak false)) c0] ((Al true) v.1) 0 ((rP true (Ak false)) v.2) := by
 refine Oz W8 (Nat.le_of_ble_eq_true rfl) ?_
 unfold Et at h
 conv => whnf
 refine CallQ.io V.bool (rP true (Ak false)) (by rfl) rfl (fun _ => rfl) (fun _ => ⟨rfl, rfl⟩) rfl h (fun r h => Jr h) (fun r1 u2 h => ?_)
 conv => whnf
 refine Br.flip ?_
 conv => whnf
 refine Br.ob h (fun p3 h => ?_) (fun p3 h => ?_)
 ·conv => whnf
  refine BslQ.o Ae ([(2 : Int), (2 : Int), (3 : Int), (3 : Int), (4 : Int)]) (by exact fun _ => ⟨rfl, rfl⟩) (by rfl) ?_
  conv => whnf
  refine CallQ.io Ae (rP true (Ak false)) (by first | rfl | (simp only [Aa, Au, V.fz, fzL, Ab, Ac, slr]; done) | simp [Aa, Au, V.fz, fzL, V.up, upL, Ab, Ac, Ad, slr]) rfl (fun _ => rfl) (fun _ => ⟨rfl, rfl⟩) rfl h (fun r h => A8 h) (fun r4 u5 h => ?_)
  conv => whnf
  refine SetKids.lit rfl ?_
  conv => whnf
  refine BslQ.o Ae ([(1 : Int), (1 : Int), (2 : Int)]) (by exact fun _ => ⟨rfl, rfl⟩) (by rfl) ?_
  conv => whnf
  refine CallQ.io Ae (rP true (Ak false)) (by first | rfl | (simp only [Aa, Au, V.fz, fzL, Ab, Ac, slr]; done) | simp [Aa, Au, V.fz, fzL, V.up, upL, Ab, Ac, Ad, slr]) rfl (fun _ => rfl) (fun _ => ⟨rfl, rfl⟩) rfl h (fun r h => A8 h) (fun r6 u7 h => ?_)
  conv => whnf
  refine LoopQ.o [6, 5, 4, 2, 0, 132] (G7 r4) (K6 r4) h (fun s o h => Ub s o h) (by rfl) (fun _ => rfl) ?_
  rintro ⟨q21_5, q21_132⟩ h
  try dsimp only at h
  conv => whnf
  refine CallQ.io Ae (rP true (Ak false)) (by rfl) rfl (fun _ => rfl) (fun _ => ⟨rfl, rfl⟩) rfl h (fun r h => Aw h) (fun r22 u23 h => ?_)
  conv => whnf
  refine Br.oe h (fun p24 h => ?_) (fun p24 h => ?_)
  ·conv => whnf
   refine Ask.o h fun p25 h => ?_
   conv => whnf
   refine BslQ.o Ae ([(0 : Int), (9 : Int), r4 + (1 : Int)]) (by exact fun _ => ⟨rfl, rfl⟩) (by rfl) ?_
   conv => whnf
   refine CallQ.io Ae (rP true (Ak false)) (by first | rfl | (simp only [Aa, Au, V.fz, fzL, Ab, Ac, slr]; done) | simp [Aa, Au, V.fz, fzL, V.up, upL, Ab, Ac, Ad, slr]) rfl (fun _ => rfl) (fun _ => ⟨rfl, rfl⟩) rfl h (fun r h => A8 h) (fun r26 u27 h => ?_)
   conv => whnf
   refine SetKids.lit rfl ?_
   conv => whnf
   refine Cells.lit rfl rfl ?_
   conv => whnf
   refine SetKids.lit rfl ?_
   conv => whnf
   cases h; exact ⟨(by rfl), (by rfl)⟩
  conv => whnf
  refine Br.oe h (fun p28 h => ?_) (fun p28 h => ?_)
  ·conv => whnf
   refine Cells.lit rfl rfl ?_
   conv => whnf
   refine Cells.lit rfl rfl ?_
   conv => whnf
   refine Kid.lit rfl rfl ?_
   conv => whnf
   refine Len.map ?_
   conv => whnf
   refine Ask.o h fun p29 h => ?_
   conv => whnf
   refine Kid.lit rfl rfl ?_
   conv => whnf
   refine Cells.wide (by exact fun _ => ⟨rfl, rfl⟩) (by first | omega | (simp [Bh] at * <;> omega)) (by decide) ?_
   conv => whnf
   refine SameQ.mk ⟨rfl, ?_⟩
   conv => whnf
   refine Cells.lit rfl rfl ?_
   conv => whnf
   refine SameQ.mk ⟨rfl, ?_⟩
   conv => whnf
   refine SameQ.mk ⟨rfl, ?_⟩
   conv => whnf
   refine Cells.lit rfl rfl ?_
   conv => whnf
   refine SameQ.mk ⟨rfl, ?_⟩
   conv => whnf
   refine Kid.lit rfl rfl ?_
   conv => whnf
   refine Len.map ?_
   conv => whnf
   refine Ask.mk p29 ?_
   conv => whnf
   refine SameQ.mk ⟨rfl, ?_⟩
   conv => whnf
   refine SameQ.mk ⟨rfl, ?_⟩
   conv => whnf
   refine Kid.lit rfl rfl ?_
   conv => whnf
   refine Cells.wide (by exact fun _ => ⟨rfl, rfl⟩) (by first | omega | (simp [Bh] at * <;> omega)) (by decide) ?_
   conv => whnf
   refine SameQ.mk ⟨rfl, ?_⟩
   conv => whnf
   refine BslQ.o Ae ([(0 : Int)]) (by exact fun _ => ⟨rfl, rfl⟩) (by rfl) ?_
   conv => whnf
   refine SameQ.mk ⟨rfl, ?_⟩
   conv => whnf
   refine Cells.lit rfl rfl ?_
   conv => whnf
   refine SameQ.mk ⟨rfl, ?_⟩
   conv => whnf
   refine SameQ.mk ⟨rfl, ?_⟩
   conv => whnf
   refine Cells.lit rfl rfl ?_
   conv => whnf
   refine SameQ.mk ⟨rfl, ?_⟩
   conv => whnf
   refine Kid.lit rfl rfl ?_
   conv => whnf
   refine Len.map ?_
   conv => whnf
   refine Ask.mk p29 ?_
   conv => whnf
   refine SameQ.mk ⟨rfl, ?_⟩
   conv => whnf
   refine SameQ.mk ⟨rfl, ?_⟩
   conv => whnf
   refine Kid.lit rfl rfl ?_
   conv => whnf
   refine Cells.wide (by exact fun _ => ⟨rfl, rfl⟩) (by first | omega | (simp [Bh] at * <;> omega)) (by decide) ?_
   conv => whnf
   refine SameQ.mk ⟨rfl, ?_⟩
   conv => whnf
   refine NoOwn.o (fun _ => rfl) ?_
   conv => whnf
   refine Kid.lit rfl rfl ?_
   conv => whnf
   refine Kid.wide (by exact fun _ => ⟨rfl, rfl⟩) (by first | omega | (simp [Bh] at * <;> omega)) (by rfl) ?_
   conv => whnf
   refine Kid.lit rfl rfl ?_
   conv => whnf
   refine Kid.wide (by exact fun _ => ⟨rfl, rfl⟩) (by first | omega | (simp [Bh] at * <;> omega)) (by rfl) ?_
   conv => whnf
   refine SetKids.mkholeW (by exact fun _ => ⟨rfl, rfl⟩) _ (by first | omega | (simp [Bh] at * <;> omega)) (by rfl) (by decide) ?_
   conv => whnf
   refine SetKids.lit rfl ?_
   conv => whnf
   refine AppQ.o (m := 1) Ae (by exact fun _ => ⟨rfl, rfl⟩) ((nth q21_5.Ops (Int.toNat (0 : Int))).Table) ([(0 : Int)]) (by rfl) (by rfl) h fun h => ?_
   conv => whnf
   refine SameQ.mk ⟨rfl, ?_⟩
   conv => whnf
   refine Cells.lit rfl rfl ?_
   conv => whnf
   refine SameQ.mk ⟨rfl, ?_⟩
   conv => whnf
   refine Kid.lit rfl rfl ?_
   conv => whnf
   refine Len.holeW ?_
   conv => whnf
   refine Ask.mk p29 ?_
   conv => whnf
   refine Kid.lit rfl rfl ?_
   conv => whnf
   refine SetKids.fillW (by exact fun _ => ⟨rfl, rfl⟩) ({ Arity := (nth q21_5.Ops (Int.toNat (0 : Int))).Arity, Table := (nth q21_5.Ops (Int.toNat (0 : Int))).Table ++ [(0 : Int)] }) (by first | omega | (simp [Bh] at * <;> omega)) (by rfl) (by rfl) (by decide) ?_
   conv => whnf
   refine Kid.lit rfl rfl ?_
   conv => whnf
   refine SetKids.lit rfl ?_
   conv => whnf
   refine Cells.lit rfl rfl ?_
   conv => whnf
   refine SetKids.lit rfl ?_
   conv => whnf
   cases h; exact ⟨(by rfl), (by rfl)⟩
  conv => whnf
  refine Br.oe h (fun p30 h => ?_) (fun p30 h => ?_)
  ·conv => whnf
   refine Cells.lit rfl rfl ?_
   conv => whnf
   refine Kid.lit rfl rfl ?_
   conv => whnf
   refine Len.map ?_
   conv => whnf
   refine Ask.o h fun p31 h => ?_
   conv => whnf
   refine Kid.lit rfl rfl ?_
   conv => whnf
   refine Cells.wide (by exact fun _ => ⟨rfl, rfl⟩) (by first | omega | (simp [Bh] at * <;> omega)) (by decide) ?_
   conv => whnf
   refine Cells.lit rfl rfl ?_
   conv => whnf
   refine Kid.lit rfl rfl ?_
   conv => whnf
   refine Len.map ?_
   conv => whnf
   refine Ask.mk p31 ?_
   conv => whnf
   refine Kid.lit rfl rfl ?_
   conv => whnf
   refine Cells.wide (by exact fun _ => ⟨rfl, rfl⟩) (by first | omega | (simp [Bh] at * <;> omega)) (by decide) ?_
   conv => whnf
   refine Two.mk ⟨?_, ?_⟩
   ·conv => whnf
    refine SameQ.mk ⟨rfl, ?_⟩
    conv => whnf
    refine Cells.lit rfl rfl ?_
    conv => whnf
    refine SameQ.mk ⟨rfl, ?_⟩
    conv => whnf
    refine Kid.lit rfl rfl ?_
    conv => whnf
    refine Len.map ?_
    conv => whnf
    refine Ask.mk p31 ?_
    conv => whnf
    refine SameQ.mk ⟨rfl, ?_⟩
    conv => whnf
    refine SameQ.mk ⟨rfl, ?_⟩
    conv => whnf
    refine Kid.lit rfl rfl ?_
    conv => whnf
    refine Cells.wide (by exact fun _ => ⟨rfl, rfl⟩) (by first | omega | (simp [Bh] at * <;> omega)) (by decide) ?_
    conv => whnf
    refine SameQ.mk ⟨rfl, ?_⟩
    conv => whnf
    refine SameQ.mk ⟨rfl, ?_⟩
    conv => whnf
    refine SameQ.mk ⟨rfl, ?_⟩
    conv => whnf
    refine Cells.lit rfl rfl ?_
    conv => whnf
    refine SameQ.mk ⟨rfl, ?_⟩
    conv => whnf
    refine Kid.lit rfl rfl ?_
    conv => whnf
    refine Len.map ?_
    conv => whnf
    refine Ask.mk p31 ?_
    conv => whnf
    refine SameQ.mk ⟨rfl, ?_⟩
    conv => whnf
    refine SameQ.mk ⟨rfl, ?_⟩
    conv => whnf
    refine Kid.lit rfl rfl ?_
    conv => whnf
    refine Cells.wide (by exact fun _ => ⟨rfl, rfl⟩) (by first | omega | (simp [Bh] at * <;> omega)) (by decide) ?_
    conv => whnf
    refine SameQ.mk ⟨rfl, ?_⟩
    conv => whnf
    refine SameQ.mk ⟨rfl, ?_⟩
    conv => whnf
    refine SameQ.mk ⟨rfl, ?_⟩
    conv => whnf
    refine Kid.lit rfl rfl ?_
    conv => whnf
    refine Kid.wide (by exact fun _ => ⟨rfl, rfl⟩) (by first | omega | (simp [Bh] at * <;> omega)) (by rfl) ?_
    conv => whnf
    refine Len.map ?_
    conv => whnf
    refine Two.mk ⟨?_, ?_⟩
    ·conv => whnf
     refine SameQ.mk ⟨rfl, ?_⟩
     conv => whnf
     refine Cells.lit rfl rfl ?_
     conv => whnf
     refine SameQ.mk ⟨rfl, ?_⟩
     conv => whnf
     refine Kid.lit rfl rfl ?_
     conv => whnf
     refine Len.map ?_
     conv => whnf
     refine Ask.mk p31 ?_
     conv => whnf
     refine SameQ.mk ⟨rfl, ?_⟩
     conv => whnf
     refine SameQ.mk ⟨rfl, ?_⟩
     conv => whnf
     refine Kid.lit rfl rfl ?_
     conv => whnf
     refine Cells.wide (by exact fun _ => ⟨rfl, rfl⟩) (by first | omega | (simp [Bh] at * <;> omega)) (by decide) ?_
     conv => whnf
     refine SameQ.mk ⟨rfl, ?_⟩
     conv => whnf
     refine SameQ.mk ⟨rfl, ?_⟩
     conv => whnf
     refine SameQ.mk ⟨rfl, ?_⟩
     conv => whnf
     refine SameQ.mk ⟨rfl, ?_⟩
     conv => whnf
     refine CallQ.io Ae (rP true (Ak false)) (by rfl) rfl (fun _ => rfl) (fun _ => ⟨rfl, rfl⟩) rfl h (fun r h => Aw h) (fun r32 u33 h => ?_)
     conv => whnf
     refine SameQ.mk ⟨rfl, ?_⟩
     conv => whnf
     refine Cells.lit rfl rfl ?_
     conv => whnf
     refine SameQ.mk ⟨rfl, ?_⟩
     conv => whnf
     refine Kid.lit rfl rfl ?_
     conv => whnf
     refine Len.map ?_
     conv => whnf
     refine Ask.mk p31 ?_
     conv => whnf
     refine SameQ.mk ⟨rfl, ?_⟩
     conv => whnf
     refine SameQ.mk ⟨rfl, ?_⟩
     conv => whnf
     refine Kid.lit rfl rfl ?_
     conv => whnf
     refine Cells.wide (by exact fun _ => ⟨rfl, rfl⟩) (by first | omega | (simp [Bh] at * <;> omega)) (by decide) ?_
     conv => whnf
     refine SameQ.mk ⟨rfl, ?_⟩
     conv => whnf
     refine SameQ.mk ⟨rfl, ?_⟩
     conv => whnf
     refine SameQ.mk ⟨rfl, ?_⟩
     conv => whnf
     refine BslQ.o Ae ([(-1 : Int), r4]) (by exact fun _ => ⟨rfl, rfl⟩) (by rfl) ?_
     conv => whnf
     refine SameQ.mk ⟨rfl, ?_⟩
     conv => whnf
     refine Cells.lit rfl rfl ?_
     conv => whnf
     refine SameQ.mk ⟨rfl, ?_⟩
     conv => whnf
     refine Kid.lit rfl rfl ?_
     conv => whnf
     refine Len.map ?_
     conv => whnf
     refine Ask.mk p31 ?_
     conv => whnf
     refine SameQ.mk ⟨rfl, ?_⟩
     conv => whnf
     refine SameQ.mk ⟨rfl, ?_⟩
     conv => whnf
     refine Kid.lit rfl rfl ?_
     conv => whnf
     refine Cells.wide (by exact fun _ => ⟨rfl, rfl⟩) (by first | omega | (simp [Bh] at * <;> omega)) (by decide) ?_
     conv => whnf
     refine SameQ.mk ⟨rfl, ?_⟩
     conv => whnf
     refine SameQ.mk ⟨rfl, ?_⟩
     conv => whnf
     refine CallQ.io Ae (rP true (Ak false)) (by first | rfl | (simp only [Aa, Au, V.fz, fzL, Ab, Ac, slr]; done) | simp [Aa, Au, V.fz, fzL, V.up, upL, Ab, Ac, Ad, slr]) rfl (fun _ => rfl) (fun _ => ⟨rfl, rfl⟩) rfl h (fun r h => A8 h) (fun r34 u35 h => ?_)
     conv => whnf
     refine SameQ.mk ⟨rfl, ?_⟩
     conv => whnf
     refine Cells.lit rfl rfl ?_
     conv => whnf
     refine SameQ.mk ⟨rfl, ?_⟩
     conv => whnf
     refine Kid.lit rfl rfl ?_
     conv => whnf
     refine Len.map ?_
     conv => whnf
     refine Ask.mk p31 ?_
     conv => whnf
     refine SameQ.mk ⟨rfl, ?_⟩
     conv => whnf
     refine SameQ.mk ⟨rfl, ?_⟩
     conv => whnf
     refine Kid.lit rfl rfl ?_
     conv => whnf
     refine Cells.wide (by exact fun _ => ⟨rfl, rfl⟩) (by first | omega | (simp [Bh] at * <;> omega)) (by decide) ?_
     conv => whnf
     refine SameQ.mk ⟨rfl, ?_⟩
     conv => whnf
     refine Kid.lit rfl rfl ?_
     conv => whnf
     refine Kid.wide (by exact fun _ => ⟨rfl, rfl⟩) (by first | omega | (simp [Bh] at * <;> omega)) (by rfl) ?_
     conv => whnf
     refine Len.map ?_
     conv => whnf
     refine Ask.o h fun p36 h => ?_
     conv => whnf
     refine Kid.lit rfl rfl ?_
     conv => whnf
     refine Kid.wide (by exact fun _ => ⟨rfl, rfl⟩) (by first | omega | (simp [Bh] at * <;> omega)) (by rfl) ?_
     conv => whnf
     refine SetKids.one (fun _ => ⟨rfl, rfl⟩) (r34) (by rfl) (by first | omega | (simp [Bh] at * <;> omega)) ?_
     conv => whnf
     refine Kid.lit rfl rfl ?_
     conv => whnf
     refine Kid.wide (by exact fun _ => ⟨rfl, rfl⟩) (by first | omega | (simp [Bh] at * <;> omega)) (by rfl) ?_
     conv => whnf
     refine SetKids.wide (by exact fun _ => ⟨rfl, rfl⟩) ({ Arity := (nth q21_5.Ops (Int.toNat (0 : Int))).Arity, Table := (nth q21_5.Ops (Int.toNat (0 : Int))).Table.set r32.toNat r34 }) (by first | omega | (simp [Bh] at * <;> omega)) (by rfl) (by decide) ?_
     conv => whnf
     refine SetKids.lit rfl ?_
     conv => whnf
     refine Cells.lit rfl rfl ?_
     conv => whnf
     refine SetKids.lit rfl ?_
     conv => whnf
     cases h; exact ⟨(by rfl), (by rfl)⟩
    conv => whnf
    refine SameQ.mk ⟨rfl, ?_⟩
    conv => whnf
    refine Cells.lit rfl rfl ?_
    conv => whnf
    refine SameQ.mk ⟨rfl, ?_⟩
    conv => whnf
    refine Kid.lit rfl rfl ?_
    conv => whnf
    refine Len.map ?_
    conv => whnf
    refine Ask.mk p31 ?_
    conv => whnf
    refine SameQ.mk ⟨rfl, ?_⟩
    conv => whnf
    refine SameQ.mk ⟨rfl, ?_⟩
    conv => whnf
    refine Kid.lit rfl rfl ?_
    conv => whnf
    refine Cells.wide (by exact fun _ => ⟨rfl, rfl⟩) (by first | omega | (simp [Bh] at * <;> omega)) (by decide) ?_
    conv => whnf
    refine SameQ.mk ⟨rfl, ?_⟩
    conv => whnf
    refine SameQ.mk ⟨rfl, ?_⟩
    conv => whnf
    refine SameQ.mk ⟨rfl, ?_⟩
    conv => whnf
    refine SameQ.mk ⟨rfl, ?_⟩
    conv => whnf
    refine BslQ.o Ae ([(-1 : Int), r4]) (by exact fun _ => ⟨rfl, rfl⟩) (by rfl) ?_
    conv => whnf
    refine SameQ.mk ⟨rfl, ?_⟩
    conv => whnf
    refine Cells.lit rfl rfl ?_
    conv => whnf
    refine SameQ.mk ⟨rfl, ?_⟩
    conv => whnf
    refine Kid.lit rfl rfl ?_
    conv => whnf
    refine Len.map ?_
    conv => whnf
    refine Ask.mk p31 ?_
    conv => whnf
    refine SameQ.mk ⟨rfl, ?_⟩
    conv => whnf
    refine SameQ.mk ⟨rfl, ?_⟩
    conv => whnf
    refine Kid.lit rfl rfl ?_
    conv => whnf
    refine Cells.wide (by exact fun _ => ⟨rfl, rfl⟩) (by first | omega | (simp [Bh] at * <;> omega)) (by decide) ?_
    conv => whnf
    refine SameQ.mk ⟨rfl, ?_⟩
    conv => whnf
    refine SameQ.mk ⟨rfl, ?_⟩
    conv => whnf
    refine SameQ.mk ⟨rfl, ?_⟩
    conv => whnf
    refine CallQ.io Ae (rP true (Ak false)) (by rfl) rfl (fun _ => rfl) (fun _ => ⟨rfl, rfl⟩) rfl h (fun r h => Aw h) (fun r37 u38 h => ?_)
    conv => whnf
    refine SameQ.mk ⟨rfl, ?_⟩
    conv => whnf
    refine Cells.lit rfl rfl ?_
    conv => whnf
    refine SameQ.mk ⟨rfl, ?_⟩
    conv => whnf
    refine Kid.lit rfl rfl ?_
    conv => whnf
    refine Len.map ?_
    conv => whnf
    refine Ask.mk p31 ?_
    conv => whnf
    refine SameQ.mk ⟨rfl, ?_⟩
    conv => whnf
    refine SameQ.mk ⟨rfl, ?_⟩
    conv => whnf
    refine Kid.lit rfl rfl ?_
    conv => whnf
    refine Cells.wide (by exact fun _ => ⟨rfl, rfl⟩) (by first | omega | (simp [Bh] at * <;> omega)) (by decide) ?_
    conv => whnf
    refine SameQ.mk ⟨rfl, ?_⟩
    conv => whnf
    refine SameQ.mk ⟨rfl, ?_⟩
    conv => whnf
    refine CallQ.io Ae (rP true (Ak false)) (by first | rfl | (simp only [Aa, Au, V.fz, fzL, Ab, Ac, slr]; done) | simp [Aa, Au, V.fz, fzL, V.up, upL, Ab, Ac, Ad, slr]) rfl (fun _ => rfl) (fun _ => ⟨rfl, rfl⟩) rfl h (fun r h => A8 h) (fun r39 u40 h => ?_)
    conv => whnf
    refine SameQ.mk ⟨rfl, ?_⟩
    conv => whnf
    refine Cells.lit rfl rfl ?_
    conv => whnf
    refine SameQ.mk ⟨rfl, ?_⟩
    conv => whnf
    refine Kid.lit rfl rfl ?_
    conv => whnf
    refine Len.map ?_
    conv => whnf
    refine Ask.mk p31 ?_
    conv => whnf
    refine SameQ.mk ⟨rfl, ?_⟩
    conv => whnf
    refine SameQ.mk ⟨rfl, ?_⟩
    conv => whnf
    refine Kid.lit rfl rfl ?_
    conv => whnf
    refine Cells.wide (by exact fun _ => ⟨rfl, rfl⟩) (by first | omega | (simp [Bh] at * <;> omega)) (by decide) ?_
    conv => whnf
    refine SameQ.mk ⟨rfl, ?_⟩
    conv => whnf
    refine Kid.lit rfl rfl ?_
    conv => whnf
    refine Kid.wide (by exact fun _ => ⟨rfl, rfl⟩) (by first | omega | (simp [Bh] at * <;> omega)) (by rfl) ?_
    conv => whnf
    refine Len.map ?_
    conv => whnf
    refine Ask.o h fun p41 h => ?_
    conv => whnf
    refine Kid.lit rfl rfl ?_
    conv => whnf
    refine Kid.wide (by exact fun _ => ⟨rfl, rfl⟩) (by first | omega | (simp [Bh] at * <;> omega)) (by rfl) ?_
    conv => whnf
    refine SetKids.one (fun _ => ⟨rfl, rfl⟩) (r39) (by rfl) (by first | omega | (simp [Bh] at * <;> omega)) ?_
    conv => whnf
    refine Kid.lit rfl rfl ?_
    conv => whnf
    refine Kid.wide (by exact fun _ => ⟨rfl, rfl⟩) (by first | omega | (simp [Bh] at * <;> omega)) (by rfl) ?_
    conv => whnf
    refine SetKids.wide (by exact fun _ => ⟨rfl, rfl⟩) ({ Arity := (nth q21_5.Ops (Int.toNat (0 : Int))).Arity, Table := (nth q21_5.Ops (Int.toNat (0 : Int))).Table.set r37.toNat r39 }) (by first | omega | (simp [Bh] at * <;> omega)) (by rfl) (by decide) ?_
    conv => whnf
    refine SetKids.lit rfl ?_
    conv => whnf
    refine Cells.lit rfl rfl ?_
    conv => whnf
    refine SetKids.lit rfl ?_
    conv => whnf
    cases h; exact ⟨(by rfl), (by rfl)⟩
   conv => whnf
   refine SameQ.mk ⟨rfl, ?_⟩
   conv => whnf
   refine Cells.lit rfl rfl ?_
   conv => whnf
   refine SameQ.mk ⟨rfl, ?_⟩
   conv => whnf
   refine Kid.lit rfl rfl ?_
   conv => whnf
   refine Len.map ?_
   conv => whnf
   refine Ask.mk p31 ?_
   conv => whnf
   refine SameQ.mk ⟨rfl, ?_⟩
   conv => whnf
   refine SameQ.mk ⟨rfl, ?_⟩
   conv => whnf
   refine Kid.lit rfl rfl ?_
   conv => whnf
   refine Cells.wide (by exact fun _ => ⟨rfl, rfl⟩) (by first | omega | (simp [Bh] at * <;> omega)) (by decide) ?_
   conv => whnf
   refine SameQ.mk ⟨rfl, ?_⟩
   conv => whnf
   refine SameQ.mk ⟨rfl, ?_⟩
   conv => whnf
   refine SameQ.mk ⟨rfl, ?_⟩
   conv => whnf
   refine Cells.lit rfl rfl ?_
   conv => whnf
   refine SameQ.mk ⟨rfl, ?_⟩
   conv => whnf
   refine Kid.lit rfl rfl ?_
   conv => whnf
   refine Len.map ?_
   conv => whnf
   refine Ask.mk p31 ?_
   conv => whnf
   refine SameQ.mk ⟨rfl, ?_⟩
   conv => whnf
   refine SameQ.mk ⟨rfl, ?_⟩
   conv => whnf
   refine Kid.lit rfl rfl ?_
   conv => whnf
   refine Cells.wide (by exact fun _ => ⟨rfl, rfl⟩) (by first | omega | (simp [Bh] at * <;> omega)) (by decide) ?_
   conv => whnf
   refine SameQ.mk ⟨rfl, ?_⟩
   conv => whnf
   refine SameQ.mk ⟨rfl, ?_⟩
   conv => whnf
   refine SameQ.mk ⟨rfl, ?_⟩
   conv => whnf
   refine BslQ.o Ae ([(-1 : Int), r4]) (by exact fun _ => ⟨rfl, rfl⟩) (by rfl) ?_
   conv => whnf
   refine SameQ.mk ⟨rfl, ?_⟩
   conv => whnf
   refine Cells.lit rfl rfl ?_
   conv => whnf
   refine SameQ.mk ⟨rfl, ?_⟩
   conv => whnf
   refine Kid.lit rfl rfl ?_
   conv => whnf
   refine Len.map ?_
   conv => whnf
   refine Ask.mk p31 ?_
   conv => whnf
   refine SameQ.mk ⟨rfl, ?_⟩
   conv => whnf
   refine SameQ.mk ⟨rfl, ?_⟩
   conv => whnf
   refine Kid.lit rfl rfl ?_
   conv => whnf
   refine Cells.wide (by exact fun _ => ⟨rfl, rfl⟩) (by first | omega | (simp [Bh] at * <;> omega)) (by decide) ?_
   conv => whnf
   refine SameQ.mk ⟨rfl, ?_⟩
   conv => whnf
   refine SameQ.mk ⟨rfl, ?_⟩
   conv => whnf
   refine SameQ.mk ⟨rfl, ?_⟩
   conv => whnf
   refine Cells.lit rfl rfl ?_
   conv => whnf
   refine SameQ.mk ⟨rfl, ?_⟩
   conv => whnf
   refine Kid.lit rfl rfl ?_
   conv => whnf
   refine Len.map ?_
   conv => whnf
   refine Ask.mk p31 ?_
   conv => whnf
   refine SameQ.mk ⟨rfl, ?_⟩
   conv => whnf
   refine SameQ.mk ⟨rfl, ?_⟩
   conv => whnf
   refine Kid.lit rfl rfl ?_
   conv => whnf
   refine Cells.wide (by exact fun _ => ⟨rfl, rfl⟩) (by first | omega | (simp [Bh] at * <;> omega)) (by decide) ?_
   conv => whnf
   refine SameQ.mk ⟨rfl, ?_⟩
   conv => whnf
   refine SameQ.mk ⟨rfl, ?_⟩
   conv => whnf
   refine Kid.lit rfl rfl ?_
   conv => whnf
   refine Kid.wide (by exact fun _ => ⟨rfl, rfl⟩) (by first | omega | (simp [Bh] at * <;> omega)) (by rfl) ?_
   conv => whnf
   refine Len.map ?_
   conv => whnf
   refine SameQ.mk ⟨rfl, ?_⟩
   conv => whnf
   refine Cells.lit rfl rfl ?_
   conv => whnf
   refine SameQ.mk ⟨rfl, ?_⟩
   conv => whnf
   refine Kid.lit rfl rfl ?_
   conv => whnf
   refine Len.map ?_
   conv => whnf
   refine Ask.mk p31 ?_
   conv => whnf
   refine SameQ.mk ⟨rfl, ?_⟩
   conv => whnf
   refine SameQ.mk ⟨rfl, ?_⟩
   conv => whnf
   refine Kid.lit rfl rfl ?_
   conv => whnf
   refine Cells.wide (by exact fun _ => ⟨rfl, rfl⟩) (by first | omega | (simp [Bh] at * <;> omega)) (by decide) ?_
   conv => whnf
   refine SameQ.mk ⟨rfl, ?_⟩
   conv => whnf
   refine SameQ.mk ⟨rfl, ?_⟩
   conv => whnf
   refine SameQ.mk ⟨rfl, ?_⟩
   conv => whnf
   refine CallQ.io Ae (rP true (Ak false)) (by rfl) rfl (fun _ => rfl) (fun _ => ⟨rfl, rfl⟩) rfl h (fun r h => Aw h) (fun r42 u43 h => ?_)
   conv => whnf
   refine SameQ.mk ⟨rfl, ?_⟩
   conv => whnf
   refine Cells.lit rfl rfl ?_
   conv => whnf
   refine SameQ.mk ⟨rfl, ?_⟩
   conv => whnf
   refine Kid.lit rfl rfl ?_
   conv => whnf
   refine Len.map ?_
   conv => whnf
   refine Ask.mk p31 ?_
   conv => whnf
   refine SameQ.mk ⟨rfl, ?_⟩
   conv => whnf
   refine SameQ.mk ⟨rfl, ?_⟩
   conv => whnf
   refine Kid.lit rfl rfl ?_
   conv => whnf
   refine Cells.wide (by exact fun _ => ⟨rfl, rfl⟩) (by first | omega | (simp [Bh] at * <;> omega)) (by decide) ?_
   conv => whnf
   refine SameQ.mk ⟨rfl, ?_⟩
   conv => whnf
   refine SameQ.mk ⟨rfl, ?_⟩
   conv => whnf
   refine CallQ.io Ae (rP true (Ak false)) (by first | rfl | (simp only [Aa, Au, V.fz, fzL, Ab, Ac, slr]; done) | simp [Aa, Au, V.fz, fzL, V.up, upL, Ab, Ac, Ad, slr]) rfl (fun _ => rfl) (fun _ => ⟨rfl, rfl⟩) rfl h (fun r h => A8 h) (fun r44 u45 h => ?_)
   conv => whnf
   refine SameQ.mk ⟨rfl, ?_⟩
   conv => whnf
   refine Cells.lit rfl rfl ?_
   conv => whnf
   refine SameQ.mk ⟨rfl, ?_⟩
   conv => whnf
   refine Kid.lit rfl rfl ?_
   conv => whnf
   refine Len.map ?_
   conv => whnf
   refine Ask.mk p31 ?_
   conv => whnf
   refine SameQ.mk ⟨rfl, ?_⟩
   conv => whnf
   refine SameQ.mk ⟨rfl, ?_⟩
   conv => whnf
   refine Kid.lit rfl rfl ?_
   conv => whnf
   refine Cells.wide (by exact fun _ => ⟨rfl, rfl⟩) (by first | omega | (simp [Bh] at * <;> omega)) (by decide) ?_
   conv => whnf
   refine SameQ.mk ⟨rfl, ?_⟩
   conv => whnf
   refine Kid.lit rfl rfl ?_
   conv => whnf
   refine Kid.wide (by exact fun _ => ⟨rfl, rfl⟩) (by first | omega | (simp [Bh] at * <;> omega)) (by rfl) ?_
   conv => whnf
   refine Len.map ?_
   conv => whnf
   refine Ask.o h fun p46 h => ?_
   conv => whnf
   refine Kid.lit rfl rfl ?_
   conv => whnf
   refine Kid.wide (by exact fun _ => ⟨rfl, rfl⟩) (by first | omega | (simp [Bh] at * <;> omega)) (by rfl) ?_
   conv => whnf
   refine SetKids.one (fun _ => ⟨rfl, rfl⟩) (r44) (by rfl) (by first | omega | (simp [Bh] at * <;> omega)) ?_
   conv => whnf
   refine Kid.lit rfl rfl ?_
   conv => whnf
   refine Kid.wide (by exact fun _ => ⟨rfl, rfl⟩) (by first | omega | (simp [Bh] at * <;> omega)) (by rfl) ?_
   conv => whnf
   refine SetKids.wide (by exact fun _ => ⟨rfl, rfl⟩) ({ Arity := (nth q21_5.Ops (Int.toNat (0 : Int))).Arity, Table := (nth q21_5.Ops (Int.toNat (0 : Int))).Table.set r42.toNat r44 }) (by first | omega | (simp [Bh] at * <;> omega)) (by rfl) (by decide) ?_
   conv => whnf
   refine SetKids.lit rfl ?_
   conv => whnf
   refine Cells.lit rfl rfl ?_
   conv => whnf
   refine SetKids.lit rfl ?_
   conv => whnf
   cases h; exact ⟨(by rfl), (by rfl)⟩
  conv => whnf
  refine Br.oe h (fun p47 h => ?_) (fun p47 h => ?_)
  ·conv => whnf
   refine Cells.lit rfl rfl ?_
   conv => whnf
   refine SameQ.mk ⟨rfl, ?_⟩
   conv => whnf
   refine Cells.lit rfl rfl ?_
   conv => whnf
   refine SameQ.mk ⟨rfl, ?_⟩
   conv => whnf
   refine SameQ.mk ⟨rfl, ?_⟩
   conv => whnf
   refine BslQ.o Ae ([(-1 : Int), (4 : Int)]) (by exact fun _ => ⟨rfl, rfl⟩) (by rfl) ?_
   conv => whnf
   refine SameQ.mk ⟨rfl, ?_⟩
   conv => whnf
   refine Cells.lit rfl rfl ?_
   conv => whnf
   refine SameQ.mk ⟨rfl, ?_⟩
   conv => whnf
   refine SameQ.mk ⟨rfl, ?_⟩
   conv => whnf
   refine CallQ.io Ae (rP true (Ak false)) (by first | rfl | (simp only [Aa, Au, V.fz, fzL, Ab, Ac, slr]; done) | simp [Aa, Au, V.fz, fzL, V.up, upL, Ab, Ac, Ad, slr]) rfl (fun _ => rfl) (fun _ => ⟨rfl, rfl⟩) rfl h (fun r h => A8 h) (fun r48 u49 h => ?_)
   conv => whnf
   refine SameQ.mk ⟨rfl, ?_⟩
   conv => whnf
   refine Cells.lit rfl rfl ?_
   conv => whnf
   refine SameQ.mk ⟨rfl, ?_⟩
   conv => whnf
   refine Kid.lit rfl rfl ?_
   conv => whnf
   refine Len.map ?_
   conv => whnf
   refine Ask.o h fun p50 h => ?_
   conv => whnf
   refine Kid.lit rfl rfl ?_
   conv => whnf
   refine SetKids.wide (by exact fun _ => ⟨rfl, rfl⟩) ({ Arity := r48, Table := (nth q21_5.Ops (Int.toNat (0 : Int))).Table }) (by first | omega | (simp [Bh] at * <;> omega)) (by rfl) (by decide) ?_
   conv => whnf
   refine Kid.lit rfl rfl ?_
   conv => whnf
   refine SetKids.lit rfl ?_
   conv => whnf
   refine Cells.lit rfl rfl ?_
   conv => whnf
   refine SetKids.lit rfl ?_
   conv => whnf
   cases h; exact ⟨(by rfl), (by rfl)⟩
  conv => whnf
  refine Br.oe h (fun p51 h => ?_) (fun p51 h => ?_)
  ·conv => whnf
   refine LoopQ.o [5, 4, 2, 0, 132] (Hl r4) (Li r4) h (fun s o h => Ty s o h) (by rfl) (fun _ => rfl) ?_
   rintro ⟨q57_5, q57_132⟩ h
   try dsimp only at h
   conv => whnf
   refine Cells.lit rfl rfl ?_
   conv => whnf
   refine SetKids.lit rfl ?_
   conv => whnf
   cases h; exact ⟨(by rfl), (by rfl)⟩
  conv => whnf
  refine Cells.lit rfl rfl ?_
  conv => whnf
  refine SetKids.lit rfl ?_
  conv => whnf
  cases h; exact ⟨(by rfl), (by rfl)⟩
 conv => whnf
 refine CallQ.io Ae (rP true (Ak false)) (by rfl) rfl (fun _ => rfl) (fun _ => ⟨rfl, rfl⟩) rfl h (fun r h => Aw h) (fun r58 u59 h => ?_)
 conv => whnf
 refine CallQ.o (Al true) (by rfl) h (fun r h => Agq h) (fun r60 h => ?_)
 conv => whnf
 refine SetKids.lit rfl ?_
 conv => whnf
 refine Cells.lit rfl rfl ?_
 conv => whnf
 refine SetKids.lit rfl ?_
 conv => whnf
 cases h; exact ⟨(by rfl), (by rfl)⟩
end Go.Proofs.Ytoaojijoefljaaa.Ax
