/-
 What the functions compute, as functions on plain data, and that the program does compute it; written by program.
-/
import Derived.Test.YtoaojijoefljaaaCode
import Derived.Test.YtoaojijoefljaaaG1
import Derived.Test.YtoaojijoefljaaaG2
import Derived.Test.YtoaojijoefljaaaG3
import Derived.Test.YtoaojijoefljaaaG6
import Derived.Test.YtoaojijoefljaaaG7
import Derived.Test.YtoaojijoefljaaaG9
import Derived.Test.YtoaojijoefljaaaG10
import Derived.Test.YtoaojijoefljaaaG11
namespace Go.Proofs.Ytoaojijoefljaaa.Ax
open Go
set_option maxRecDepth 100000
set_option maxHeartbeats 4000000
noncomputable def Ew (_n0 : Int) (_ops0 : List SOp) (first0 : List (List Int)) : (Int × Sl12Find) → Option ((Int × Sl12Find) ⊕ Sl12Find) := fun (x8, x7) =>
 if x8 < (↑first0.length : Int) then
 ask ((0 : Int) ≤ x8 ∧ x8 < (↑first0.length : Int)) <|
 (F1 (x7) (nth first0 x8.toNat) ({ Op := (-1 : Int), Args := [x8] })).bind fun r3 =>
 ask (InI (x8 + (1 : Int))) <|
 some (.inl (x8 + (1 : Int), r3))
 else
 some (.inr x7)
def Iw (n0 : Int) (ops0 : List SOp) (first0 : List (List Int)) : (Int × Sl12Find) → St := fun s => [(8, A.val (Ae s.1)), (7, A.val ((rP true (Al)) s.2)), (6, A.val ((rP true (Al)) ({ tables := Ar (List Int), steps := Ar SCloneStep, large := false }))), (0, A.val (Ae (n0))), (1, A.val ((slr false 2 (Ak false)) (ops0))), (2, A.val ((slr false 1 (slr false 1 Ae)) (first0)))]
def M1 (n0 : Int) (ops0 : List SOp) (first0 : List (List Int)) : Sl12Find → Tgt
 | s => ((Ex.exit 0), [7, 6, 0, 1, 2], [(7, A.val ((rP true (Al)) s)), (6, A.val ((rP true (Al)) ({ tables := Ar (List Int), steps := Ar SCloneStep, large := false }))), (0, A.val (Ae (n0))), (1, A.val ((slr false 2 (Ak false)) (ops0))), (2, A.val ((slr false 1 (slr false 1 Ae)) (first0)))])
theorem Vy {n0 : Int} {ops0 : List SOp} {first0 : List (List Int)} (s : (Int × Sl12Find)) (o : (Int × Sl12Find) ⊕ Sl12Find) (h : Ew n0 ops0 first0 s = some o) : vc Try.prog M4 (Ef [8, 7, 6, 0, 1, 2] (Iw n0 ops0 first0) (M1 n0 ops0 first0) o) (Iw n0 ops0 first0 s) := by
 obtain ⟨x8, x7⟩ := s
 unfold Ew at h
 try dsimp only at h
 conv => whnf
 refine Len.map ?_
 conv => whnf
 refine Br.od h (fun p1 h => ?_) (fun p1 h => ?_)
 ·conv => whnf
  refine Cells.lit rfl rfl ?_
  conv => whnf
  refine Len.map ?_
  conv => whnf
  refine Ask.o h fun p2 h => ?_
  conv => whnf
  refine Elem.o (by first | omega | (simp [Bc] at * <;> omega)) ?_
  conv => whnf
  refine BslQ.o Ae [x8] (by exact fun _ => ⟨rfl, rfl⟩) (by first | rfl | simp only [Aa, V.fz, fzL, V.up, upL, Ab, Ac, Ad, slr, List.cons_append, List.nil_append] | simp [Aa, V.fz, fzL, V.up, upL, Ab, Ac, Ad, slr]) ?_
  conv => whnf
  refine FrzQ.d (V.sl false (1 : Nat) (List.map Ae [x8])) (by first | (simp only [Aq, Ac]; done) | (simp [Aq, V.fz, Ab, Ac, slr]; done) | (simp [Aq, V.fz, fzL, Ab, slr]; done)) ?_
  conv => whnf
  refine Kid.lit rfl rfl ?_
  conv => whnf
  refine Kid.lit rfl rfl ?_
  conv => whnf
  refine LendQ.give2 (j1 := 0) (j2 := 1) 0 (Al) (by first | rfl | simp only [Aa, V.fz, fzL, V.up, upL, Ab, Ac, Ad, slr, List.cons_append, List.nil_append] | simp [Aa, V.fz, fzL, V.up, upL, Ab, Ac, Ad, slr]) rfl rfl rfl (fun _ => by first | rfl | simp [Ds, V.noFz, B8, B9, NoFz.eq]) rfl h (fun r h => Wv h) (fun r3 h => ?_)
  conv => whnf
  refine Kid.lit rfl rfl ?_
  conv => whnf
  refine SetKids.lit rfl ?_
  conv => whnf
  refine Kid.lit rfl rfl ?_
  conv => whnf
  refine SetKids.lit rfl ?_
  conv => whnf
  refine Kid.lit rfl rfl ?_
  conv => whnf
  refine SetKids.lit rfl ?_
  conv => whnf
  refine SetKids.lit rfl ?_
  conv => whnf
  refine Ask.o h fun p4 h => ?_
  conv => whnf
  cases h; exact ⟨rfl, rfl⟩
 conv => whnf
 cases h; exact ⟨rfl, rfl⟩
noncomputable def Do (n0 : Int) (ops0 : List SOp) (first0 : List (List Int)) (x9 : Int) (x7 : Sl12Find) : (Int × Sl12Find) → Option ((Int × Sl12Find) ⊕ Sl12Find) := fun (x11, x7') =>
 ((if x11 < (↑ops0.length : Int) then
 if (x7'.large) = true then
 some (.inl ())
 else
 some (.inr ())
 else
 some (.inl ()) : Option (Unit ⊕ Unit))).bind fun t => match t with
 | (.inl _) => (some (.inr x7'))
 | (.inr _) => (ask ((0 : Int) ≤ x11 ∧ x11 < (↑ops0.length : Int)) <|
 ask ((0 : Int) ≤ (0 : Int) ∧ (0 : Int) < (↑first0.length : Int)) <|
 (G7 (n0) (x7') (nth ops0 x11.toNat) (x11) ((↑x7.tables.length : Int)) (x9) ((↑(nth first0 (Int.toNat (0 : Int))).length : Int))).bind fun r14 =>
 ask (InI (x11 + (1 : Int))) <|
 some (.inl (x11 + (1 : Int), r14)))
def Ix (n0 : Int) (ops0 : List SOp) (first0 : List (List Int)) (x9 : Int) (x7 : Sl12Find) : (Int × Sl12Find) → St := fun s => [(11, A.val (Ae s.1)), (10, A.val (Ae ((↑x7.tables.length : Int)))), (9, A.val (Ae (x9))), (7, A.val ((rP true (Al)) s.2)), (6, A.val ((rP true (Al)) ({ tables := Ar (List Int), steps := Ar SCloneStep, large := false }))), (0, A.val (Ae (n0))), (1, A.val ((slr false 2 (Ak false)) (ops0))), (2, A.val ((slr false 1 (slr false 1 Ae)) (first0)))]
def M6 (n0 : Int) (ops0 : List SOp) (first0 : List (List Int)) (_x9 : Int) (x7 : Sl12Find) : Sl12Find → Tgt
 | s => ((Ex.exit 4), [10, 7, 6, 0, 1, 2], [(10, A.val (Ae ((↑x7.tables.length : Int)))), (7, A.val ((rP true (Al)) s)), (6, A.val ((rP true (Al)) ({ tables := Ar (List Int), steps := Ar SCloneStep, large := false }))), (0, A.val (Ae (n0))), (1, A.val ((slr false 2 (Ak false)) (ops0))), (2, A.val ((slr false 1 (slr false 1 Ae)) (first0)))])
theorem Wj {n0 : Int} {ops0 : List SOp} {first0 : List (List Int)} {x9 : Int} {x7 : Sl12Find} (s : (Int × Sl12Find)) (o : (Int × Sl12Find) ⊕ Sl12Find) (h : Do n0 ops0 first0 x9 x7 s = some o) : vc Try.prog M2 (Ef [11, 10, 9, 7, 6, 0, 1, 2] (Ix n0 ops0 first0 x9 x7) (M6 n0 ops0 first0 x9 x7) o) (Ix n0 ops0 first0 x9 x7 s) := by
 obtain ⟨x11, x7'⟩ := s
 unfold Do at h
 try dsimp only at h
 conv => whnf
 refine CutQ.o (fun t : (Unit ⊕ Unit) => match t with | (.inl s) => ((Ex.exit 4), [10, 7, 6, 0, 1, 2], [(10, A.val (Ae ((↑x7.tables.length : Int)))), (7, A.val ((rP true (Al)) (x7'))), (6, A.val ((rP true (Al)) ({ tables := Ar (List Int), steps := Ar SCloneStep, large := false }))), (0, A.val (Ae (n0))), (1, A.val ((slr false 2 (Ak false)) (ops0))), (2, A.val ((slr false 1 (slr false 1 Ae)) (first0)))]) | (.inr s) => (Ex.normal, [11, 10, 9, 7, 6, 0, 1, 2], [(11, A.val (Ae (x11))), (10, A.val (Ae ((↑x7.tables.length : Int)))), (9, A.val (Ae (x9))), (7, A.val ((rP true (Al)) (x7'))), (6, A.val ((rP true (Al)) ({ tables := Ar (List Int), steps := Ar SCloneStep, large := false }))), (0, A.val (Ae (n0))), (1, A.val ((slr false 2 (Ak false)) (ops0))), (2, A.val ((slr false 1 (slr false 1 Ae)) (first0)))])) h ?_ ?_
 ·intro t h
  conv => whnf
  refine Len.map ?_
  conv => whnf
  refine Br.od h (fun p9 h => ?_) (fun p9 h => ?_)
  ·conv => whnf
   refine Br.yes ?_
   conv => whnf
   refine Cells.lit rfl rfl ?_
   conv => whnf
   refine Br.yes ?_
   conv => whnf
   refine Br.yes ?_
   conv => whnf
   refine Br.flip ?_
   conv => whnf
   refine Br.ob h (fun p10 h => ?_) (fun p10 h => ?_)
   ·conv => whnf
    cases h; exact ⟨rfl, rfl⟩
   conv => whnf
   cases h; exact ⟨rfl, rfl⟩
  conv => whnf
  refine Br.no ?_
  conv => whnf
  refine Br.no ?_
  conv => whnf
  refine Br.no ?_
  conv => whnf
  refine Br.no ?_
  conv => whnf
  cases h; exact ⟨rfl, rfl⟩
 rintro (⟨⟩ | ⟨⟩) h
 ·try dsimp only at h
  conv => whnf
  cases h; exact ⟨rfl, rfl⟩
 try dsimp only at h
 conv => whnf
 refine Cells.lit rfl rfl ?_
 conv => whnf
 refine Len.map ?_
 conv => whnf
 refine Ask.o h fun p12 h => ?_
 conv => whnf
 refine Elem.o (by first | omega | (simp [Bc] at * <;> omega)) ?_
 conv => whnf
 refine Len.map ?_
 conv => whnf
 refine Ask.o h fun p13 h => ?_
 conv => whnf
 refine Elem.o (by first | omega | (simp [Bc] at * <;> omega)) ?_
 conv => whnf
 refine Len.map ?_
 conv => whnf
 refine Kid.lit rfl rfl ?_
 conv => whnf
 refine Kid.lit rfl rfl ?_
 conv => whnf
 refine LendQ.give2 (j1 := 0) (j2 := 1) 1 (Al) (by first | rfl | simp only [Aa, V.fz, fzL, V.up, upL, Ab, Ac, Ad, slr, List.cons_append, List.nil_append] | simp [Aa, V.fz, fzL, V.up, upL, Ab, Ac, Ad, slr]) rfl rfl rfl (fun _ => by first | rfl | simp [Ds, V.noFz, B8, B9, NoFz.eq]) rfl h (fun r h => Ab6 h) (fun r14 h => ?_)
 conv => whnf
 refine Kid.lit rfl rfl ?_
 conv => whnf
 refine SetKids.lit rfl ?_
 conv => whnf
 refine Kid.lit rfl rfl ?_
 conv => whnf
 refine SetKids.lit rfl ?_
 conv => whnf
 refine Kid.lit rfl rfl ?_
 conv => whnf
 refine SetKids.lit rfl ?_
 conv => whnf
 refine SetKids.lit rfl ?_
 conv => whnf
 refine Ask.o h fun p15 h => ?_
 conv => whnf
 cases h; exact ⟨rfl, rfl⟩
noncomputable def Bq (n0 : Int) (ops0 : List SOp) (first0 : List (List Int)) : (Int × Sl12Find) → Option ((Int × Sl12Find) ⊕ Sl12Find) := fun (x9, x7) =>
 ((if x9 < (↑x7.tables.length : Int) then
 if (x7.large) = true then
 some (.inl ())
 else
 some (.inr ())
 else
 some (.inl ()) : Option (Unit ⊕ Unit))).bind fun t => match t with
 | (.inl _) => (some (.inr x7))
 | (.inr _) => ((At (Do n0 ops0 first0 x9 x7) ((0 : Int), x7)).bind fun q16_7 =>
 some (.inl ((↑x7.tables.length : Int), q16_7)))
def Iv (n0 : Int) (ops0 : List SOp) (first0 : List (List Int)) : (Int × Sl12Find) → St := fun s => [(9, A.val (Ae s.1)), (7, A.val ((rP true (Al)) s.2)), (6, A.val ((rP true (Al)) ({ tables := Ar (List Int), steps := Ar SCloneStep, large := false }))), (0, A.val (Ae (n0))), (1, A.val ((slr false 2 (Ak false)) (ops0))), (2, A.val ((slr false 1 (slr false 1 Ae)) (first0)))]
def M7 (_n0 : Int) (_ops0 : List SOp) (_first0 : List (List Int)) : Sl12Find → Tgt
 | s => ((Ex.exit 2), [7, 6], [(7, A.val ((rP true (Al)) s)), (6, A.val ((rP true (Al)) ({ tables := Ar (List Int), steps := Ar SCloneStep, large := false })))])
theorem V4 {n0 : Int} {ops0 : List SOp} {first0 : List (List Int)} (s : (Int × Sl12Find)) (o : (Int × Sl12Find) ⊕ Sl12Find) (h : Bq n0 ops0 first0 s = some o) : vc Try.prog M5 (Ef [9, 7, 6, 0, 1, 2] (Iv n0 ops0 first0) (M7 n0 ops0 first0) o) (Iv n0 ops0 first0 s) := by
 obtain ⟨x9, x7⟩ := s
 unfold Bq at h
 try dsimp only at h
 conv => whnf
 refine CutQ.o (fun t : (Unit ⊕ Unit) => match t with | (.inl s) => ((Ex.exit 2), [7, 6], [(7, A.val ((rP true (Al)) (x7))), (6, A.val ((rP true (Al)) ({ tables := Ar (List Int), steps := Ar SCloneStep, large := false })))]) | (.inr s) => (Ex.normal, [9, 7, 6, 0, 1, 2], [(9, A.val (Ae (x9))), (7, A.val ((rP true (Al)) (x7))), (6, A.val ((rP true (Al)) ({ tables := Ar (List Int), steps := Ar SCloneStep, large := false }))), (0, A.val (Ae (n0))), (1, A.val ((slr false 2 (Ak false)) (ops0))), (2, A.val ((slr false 1 (slr false 1 Ae)) (first0)))])) h ?_ ?_
 ·intro t h
  conv => whnf
  refine Cells.lit rfl rfl ?_
  conv => whnf
  refine Kid.lit rfl rfl ?_
  conv => whnf
  refine Len.map ?_
  conv => whnf
  refine Br.od h (fun p6 h => ?_) (fun p6 h => ?_)
  ·conv => whnf
   refine Br.yes ?_
   conv => whnf
   refine Cells.lit rfl rfl ?_
   conv => whnf
   refine Br.yes ?_
   conv => whnf
   refine Br.yes ?_
   conv => whnf
   refine Br.flip ?_
   conv => whnf
   refine Br.ob h (fun p7 h => ?_) (fun p7 h => ?_)
   ·conv => whnf
    cases h; exact ⟨rfl, rfl⟩
   conv => whnf
   cases h; exact ⟨rfl, rfl⟩
  conv => whnf
  refine Br.no ?_
  conv => whnf
  refine Br.no ?_
  conv => whnf
  refine Br.no ?_
  conv => whnf
  refine Br.no ?_
  conv => whnf
  cases h; exact ⟨rfl, rfl⟩
 rintro (⟨⟩ | ⟨⟩) h
 ·try dsimp only at h
  conv => whnf
  cases h; exact ⟨rfl, rfl⟩
 try dsimp only at h
 conv => whnf
 refine Cells.lit rfl rfl ?_
 conv => whnf
 refine Kid.lit rfl rfl ?_
 conv => whnf
 refine Len.map ?_
 conv => whnf
 refine LoopQ.o [11, 10, 9, 7, 6, 0, 1, 2] (Ix n0 ops0 first0 x9 x7) (M6 n0 ops0 first0 x9 x7) h (fun s o h => Wj s o h) (by first | rfl | simp [restrict, look, Aa, V.fz, fzL, V.up, upL, Ab, Ac, Ad, slr]) (fun _ => rfl) ?_
 rintro q16_7 h
 try dsimp only at h
 conv => whnf
 cases h; exact ⟨rfl, rfl⟩
noncomputable def Gb (n0 : Int) (ops0 : (List SOp)) (first0 : (List (List Int))) : Option Sl12Find :=
 (At (Ew n0 ops0 first0) ((0 : Int), { tables := Ar (List Int), steps := Ar SCloneStep, large := false })).bind fun q5_7 =>
 (At (Bq n0 ops0 first0) ((0 : Int), q5_7)).bind fun q17_7 =>
 some q17_7
theorem Z0 {n0 : Int} {ops0 : (List SOp)} {first0 : (List (List Int))} {v : Sl12Find} (h : Gb n0 ops0 first0 = some v) : Ret Try.prog Lp [Ae n0, (slr false 2 (Ak false)) ops0, (slr false 1 (slr false 1 Ae)) first0] ((Al) v) := by
 refine Bm Aa4 (Nat.le_of_ble_eq_true rfl) ?_
 unfold Gb at h
 conv => whnf
 refine SetKids.lit rfl ?_
 conv => whnf
 refine LoopQ.o [8, 7, 6, 0, 1, 2] (Iw n0 ops0 first0) (M1 n0 ops0 first0) h (fun s o h => Vy s o h) (by first | rfl | simp [restrict, look, Aa, V.fz, fzL, V.up, upL, Ab, Ac, Ad, slr]) (fun _ => rfl) ?_
 rintro q5_7 h
 try dsimp only at h
 conv => whnf
 refine LoopQ.o [9, 7, 6, 0, 1, 2] (Iv n0 ops0 first0) (M7 n0 ops0 first0) h (fun s o h => V4 s o h) (by first | rfl | simp [restrict, look, Aa, V.fz, fzL, V.up, upL, Ab, Ac, Ad, slr]) (fun _ => rfl) ?_
 rintro q17_7 h
 try dsimp only at h
 conv => whnf
 refine Cells.lit rfl rfl ?_
 conv => whnf
 refine SetKids.lit rfl ?_
 conv => whnf
 cases h; exact (by first | rfl | simp only [Ah, Aa, V.fz, fzL, V.up, upL, Ab, Ac, Ad, slr] | simp [Ah, Aa, V.fz, fzL, V.up, upL, Ab, Ac, Ad, slr])
noncomputable def C3 (a0 : SAlgebra) (k0 : Int) : (Int × (List (List Int))) → Option ((Int × (List (List Int))) ⊕ (List (List Int))) := fun (x6, x5) =>
 if x6 < k0 then
 (C8 (a0.Size) (k0) (x6)).bind fun r2 =>
 ask ((x5).length + ([r2]).length ≤ LIM) <|
 ask (InI (x6 + (1 : Int))) <|
 some (.inl (x6 + (1 : Int), x5 ++ [r2]))
 else
 some (.inr x5)
def Jo (a0 : SAlgebra) (k0 : Int) : (Int × (List (List Int))) → St := fun s => [(6, A.val (Ae s.1)), (5, A.val ((slr true 1 (slr true 1 Ae)) s.2)), (4, A.val ((rP true (Al)) ({ tables := Ar (List Int), steps := Ar SCloneStep, large := false }))), (2, A.val ((rP true (Aj false)) (a0))), (1, A.val (Ae (k0)))]
def Ob (a0 : SAlgebra) (_k0 : Int) : (List (List Int)) → Tgt
 | s => ((Ex.exit 0), [5, 4, 2], [(5, A.val ((slr true 1 (slr true 1 Ae)) s)), (4, A.val ((rP true (Al)) ({ tables := Ar (List Int), steps := Ar SCloneStep, large := false }))), (2, A.val ((rP true (Aj false)) (a0)))])
theorem Xx {a0 : SAlgebra} {k0 : Int} (s : (Int × (List (List Int)))) (o : (Int × (List (List Int))) ⊕ (List (List Int))) (h : C3 a0 k0 s = some o) : vc Try.prog Nq (Ef [6, 5, 4, 2, 1] (Jo a0 k0) (Ob a0 k0) o) (Jo a0 k0 s) := by
 obtain ⟨x6, x5⟩ := s
 unfold C3 at h
 try dsimp only at h
 conv => whnf
 refine Br.od h (fun p1 h => ?_) (fun p1 h => ?_)
 ·conv => whnf
  refine Cells.lit rfl rfl ?_
  conv => whnf
  refine CallQ.o (slr true 1 Ae) (by first | rfl | simp only [Aa, V.fz, fzL, V.up, upL, Ab, Ac, Ad, slr, List.cons_append, List.nil_append] | simp [Aa, V.fz, fzL, V.up, upL, Ab, Ac, Ad, slr]) h (fun r h => L3 h) (fun r2 h => ?_)
  conv => whnf
  refine BslQ.o (slr true 1 Ae) [r2] (by exact fun _ => ⟨rfl, rfl⟩) (by first | rfl | simp only [Aa, V.fz, fzL, V.up, upL, Ab, Ac, Ad, slr, List.cons_append, List.nil_append] | simp [Aa, V.fz, fzL, V.up, upL, Ab, Ac, Ad, slr]) ?_
  conv => whnf
  refine NoOwn.own rfl ?_
  conv => whnf
  refine AppQ.o (m := 1) (slr true 1 Ae) (by exact fun _ => ⟨rfl, rfl⟩) (x5) ([r2]) (by first | rfl | simp only [Aa, V.fz, fzL, V.up, upL, Ab, Ac, Ad, slr, List.cons_append, List.nil_append] | simp [Aa, V.fz, fzL, V.up, upL, Ab, Ac, Ad, slr]) (by first | rfl | simp only [Aa, V.fz, fzL, V.up, upL, Ab, Ac, Ad, slr, List.cons_append, List.nil_append] | simp [Aa, V.fz, fzL, V.up, upL, Ab, Ac, Ad, slr]) h fun h => ?_
  conv => whnf
  refine Ask.o h fun p3 h => ?_
  conv => whnf
  cases h; exact ⟨rfl, rfl⟩
 conv => whnf
 cases h; exact ⟨rfl, rfl⟩
noncomputable def Cz (a0 : SAlgebra) (k0 : Int) : Option Sl12Find :=
 (At (C3 a0 k0) ((0 : Int), Ar (List Int))).bind fun q4_5 =>
 (Gb (a0.Size) (a0.Ops) (q4_5)).bind fun r5 =>
 some r5
theorem Jb {a0 : SAlgebra} {k0 : Int} {v : Sl12Find} (h : Cz a0 k0 = some v) : Ret Try.prog Fl [(Aj false) a0, Ae k0] ((Al) v) := by
 refine Bm Acl (Nat.le_of_ble_eq_true rfl) ?_
 unfold Cz at h
 conv => whnf
 refine BslQ.o (slr true 1 Ae) (Ar (List Int)) (by exact fun _ => ⟨rfl, rfl⟩) (by first | rfl | simp only [Aa, V.fz, fzL, V.up, upL, Ab, Ac, Ad, slr, List.cons_append, List.nil_append] | simp [Aa, V.fz, fzL, V.up, upL, Ab, Ac, Ad, slr]) ?_
 conv => whnf
 refine LoopQ.o [6, 5, 4, 2, 1] (Jo a0 k0) (Ob a0 k0) h (fun s o h => Xx s o h) (by first | rfl | simp [restrict, look, Aa, V.fz, fzL, V.up, upL, Ab, Ac, Ad, slr]) (fun _ => rfl) ?_
 rintro q4_5 h
 try dsimp only at h
 conv => whnf
 refine FrzQ.d (V.sl false (1 : Nat) (List.map (slr false (1 : Nat) Ae) q4_5)) (by first | (simp only [slr]; done) | (simp [Aq, V.fz, Ab, slr]; done) | (simp [Aq, V.fz, fzL, Ab, slr]; done)) ?_
 conv => whnf
 refine Cells.lit rfl rfl ?_
 conv => whnf
 refine Cells.lit rfl rfl ?_
 conv => whnf
 refine CallQ.o (Al) (by first | rfl | simp only [Aa, V.fz, fzL, V.up, upL, Ab, Ac, Ad, slr, List.cons_append, List.nil_append] | simp [Aa, V.fz, fzL, V.up, upL, Ab, Ac, Ad, slr]) h (fun r h => Z0 h) (fun r5 h => ?_)
 conv => whnf
 refine SetKids.lit rfl ?_
 conv => whnf
 cases h; exact (by first | rfl | simp only [Ah, Aa, V.fz, fzL, V.up, upL, Ab, Ac, Ad, slr] | simp [Ah, Aa, V.fz, fzL, V.up, upL, Ab, Ac, Ad, slr])
noncomputable def Du (a0 : SAlgebra) (f0 : SOp) : Option (Bool × Bool) :=
 (Ia (a0) (f0)).bind fun r1 =>
 if (r1) = true then
 (Cz (a0) (f0.Arity)).bind fun r3 =>
 if (r3.large) = true then
 some (false, false)
 else
 (Cy (r3.tables) (f0.Table)).bind fun r5 =>
 some (decide (r5 ≥ (0 : Int)), true)
 else
 some (false, false)
theorem Tg {a0 : SAlgebra} {f0 : SOp} {v : (Bool × Bool)} (h : Du a0 f0 = some v) : Ret Try.prog Hf [(Aj false) a0, (Ak false) f0] ((fun r => V.tup [V.bool r.1, V.bool r.2]) v) := by
 refine Bm Tl (Nat.le_of_ble_eq_true rfl) ?_
 unfold Du at h
 conv => whnf
 refine Cells.lit rfl rfl ?_
 conv => whnf
 refine Cells.lit rfl rfl ?_
 conv => whnf
 refine CallQ.o V.bool (by first | rfl | simp only [Aa, V.fz, fzL, V.up, upL, Ab, Ac, Ad, slr, List.cons_append, List.nil_append] | simp [Aa, V.fz, fzL, V.up, upL, Ab, Ac, Ad, slr]) h (fun r h => Yg h) (fun r1 h => ?_)
 conv => whnf
 refine Br.flip ?_
 conv => whnf
 refine Br.ob h (fun p2 h => ?_) (fun p2 h => ?_)
 ·conv => whnf
  refine Cells.lit rfl rfl ?_
  conv => whnf
  refine Cells.lit rfl rfl ?_
  conv => whnf
  refine CallQ.o (Al) (by first | rfl | simp only [Aa, V.fz, fzL, V.up, upL, Ab, Ac, Ad, slr, List.cons_append, List.nil_append] | simp [Aa, V.fz, fzL, V.up, upL, Ab, Ac, Ad, slr]) h (fun r h => Jb h) (fun r3 h => ?_)
  conv => whnf
  refine SetKids.lit rfl ?_
  conv => whnf
  refine Cells.lit rfl rfl ?_
  conv => whnf
  refine Br.ob h (fun p4 h => ?_) (fun p4 h => ?_)
  ·conv => whnf
   cases h; exact (by first | rfl | simp only [Ah, Aa, V.fz, fzL, V.up, upL, Ab, Ac, Ad, slr] | simp [Ah, Aa, V.fz, fzL, V.up, upL, Ab, Ac, Ad, slr])
  conv => whnf
  refine Cells.lit rfl rfl ?_
  conv => whnf
  refine Cells.lit rfl rfl ?_
  conv => whnf
  refine Kid.lit rfl rfl ?_
  conv => whnf
  refine CallQ.rd Ae (by first | rfl | simp only [V.fz, V.up, Ab, slr] | simp [Aa, V.fz, fzL, V.up, upL, Ab, Ac, Ad, slr]) (fun _ => rfl) h (fun r h => Mp h) (fun r5 h => ?_)
  conv => whnf
  cases h; exact (by first | rfl | simp only [Ah, Aa, V.fz, fzL, V.up, upL, Ab, Ac, Ad, slr] | simp [Ah, Aa, V.fz, fzL, V.up, upL, Ab, Ac, Ad, slr])
 conv => whnf
 cases h; exact (by first | rfl | simp only [Ah, Aa, V.fz, fzL, V.up, upL, Ab, Ac, Ad, slr] | simp [Ah, Aa, V.fz, fzL, V.up, upL, Ab, Ac, Ad, slr])
noncomputable def Eu (a0 : SAlgebra) (f0 : SOp) : Option ((List SCloneStep) × Bool) :=
 (Ia (a0) (f0)).bind fun r1 =>
 if (r1) = true then
 (Cz (a0) (f0.Arity)).bind fun r3 =>
 (Cy (r3.tables) (f0.Table)).bind fun r4 =>
 ((if (r3.large) = true then
 some (.inl ())
 else
 if r4 < (0 : Int) then
 some (.inl ())
 else
 some (.inr ()) : Option (Unit ⊕ Unit))).bind fun t => match t with
 | (.inl _) => (some (Ar SCloneStep, false))
 | (.inr _) => (ask (InI (r4 + (1 : Int))) <|
 ask (0 ≤ (0 : Int) ∧ (0 : Int) ≤ r4 + (1 : Int) ∧ r4 + (1 : Int) ≤ ((r3.steps.length : Nat) : Int)) <|
 (Hq (List.take ((r4 + (1 : Int)).toNat - Int.toNat (0 : Int)) (List.drop (Int.toNat (0 : Int)) r3.steps))).bind fun r9 =>
 some (r9, true))
 else
 some (Ar SCloneStep, false)
theorem Vw {a0 : SAlgebra} {f0 : SOp} {v : ((List SCloneStep) × Bool)} (h : Eu a0 f0 = some v) : Ret Try.prog Is [(Aj false) a0, (Ak false) f0] ((fun r => V.tup [(slr true 2 (Ag true)) r.1, V.bool r.2]) v) := by
 refine Bm Vu (Nat.le_of_ble_eq_true rfl) ?_
 unfold Eu at h
 conv => whnf
 refine Cells.lit rfl rfl ?_
 conv => whnf
 refine Cells.lit rfl rfl ?_
 conv => whnf
 refine CallQ.o V.bool (by first | rfl | simp only [Aa, V.fz, fzL, V.up, upL, Ab, Ac, Ad, slr, List.cons_append, List.nil_append] | simp [Aa, V.fz, fzL, V.up, upL, Ab, Ac, Ad, slr]) h (fun r h => Yg h) (fun r1 h => ?_)
 conv => whnf
 refine Br.flip ?_
 conv => whnf
 refine Br.ob h (fun p2 h => ?_) (fun p2 h => ?_)
 ·conv => whnf
  refine Cells.lit rfl rfl ?_
  conv => whnf
  refine Cells.lit rfl rfl ?_
  conv => whnf
  refine CallQ.o (Al) (by first | rfl | simp only [Aa, V.fz, fzL, V.up, upL, Ab, Ac, Ad, slr, List.cons_append, List.nil_append] | simp [Aa, V.fz, fzL, V.up, upL, Ab, Ac, Ad, slr]) h (fun r h => Jb h) (fun r3 h => ?_)
  conv => whnf
  refine SetKids.lit rfl ?_
  conv => whnf
  refine Cells.lit rfl rfl ?_
  conv => whnf
  refine Cells.lit rfl rfl ?_
  conv => whnf
  refine Kid.lit rfl rfl ?_
  conv => whnf
  refine CallQ.rd Ae (by first | rfl | simp only [V.fz, V.up, Ab, slr] | simp [Aa, V.fz, fzL, V.up, upL, Ab, Ac, Ad, slr]) (fun _ => rfl) h (fun r h => Mp h) (fun r4 h => ?_)
  conv => whnf
  refine CutQ.o (fun t : (Unit ⊕ Unit) => match t with | (.inl s) => (Ex.ret, [5, 4], [(5, A.val (V.bool (false))), (4, A.val ((slr true 2 (Ag true)) (Ar SCloneStep)))]) | (.inr s) => (Ex.normal, [7, 6], [(7, A.val (Ae (r4))), (6, A.val ((rP true (Al)) (r3)))])) h ?_ ?_
  ·intro t h
   conv => whnf
   refine Cells.lit rfl rfl ?_
   conv => whnf
   refine Br.ob h (fun p5 h => ?_) (fun p5 h => ?_)
   ·conv => whnf
    refine Br.yes ?_
    conv => whnf
    refine Br.yes ?_
    conv => whnf
    refine Br.yes ?_
    conv => whnf
    refine BslQ.o (Ag true) (Ar SCloneStep) (by exact fun _ => ⟨rfl, rfl⟩) (by first | rfl | simp only [Aa, V.fz, fzL, V.up, upL, Ab, Ac, Ad, slr, List.cons_append, List.nil_append] | simp [Aa, V.fz, fzL, V.up, upL, Ab, Ac, Ad, slr]) ?_
    conv => whnf
    cases h; exact ⟨rfl, rfl⟩
   conv => whnf
   refine Br.no ?_
   conv => whnf
   refine Br.no ?_
   conv => whnf
   refine Br.od h (fun p6 h => ?_) (fun p6 h => ?_)
   ·conv => whnf
    refine BslQ.o (Ag true) (Ar SCloneStep) (by exact fun _ => ⟨rfl, rfl⟩) (by first | rfl | simp only [Aa, V.fz, fzL, V.up, upL, Ab, Ac, Ad, slr, List.cons_append, List.nil_append] | simp [Aa, V.fz, fzL, V.up, upL, Ab, Ac, Ad, slr]) ?_
    conv => whnf
    cases h; exact ⟨rfl, rfl⟩
   conv => whnf
   cases h; exact ⟨rfl, rfl⟩
  rintro (⟨⟩ | ⟨⟩) h
  ·try dsimp only at h
   conv => whnf
   cases h; exact (by first | rfl | simp only [Ah, Aa, V.fz, fzL, V.up, upL, Ab, Ac, Ad, slr] | simp [Ah, Aa, V.fz, fzL, V.up, upL, Ab, Ac, Ad, slr])
  try dsimp only at h
  conv => whnf
  refine FrzQ.d ((rP false (Ek false)) r3) ((Aq _).trans (Eq.trans (b := V.fz ((rP true (Al)) r3)) rfl (Ad (rP true (Al)) _))) ?_
  conv => whnf
  refine Ask.o h fun p8 h => ?_
  conv => whnf
  refine SlcQ.o (Ag false) h fun h => ?_
  conv => whnf
  refine CallQ.o (slr true 2 (Ag true)) (by first | rfl | simp only [Aa, V.fz, fzL, V.up, upL, Ab, Ac, Ad, slr, List.cons_append, List.nil_append] | simp [Aa, V.fz, fzL, V.up, upL, Ab, Ac, Ad, slr]) h (fun r h => Aer h) (fun r9 h => ?_)
  conv => whnf
  cases h; exact (by first | rfl | simp only [Ah, Aa, V.fz, fzL, V.up, upL, Ab, Ac, Ad, slr] | simp [Ah, Aa, V.fz, fzL, V.up, upL, Ab, Ac, Ad, slr])
 conv => whnf
 refine BslQ.o (Ag true) (Ar SCloneStep) (by exact fun _ => ⟨rfl, rfl⟩) (by first | rfl | simp only [Aa, V.fz, fzL, V.up, upL, Ab, Ac, Ad, slr, List.cons_append, List.nil_append] | simp [Aa, V.fz, fzL, V.up, upL, Ab, Ac, Ad, slr]) ?_
 conv => whnf
 cases h; exact (by first | rfl | simp only [Ah, Aa, V.fz, fzL, V.up, upL, Ab, Ac, Ad, slr] | simp [Ah, Aa, V.fz, fzL, V.up, upL, Ab, Ac, Ad, slr])
noncomputable def Ea (a0 : SAlgebra) (k0 : Int) : Option ((List SOp) × Bool) :=
 (((F0 (a0)).bind fun r1 =>
 if (r1) = true then
 (Dx (a0.Size) (k0)).bind fun r3 =>
 if (r3) = true then
 some (.inl ())
 else
 some (.inr ())
 else
 some (.inr ()) : Option (Unit ⊕ Unit))).bind fun t => match t with
 | (.inl _) => ((Cz (a0) (k0)).bind fun r6 =>
 if (r6.large) = true then
 some (Ar SOp, false)
 else
 (I4 (k0) (r6.tables)).bind fun r8 =>
 some (r8, true))
 | (.inr _) => (some (Ar SOp, false))
theorem Uj {a0 : SAlgebra} {k0 : Int} {v : ((List SOp) × Bool)} (h : Ea a0 k0 = some v) : Ret Try.prog Hm [(Aj false) a0, Ae k0] ((fun r => V.tup [(slr true 2 (Ak true)) r.1, V.bool r.2]) v) := by
 refine Bm Uh (Nat.le_of_ble_eq_true rfl) ?_
 unfold Ea at h
 conv => whnf
 refine CutQ.o (fun t : (Unit ⊕ Unit) => match t with | (.inl s) => (Ex.normal, [2, 1], [(2, A.val ((rP true (Aj false)) (a0))), (1, A.val (Ae (k0)))]) | (.inr s) => (Ex.ret, [5, 4], [(5, A.val (V.bool (false))), (4, A.val ((slr true 2 (Ak true)) (Ar SOp)))])) h ?_ ?_
 ·intro t h
  conv => whnf
  refine Cells.lit rfl rfl ?_
  conv => whnf
  refine CallQ.o V.bool (by first | rfl | simp only [Aa, V.fz, fzL, V.up, upL, Ab, Ac, Ad, slr, List.cons_append, List.nil_append] | simp [Aa, V.fz, fzL, V.up, upL, Ab, Ac, Ad, slr]) h (fun r h => Qi h) (fun r1 h => ?_)
  conv => whnf
  refine Br.flip ?_
  conv => whnf
  refine Br.ob h (fun p2 h => ?_) (fun p2 h => ?_)
  ·conv => whnf
   refine Br.no ?_
   conv => whnf
   refine Cells.lit rfl rfl ?_
   conv => whnf
   refine Br.no ?_
   conv => whnf
   refine Br.no ?_
   conv => whnf
   refine CallQ.o V.bool (by first | rfl | simp only [Aa, V.fz, fzL, V.up, upL, Ab, Ac, Ad, slr, List.cons_append, List.nil_append] | simp [Aa, V.fz, fzL, V.up, upL, Ab, Ac, Ad, slr]) h (fun r h => Lm h) (fun r3 h => ?_)
   conv => whnf
   refine Br.no ?_
   conv => whnf
   refine Br.no ?_
   conv => whnf
   refine Br.flip ?_
   conv => whnf
   refine Br.ob h (fun p4 h => ?_) (fun p4 h => ?_)
   ·conv => whnf
    cases h; exact ⟨rfl, rfl⟩
   conv => whnf
   refine BslQ.o (Ak true) (Ar SOp) (by exact fun _ => ⟨rfl, rfl⟩) (by first | rfl | simp only [Aa, V.fz, fzL, V.up, upL, Ab, Ac, Ad, slr, List.cons_append, List.nil_append] | simp [Aa, V.fz, fzL, V.up, upL, Ab, Ac, Ad, slr]) ?_
   conv => whnf
   cases h; exact ⟨rfl, rfl⟩
  conv => whnf
  refine Br.yes ?_
  conv => whnf
  refine Br.yes ?_
  conv => whnf
  refine Br.yes ?_
  conv => whnf
  refine Br.yes ?_
  conv => whnf
  refine Br.yes ?_
  conv => whnf
  refine Br.yes ?_
  conv => whnf
  refine BslQ.o (Ak true) (Ar SOp) (by exact fun _ => ⟨rfl, rfl⟩) (by first | rfl | simp only [Aa, V.fz, fzL, V.up, upL, Ab, Ac, Ad, slr, List.cons_append, List.nil_append] | simp [Aa, V.fz, fzL, V.up, upL, Ab, Ac, Ad, slr]) ?_
  conv => whnf
  cases h; exact ⟨rfl, rfl⟩
 rintro (⟨⟩ | ⟨⟩) h
 ·try dsimp only at h
  conv => whnf
  refine Cells.lit rfl rfl ?_
  conv => whnf
  refine CallQ.o (Al) (by first | rfl | simp only [Aa, V.fz, fzL, V.up, upL, Ab, Ac, Ad, slr, List.cons_append, List.nil_append] | simp [Aa, V.fz, fzL, V.up, upL, Ab, Ac, Ad, slr]) h (fun r h => Jb h) (fun r6 h => ?_)
  conv => whnf
  refine SetKids.lit rfl ?_
  conv => whnf
  refine Cells.lit rfl rfl ?_
  conv => whnf
  refine Br.ob h (fun p7 h => ?_) (fun p7 h => ?_)
  ·conv => whnf
   refine BslQ.o (Ak true) (Ar SOp) (by exact fun _ => ⟨rfl, rfl⟩) (by first | rfl | simp only [Aa, V.fz, fzL, V.up, upL, Ab, Ac, Ad, slr, List.cons_append, List.nil_append] | simp [Aa, V.fz, fzL, V.up, upL, Ab, Ac, Ad, slr]) ?_
   conv => whnf
   cases h; exact (by first | rfl | simp only [Ah, Aa, V.fz, fzL, V.up, upL, Ab, Ac, Ad, slr] | simp [Ah, Aa, V.fz, fzL, V.up, upL, Ab, Ac, Ad, slr])
  conv => whnf
  refine Cells.lit rfl rfl ?_
  conv => whnf
  refine Kid.lit rfl rfl ?_
  conv => whnf
  refine CallQ.rd (slr true 2 (Ak true)) (by first | rfl | simp only [V.fz, V.up, Ab, Ad, slr] | simp [Aa, V.fz, fzL, V.up, upL, Ab, Ac, Ad, slr]) (fun _ => by simp [V.noFz, B9]) h (fun r h => Afh h) (fun r8 h => ?_)
  conv => whnf
  cases h; exact (by first | rfl | simp only [Ah, Aa, V.fz, fzL, V.up, upL, Ab, Ac, Ad, slr] | simp [Ah, Aa, V.fz, fzL, V.up, upL, Ab, Ac, Ad, slr])
 try dsimp only at h
 conv => whnf
 cases h; exact (by first | rfl | simp only [Ah, Aa, V.fz, fzL, V.up, upL, Ab, Ac, Ad, slr] | simp [Ah, Aa, V.fz, fzL, V.up, upL, Ab, Ac, Ad, slr])
noncomputable def Dw (c0 : Sl1Cur) (a0 : SAlgebra) : Option (SOp × Sl1Cur) :=
 (D7 (c0)).bind fun (r1, u2) =>
 (((F0 (a0)).bind fun r3 =>
 if (r3) = true then
 (Dx (a0.Size) (r1)).bind fun r5 =>
 if (r5) = true then
 if a0.Size ≤ (3 : Int) then
 (E6 (u2) ((3 : Int))).bind fun (r8, u9) =>
 some (!r8, u9)
 else
 some (false, u2)
 else
 some (false, u2)
 else
 some (false, u2) : Option (Bool × Sl1Cur))).bind fun (q10_26, q10_46) =>
 if (q10_26) = true then
 (Cz (a0) (r1)).bind fun r12 =>
 (Av (q10_46) ((↑r12.tables.length : Int))).bind fun (r13, u14) =>
 ask ((0 : Int) ≤ r13 ∧ r13 < (↑r12.tables.length : Int)) <|
 (Gv (nth r12.tables r13.toNat)).bind fun r16 =>
 some ({ Arity := r1, Table := r16 }, u14)
 else
 (Ci (q10_46) (a0.Size)).bind fun (r17, u18) =>
 some (r17, u18)
theorem Tk {c0 : Sl1Cur} {a0 : SAlgebra} {v : (SOp × Sl1Cur)} (h : Dw c0 a0 = some v) : P7 Try.prog Hb [(rP true (Am false)) c0, (Aj false) a0] ((Ak true) v.1) 0 ((rP true (Am false)) v.2) := by
 refine M8 Th (Nat.le_of_ble_eq_true rfl) ?_
 unfold Dw at h
 conv => whnf
 refine CallQ.io Ae (rP true (Am false)) (by first | rfl | simp only [Aa, V.fz, fzL, V.up, upL, Ab, Ac, Ad, slr, List.cons_append, List.nil_append] | simp [Aa, V.fz, fzL, V.up, upL, Ab, Ac, Ad, slr]) rfl (fun _ => rfl) (fun _ => ⟨rfl, rfl⟩) rfl h (fun r h => U7 h) (fun r1 u2 h => ?_)
 conv => whnf
 refine CutQ.o (fun t : (Bool × Sl1Cur) => match t with | s => (Ex.normal, [26, 5, 4, 3, 0, 46], [(26, A.val (V.bool s.1)), (5, A.val (Ae (r1))), (4, A.val ((rP true (Ak true)) ({ Arity := (0 : Int), Table := Ar Int }))), (3, A.val ((rP true (Aj false)) (a0))), (0, A.ref 46 []), (46, A.val ((rP true (Am false)) s.2))])) h ?_ ?_
 ·intro t h
  conv => whnf
  refine Cells.lit rfl rfl ?_
  conv => whnf
  refine CallQ.o V.bool (by first | rfl | simp only [Aa, V.fz, fzL, V.up, upL, Ab, Ac, Ad, slr, List.cons_append, List.nil_append] | simp [Aa, V.fz, fzL, V.up, upL, Ab, Ac, Ad, slr]) h (fun r h => Qi h) (fun r3 h => ?_)
  conv => whnf
  refine Br.ob h (fun p4 h => ?_) (fun p4 h => ?_)
  ·conv => whnf
   refine Br.yes ?_
   conv => whnf
   refine Cells.lit rfl rfl ?_
   conv => whnf
   refine Br.yes ?_
   conv => whnf
   refine Br.yes ?_
   conv => whnf
   refine CallQ.o V.bool (by first | rfl | simp only [Aa, V.fz, fzL, V.up, upL, Ab, Ac, Ad, slr, List.cons_append, List.nil_append] | simp [Aa, V.fz, fzL, V.up, upL, Ab, Ac, Ad, slr]) h (fun r h => Lm h) (fun r5 h => ?_)
   conv => whnf
   refine Br.yes ?_
   conv => whnf
   refine Br.ob h (fun p6 h => ?_) (fun p6 h => ?_)
   ·conv => whnf
    refine Br.yes ?_
    conv => whnf
    refine Cells.lit rfl rfl ?_
    conv => whnf
    refine Br.yes ?_
    conv => whnf
    refine Br.yes ?_
    conv => whnf
    refine Br.od h (fun p7 h => ?_) (fun p7 h => ?_)
    ·conv => whnf
     refine Br.yes ?_
     conv => whnf
     refine CallQ.io V.bool (rP true (Am false)) (by first | rfl | simp only [Aa, V.fz, fzL, V.up, upL, Ab, Ac, Ad, slr, List.cons_append, List.nil_append] | simp [Aa, V.fz, fzL, V.up, upL, Ab, Ac, Ad, slr]) rfl (fun _ => rfl) (fun _ => ⟨rfl, rfl⟩) rfl h (fun r h => Rg h) (fun r8 u9 h => ?_)
     conv => whnf
     refine Br.yes ?_
     conv => whnf
     refine Br.yes ?_
     conv => whnf
     cases h; exact ⟨rfl, rfl⟩
    conv => whnf
    refine Br.no ?_
    conv => whnf
    refine Br.no ?_
    conv => whnf
    refine Br.no ?_
    conv => whnf
    cases h; exact ⟨rfl, rfl⟩
   conv => whnf
   refine Br.no ?_
   conv => whnf
   refine Br.no ?_
   conv => whnf
   refine Br.no ?_
   conv => whnf
   refine Br.no ?_
   conv => whnf
   refine Br.no ?_
   conv => whnf
   refine Br.no ?_
   conv => whnf
   refine Br.no ?_
   conv => whnf
   cases h; exact ⟨rfl, rfl⟩
  conv => whnf
  refine Br.no ?_
  conv => whnf
  refine Br.no ?_
  conv => whnf
  refine Br.no ?_
  conv => whnf
  refine Br.no ?_
  conv => whnf
  refine Br.no ?_
  conv => whnf
  refine Br.no ?_
  conv => whnf
  refine Br.no ?_
  conv => whnf
  refine Br.no ?_
  conv => whnf
  refine Br.no ?_
  conv => whnf
  refine Br.no ?_
  conv => whnf
  refine Br.no ?_
  conv => whnf
  refine Br.no ?_
  conv => whnf
  cases h; exact ⟨rfl, rfl⟩
 rintro ⟨q10_26, q10_46⟩ h
 try dsimp only at h
 conv => whnf
 refine Br.ob h (fun p11 h => ?_) (fun p11 h => ?_)
 ·conv => whnf
  refine Cells.lit rfl rfl ?_
  conv => whnf
  refine CallQ.o (Al) (by first | rfl | simp only [Aa, V.fz, fzL, V.up, upL, Ab, Ac, Ad, slr, List.cons_append, List.nil_append] | simp [Aa, V.fz, fzL, V.up, upL, Ab, Ac, Ad, slr]) h (fun r h => Jb h) (fun r12 h => ?_)
  conv => whnf
  refine SetKids.lit rfl ?_
  conv => whnf
  refine Cells.lit rfl rfl ?_
  conv => whnf
  refine Cells.lit rfl rfl ?_
  conv => whnf
  refine Kid.lit rfl rfl ?_
  conv => whnf
  refine Len.map ?_
  conv => whnf
  refine LendP.io Ae (rP true (Am false)) (by first | rfl | simp only [Aa, V.fz, fzL, V.up, upL, Ab, Ac, Ad, slr, List.cons_append, List.nil_append] | simp [Aa, V.fz, fzL, V.up, upL, Ab, Ac, Ad, slr]) (fun _ => rfl) (fun _ => ⟨rfl, rfl⟩) (fun _ => rfl) h (fun r h => A7 h) (fun r13 u14 h => ?_)
  conv => whnf
  refine Kid.lit rfl rfl ?_
  conv => whnf
  refine Len.map ?_
  conv => whnf
  refine Ask.o h fun p15 h => ?_
  conv => whnf
  refine Kid.lit rfl rfl ?_
  conv => whnf
  refine Cells.one (fun _ => ⟨rfl, rfl⟩) (by first | omega | (simp [Bc] at * <;> omega)) ?_
  conv => whnf
  refine CallP.o (slr true 1 Ae) (by first | rfl | simp only [Aa, V.fz, fzL, V.up, upL, Ab, Ac, Ad, slr, List.cons_append, List.nil_append] | simp [Aa, V.fz, fzL, V.up, upL, Ab, Ac, Ad, slr]) h (fun r h => Rz h) (fun r16 h => ?_)
  conv => whnf
  refine SetKids.lit rfl ?_
  conv => whnf
  cases h; exact ⟨(by first | rfl | simp only [Ah, Aa, V.fz, fzL, V.up, upL, Ab, Ac, Ad, slr] | simp [Ah, Aa, V.fz, fzL, V.up, upL, Ab, Ac, Ad, slr]), (by first | rfl | simp only [Ah, Aa, V.fz, fzL, V.up, upL, Ab, Ac, Ad, slr] | simp [Ah, Aa, V.fz, fzL, V.up, upL, Ab, Ac, Ad, slr])⟩
 conv => whnf
 refine Cells.lit rfl rfl ?_
 conv => whnf
 refine CallQ.io (Ak true) (rP true (Am false)) (by first | rfl | simp only [Aa, V.fz, fzL, V.up, upL, Ab, Ac, Ad, slr, List.cons_append, List.nil_append] | simp [Aa, V.fz, fzL, V.up, upL, Ab, Ac, Ad, slr]) rfl (fun _ => rfl) (fun _ => ⟨rfl, rfl⟩) rfl h (fun r h => Qo h) (fun r17 u18 h => ?_)
 conv => whnf
 refine SetKids.lit rfl ?_
 conv => whnf
 cases h; exact ⟨(by first | rfl | simp only [Ah, Aa, V.fz, fzL, V.up, upL, Ab, Ac, Ad, slr] | simp [Ah, Aa, V.fz, fzL, V.up, upL, Ab, Ac, Ad, slr]), (by first | rfl | simp only [Ah, Aa, V.fz, fzL, V.up, upL, Ab, Ac, Ad, slr] | simp [Ah, Aa, V.fz, fzL, V.up, upL, Ab, Ac, Ad, slr])⟩
noncomputable def Cv (code0 : (List Int)) : Option (SAlgebra × SOp) :=
 (Ec ({ code := code0, at_ := (0 : Int), seed := (0 : Int) })).bind fun (r1, u2) =>
 (Dw (u2) (r1)).bind fun (r3, _u4) =>
 some (r1, r3)
theorem O4 {code0 : (List Int)} {v : (SAlgebra × SOp)} (h : Cv code0 = some v) : Ret Try.prog Fj [(slr false 1 (V.int IntKind.u8)) code0] ((fun r => V.tup [(Aj false) r.1, (Ak false) r.2]) v) := by
 refine T9 Ov (Nat.le_of_ble_eq_true rfl) ?_
 unfold Cv at h
 conv => whnf
 refine CallQ.io (Aj true) (rP true (Am false)) (by first | rfl | simp only [Aa, V.fz, fzL, V.up, upL, Ab, Ac, Ad, slr, List.cons_append, List.nil_append] | simp [Aa, V.fz, fzL, V.up, upL, Ab, Ac, Ad, slr]) rfl (fun _ => rfl) (fun _ => ⟨rfl, rfl⟩) rfl h (fun r h => Uz h) (fun r1 u2 h => ?_)
 conv => whnf
 refine SetKids.lit rfl ?_
 conv => whnf
 refine FrzQ.d (V.ptr true (V.agg [V.int IntKind.i64 r1.Size, V.sl false (2 : Nat) (List.map (Ak false) r1.Ops)])) (by first | (simp only [V.fzAt, Jl]; done) | exact Eq.trans (b := V.ptr true (V.agg [V.int IntKind.i64 r1.Size, (V.sl true (2 : Nat) (List.map (Ak true) r1.Ops)).fz])) rfl (by simp only [Ac])) ?_
 conv => whnf
 refine Cells.lit rfl rfl ?_
 conv => whnf
 refine Cells.lit rfl rfl ?_
 conv => whnf
 refine LendP.io (Ak true) (rP true (Am false)) (by first | rfl | simp only [Aa, V.fz, fzL, V.up, upL, Ab, Ac, Ad, slr, List.cons_append, List.nil_append] | simp [Aa, V.fz, fzL, V.up, upL, Ab, Ac, Ad, slr]) (fun _ => rfl) (fun _ => ⟨rfl, rfl⟩) (fun _ => rfl) h (fun r h => Tk h) (fun r3 u4 h => ?_)
 conv => whnf
 refine SetKids.lit rfl ?_
 conv => whnf
 refine SetKids.lit rfl ?_
 conv => whnf
 cases h; exact (by first | rfl | simp only [Ah, V.fz, fzL, V.up, upL, Ab, slr] | simp [Ah, Aa, V.fz, fzL, V.up, upL, Ab, Ac, Ad, slr])
end Go.Proofs.Ytoaojijoefljaaa.Ax
