/-
 What the functions compute, as functions on plain data, and that the program does compute it; written by program.
-/
import Derived.Test.YtoaojijoefljaaaCode
import Derived.Test.YtoaojijoefljaaaG1
import Derived.Test.YtoaojijoefljaaaG2
import Derived.Test.YtoaojijoefljaaaG3
namespace Go.Proofs.Ytoaojijoefljaaa.Ax
open Go
set_option maxRecDepth 100000
set_option maxHeartbeats 4000000
noncomputable def Fg (a0 : List SOp) (b0 : List SOp) : Int → Option (Int ⊕ (Unit ⊕ Unit)) := fun x5 =>
 if x5 < (↑a0.length : Int) then
 ask ((0 : Int) ≤ x5 ∧ x5 < (↑a0.length : Int)) <|
 ask ((0 : Int) ≤ x5 ∧ x5 < (↑b0.length : Int)) <|
 (G1 (nth a0 x5.toNat) (nth b0 x5.toNat)).bind fun r5 =>
 if (r5) = true then
 ask (InI (x5 + (1 : Int))) <|
 some (.inl (x5 + (1 : Int)))
 else
 some (.inr (.inl ()))
 else
 some (.inr (.inr ()))
def N3 (a0 : List SOp) (b0 : List SOp) : Int → St := fun s => [(5, A.val (Ae s)), (0, A.val ((slr false 2 (Ak false)) (a0))), (1, A.val ((slr false 2 (Ak false)) (b0)))]
def Ux (_a0 : List SOp) (_b0 : List SOp) : (Unit ⊕ Unit) → Tgt
 | (.inl _s) => (Ex.ret, [4], [(4, A.val (V.bool (false)))])
 | (.inr _s) => ((Ex.exit 0), [], [])
theorem Ada {a0 : List SOp} {b0 : List SOp} (x5 : Int) (o : Int ⊕ (Unit ⊕ Unit)) (h : Fg a0 b0 x5 = some o) : vc Try.prog Ue (Ef [5, 0, 1] (N3 a0 b0) (Ux a0 b0) o) (N3 a0 b0 x5) := by
 unfold Fg at h
 try dsimp only at h
 conv => whnf
 refine Len.map ?_
 conv => whnf
 refine Br.od h (fun p2 h => ?_) (fun p2 h => ?_)
 ·conv => whnf
  refine Len.map ?_
  conv => whnf
  refine Ask.o h fun p3 h => ?_
  conv => whnf
  refine Elem.o (by first | omega | (simp [Bc] at * <;> omega)) ?_
  conv => whnf
  refine Len.map ?_
  conv => whnf
  refine Ask.o h fun p4 h => ?_
  conv => whnf
  refine Elem.o (by first | omega | (simp [Bc] at * <;> omega)) ?_
  conv => whnf
  refine CallQ.o V.bool (by first | rfl | simp only [Aa, V.fz, fzL, V.up, upL, Ab, Ac, Ad, slr, List.cons_append, List.nil_append] | simp [Aa, V.fz, fzL, V.up, upL, Ab, Ac, Ad, slr]) h (fun r h => Xz h) (fun r5 h => ?_)
  conv => whnf
  refine Br.flip ?_
  conv => whnf
  refine Br.ob h (fun p6 h => ?_) (fun p6 h => ?_)
  ·conv => whnf
   refine Ask.o h fun p7 h => ?_
   conv => whnf
   cases h; exact ⟨rfl, rfl⟩
  conv => whnf
  cases h; exact ⟨rfl, rfl⟩
 conv => whnf
 cases h; exact ⟨rfl, rfl⟩
noncomputable def Md (a0 : (List SOp)) (b0 : (List SOp)) : Option Bool :=
 if (↑a0.length : Int) ≠ (↑b0.length : Int) then
 some false
 else
 (At (Fg a0 b0) (0 : Int)).bind fun t => match t with
 | (.inl _) => (some false)
 | (.inr _) => (some true)
theorem Akn {a0 : (List SOp)} {b0 : (List SOp)} {v : Bool} (h : Md a0 b0 = some v) : Ret Try.prog Tq [(slr false 2 (Ak false)) a0, (slr false 2 (Ak false)) b0] (V.bool v) := by
 refine Bm Aka (Nat.le_of_ble_eq_true rfl) ?_
 unfold Md at h
 conv => whnf
 refine Len.map ?_
 conv => whnf
 refine Len.map ?_
 conv => whnf
 refine Br.on h (fun p1 h => ?_) (fun p1 h => ?_)
 ·conv => whnf
  cases h; exact (by first | rfl | simp only [Ah, Aa, V.fz, fzL, V.up, upL, Ab, Ac, Ad, slr] | simp [Ah, Aa, V.fz, fzL, V.up, upL, Ab, Ac, Ad, slr])
 conv => whnf
 refine LoopQ.o [5, 0, 1] (N3 a0 b0) (Ux a0 b0) h (fun s o h => Ada s o h) (by first | rfl | simp [restrict, look, Aa, V.fz, fzL, V.up, upL, Ab, Ac, Ad, slr]) (by rintro (_ | _) <;> rfl) ?_
 rintro (⟨⟩ | ⟨⟩) h
 ·try dsimp only at h
  conv => whnf
  cases h; exact (by first | rfl | simp only [Ah, Aa, V.fz, fzL, V.up, upL, Ab, Ac, Ad, slr] | simp [Ah, Aa, V.fz, fzL, V.up, upL, Ab, Ac, Ad, slr])
 try dsimp only at h
 conv => whnf
 cases h; exact (by first | rfl | simp only [Ah, Aa, V.fz, fzL, V.up, upL, Ab, Ac, Ad, slr] | simp [Ah, Aa, V.fz, fzL, V.up, upL, Ab, Ac, Ad, slr])
noncomputable def Cw (a0 : SAlgebra) : Int → Option (Int ⊕ (Unit ⊕ Unit)) := fun x22 =>
 if x22 < (↑a0.Ops.length : Int) then
 ask ((0 : Int) ≤ x22 ∧ x22 < (↑a0.Ops.length : Int)) <|
 (D6 (nth a0.Ops x22.toNat) (a0.Size)).bind fun r7 =>
 if (r7) = true then
 ask (InI (x22 + (1 : Int))) <|
 some (.inl (x22 + (1 : Int)))
 else
 some (.inr (.inl ()))
 else
 some (.inr (.inr ()))
def It (a0 : SAlgebra) : Int → St := fun s => [(22, A.val (Ae s)), (21, A.val (Ae ((↑a0.Ops.length : Int)))), (20, A.val ((slr false 2 (Ak false)) (a0.Ops))), (1, A.val ((rP true (Aj false)) (a0)))]
def M0 (_a0 : SAlgebra) : (Unit ⊕ Unit) → Tgt
 | (.inl _s) => (Ex.ret, [2], [(2, A.val (V.bool (false)))])
 | (.inr _s) => ((Ex.exit 0), [], [])
theorem Wk {a0 : SAlgebra} (x22 : Int) (o : Int ⊕ (Unit ⊕ Unit)) (h : Cw a0 x22 = some o) : vc Try.prog M3 (Ef [22, 21, 20, 1] (It a0) (M0 a0) o) (It a0 x22) := by
 unfold Cw at h
 try dsimp only at h
 conv => whnf
 refine Br.od h (fun p5 h => ?_) (fun p5 h => ?_)
 ·conv => whnf
  refine Len.map ?_
  conv => whnf
  refine Ask.o h fun p6 h => ?_
  conv => whnf
  refine Elem.o (by first | omega | (simp [Bc] at * <;> omega)) ?_
  conv => whnf
  refine SetKids.lit rfl ?_
  conv => whnf
  refine Cells.lit rfl rfl ?_
  conv => whnf
  refine Cells.lit rfl rfl ?_
  conv => whnf
  refine CallQ.o V.bool (by first | rfl | simp only [Aa, V.fz, fzL, V.up, upL, Ab, Ac, Ad, slr, List.cons_append, List.nil_append] | simp [Aa, V.fz, fzL, V.up, upL, Ab, Ac, Ad, slr]) h (fun r h => Jw h) (fun r7 h => ?_)
  conv => whnf
  refine Br.flip ?_
  conv => whnf
  refine Br.ob h (fun p8 h => ?_) (fun p8 h => ?_)
  ·conv => whnf
   refine Ask.o h fun p9 h => ?_
   conv => whnf
   cases h; exact ⟨rfl, rfl⟩
  conv => whnf
  cases h; exact ⟨rfl, rfl⟩
 conv => whnf
 cases h; exact ⟨rfl, rfl⟩
noncomputable def Ct (a0 : SAlgebra) : Option Bool :=
 ((if a0.Size < (1 : Int) then
 some (.inl ())
 else
 if a0.Size > (8 : Int) then
 some (.inl ())
 else
 if (↑a0.Ops.length : Int) > (4 : Int) then
 some (.inl ())
 else
 some (.inr ()) : Option (Unit ⊕ Unit))).bind fun t => match t with
 | (.inl _) => (some false)
 | (.inr _) => ((At (Cw a0) (0 : Int)).bind fun t => match t with
 | (.inl _) => (some false)
 | (.inr _) => (some true))
theorem H9 {a0 : SAlgebra} {v : Bool} (h : Ct a0 = some v) : Ret Try.prog E8 [(Aj false) a0] (V.bool v) := by
 refine Bm Aat (Nat.le_of_ble_eq_true rfl) ?_
 unfold Ct at h
 conv => whnf
 refine CutQ.o (fun t : (Unit ⊕ Unit) => match t with | (.inl s) => (Ex.ret, [2], [(2, A.val (V.bool (false)))]) | (.inr s) => (Ex.normal, [1], [(1, A.val ((rP true (Aj false)) (a0)))])) h ?_ ?_
 ·intro t h
  conv => whnf
  refine Cells.lit rfl rfl ?_
  conv => whnf
  refine Br.od h (fun p1 h => ?_) (fun p1 h => ?_)
  ·conv => whnf
   refine Br.yes ?_
   conv => whnf
   refine Br.yes ?_
   conv => whnf
   refine Br.yes ?_
   conv => whnf
   refine Br.yes ?_
   conv => whnf
   refine Br.yes ?_
   conv => whnf
   refine Br.yes ?_
   conv => whnf
   refine Br.yes ?_
   conv => whnf
   refine Br.yes ?_
   conv => whnf
   refine Br.yes ?_
   conv => whnf
   cases h; exact ⟨rfl, rfl⟩
  conv => whnf
  refine Br.no ?_
  conv => whnf
  refine Cells.lit rfl rfl ?_
  conv => whnf
  refine Br.no ?_
  conv => whnf
  refine Br.no ?_
  conv => whnf
  refine Br.od h (fun p2 h => ?_) (fun p2 h => ?_)
  ·conv => whnf
   refine Br.yes ?_
   conv => whnf
   refine Br.yes ?_
   conv => whnf
   refine Br.yes ?_
   conv => whnf
   refine Br.yes ?_
   conv => whnf
   refine Br.yes ?_
   conv => whnf
   cases h; exact ⟨rfl, rfl⟩
  conv => whnf
  refine Br.no ?_
  conv => whnf
  refine Cells.lit rfl rfl ?_
  conv => whnf
  refine Br.no ?_
  conv => whnf
  refine Len.map ?_
  conv => whnf
  refine Br.no ?_
  conv => whnf
  refine Br.no ?_
  conv => whnf
  refine Br.od h (fun p3 h => ?_) (fun p3 h => ?_)
  ·conv => whnf
   cases h; exact ⟨rfl, rfl⟩
  conv => whnf
  cases h; exact ⟨rfl, rfl⟩
 rintro (⟨⟩ | ⟨⟩) h
 ·try dsimp only at h
  conv => whnf
  cases h; exact (by first | rfl | simp only [Ah, Aa, V.fz, fzL, V.up, upL, Ab, Ac, Ad, slr] | simp [Ah, Aa, V.fz, fzL, V.up, upL, Ab, Ac, Ad, slr])
 try dsimp only at h
 conv => whnf
 refine Cells.lit rfl rfl ?_
 conv => whnf
 refine Len.map ?_
 conv => whnf
 refine LoopQ.o [22, 21, 20, 1] (It a0) (M0 a0) h (fun s o h => Wk s o h) (by first | rfl | simp [restrict, look, Aa, V.fz, fzL, V.up, upL, Ab, Ac, Ad, slr]) (by rintro (_ | _) <;> rfl) ?_
 rintro (⟨⟩ | ⟨⟩) h
 ·try dsimp only at h
  conv => whnf
  cases h; exact (by first | rfl | simp only [Ah, Aa, V.fz, fzL, V.up, upL, Ab, Ac, Ad, slr] | simp [Ah, Aa, V.fz, fzL, V.up, upL, Ab, Ac, Ad, slr])
 try dsimp only at h
 conv => whnf
 cases h; exact (by first | rfl | simp only [Ah, Aa, V.fz, fzL, V.up, upL, Ab, Ac, Ad, slr] | simp [Ah, Aa, V.fz, fzL, V.up, upL, Ab, Ac, Ad, slr])
noncomputable def Dj (_a0 : SAlgebra) (_k0 : Int) (steps0 : List SCloneStep) (x20 : Int) (x8 : List (List Int)) : (Int × (List (List Int))) → Option ((Int × (List (List Int))) ⊕ (List (List Int))) := fun (x85, x11) =>
 if x85 < (↑(nth steps0 x20.toNat).Args.length : Int) then
 ask ((0 : Int) ≤ x85 ∧ x85 < (↑(nth steps0 x20.toNat).Args.length : Int)) <|
 ask ((0 : Int) ≤ nth (nth steps0 x20.toNat).Args x85.toNat ∧ nth (nth steps0 x20.toNat).Args x85.toNat < (↑x8.length : Int)) <|
 ask ((x11).length + ([nth x8 (nth (nth steps0 x20.toNat).Args x85.toNat).toNat]).length ≤ LIM) <|
 ask (InI (x85 + (1 : Int))) <|
 some (.inl (x85 + (1 : Int), x11 ++ [nth x8 (nth (nth steps0 x20.toNat).Args x85.toNat).toNat]))
 else
 some (.inr x11)
def K0 (a0 : SAlgebra) (k0 : Int) (steps0 : List SCloneStep) (x20 : Int) (x8 : List (List Int)) : (Int × (List (List Int))) → St := fun s => [(85, A.val (Ae s.1)), (84, A.val (Ae ((↑(nth steps0 x20.toNat).Args.length : Int)))), (83, A.val ((slr false 1 Ae) ((nth steps0 x20.toNat).Args))), (11, A.val ((slr true 1 (slr false 1 Ae)) s.2)), (10, A.val ((rP true (Ag false)) (nth steps0 x20.toNat))), (20, A.val (Ae (x20))), (19, A.val (Ae ((↑steps0.length : Int)))), (18, A.val ((slr false 2 (Ag false)) (steps0))), (8, A.val ((slr true 1 (slr false 1 Ae)) (x8))), (3, A.val ((rP true (Aj false)) (a0))), (1, A.val (Ae (k0)))]
def Pj (a0 : SAlgebra) (k0 : Int) (steps0 : List SCloneStep) (x20 : Int) (x8 : List (List Int)) : (List (List Int)) → Tgt
 | s => ((Ex.exit 2), [11, 10, 20, 19, 18, 8, 3, 1], [(11, A.val ((slr true 1 (slr false 1 Ae)) s)), (10, A.val ((rP true (Ag false)) (nth steps0 x20.toNat))), (20, A.val (Ae (x20))), (19, A.val (Ae ((↑steps0.length : Int)))), (18, A.val ((slr false 2 (Ag false)) (steps0))), (8, A.val ((slr true 1 (slr false 1 Ae)) (x8))), (3, A.val ((rP true (Aj false)) (a0))), (1, A.val (Ae (k0)))])
theorem Yo {a0 : SAlgebra} {k0 : Int} {steps0 : List SCloneStep} {x20 : Int} {x8 : List (List Int)} (s : (Int × (List (List Int)))) (o : (Int × (List (List Int))) ⊕ (List (List Int))) (h : Dj a0 k0 steps0 x20 x8 s = some o) : vc Try.prog O9 (Ef [85, 84, 83, 11, 10, 20, 19, 18, 8, 3, 1] (K0 a0 k0 steps0 x20 x8) (Pj a0 k0 steps0 x20 x8) o) (K0 a0 k0 steps0 x20 x8 s) := by
 obtain ⟨x85, x11⟩ := s
 unfold Dj at h
 try dsimp only at h
 conv => whnf
 refine Br.od h (fun p19 h => ?_) (fun p19 h => ?_)
 ·conv => whnf
  refine Len.map ?_
  conv => whnf
  refine Ask.o h fun p20 h => ?_
  conv => whnf
  refine Elem.o (by first | omega | (simp [Bc] at * <;> omega)) ?_
  conv => whnf
  refine Len.map ?_
  conv => whnf
  refine Ask.o h fun p21 h => ?_
  conv => whnf
  refine Cells.one (fun _ => ⟨rfl, rfl⟩) (by first | omega | (simp [Bc] at * <;> omega)) ?_
  conv => whnf
  refine BslQ.o (slr false 1 Ae) ([nth x8 (nth (nth steps0 x20.toNat).Args x85.toNat).toNat]) (by exact fun _ => ⟨rfl, rfl⟩) (by first | rfl | simp only [Aa, V.fz, fzL, V.up, upL, Ab, Ac, Ad, slr, List.cons_append, List.nil_append] | simp [Aa, V.fz, fzL, V.up, upL, Ab, Ac, Ad, slr]) ?_
  conv => whnf
  refine NoOwn.o (fun _ => rfl) ?_
  conv => whnf
  refine AppQ.o (m := 1) (slr false 1 Ae) (by exact fun _ => ⟨rfl, rfl⟩) (x11) ([nth x8 (nth (nth steps0 x20.toNat).Args x85.toNat).toNat]) (by first | rfl | simp only [Aa, V.fz, fzL, V.up, upL, Ab, Ac, Ad, slr, List.cons_append, List.nil_append] | simp [Aa, V.fz, fzL, V.up, upL, Ab, Ac, Ad, slr]) (by first | rfl | simp only [Aa, V.fz, fzL, V.up, upL, Ab, Ac, Ad, slr, List.cons_append, List.nil_append] | simp [Aa, V.fz, fzL, V.up, upL, Ab, Ac, Ad, slr]) h fun h => ?_
  conv => whnf
  refine Ask.o h fun p22 h => ?_
  conv => whnf
  cases h; exact ⟨rfl, rfl⟩
 conv => whnf
 cases h; exact ⟨rfl, rfl⟩
noncomputable def Dk (a0 : SAlgebra) (k0 : Int) (steps0 : List SCloneStep) : (Int × (List (List Int))) → Option ((Int × (List (List Int))) ⊕ (Unit ⊕ (List (List Int)))) := fun (x20, x8) =>
 if x20 < (↑steps0.length : Int) then
 ask ((0 : Int) ≤ x20 ∧ x20 < (↑steps0.length : Int)) <|
 if (nth steps0 x20.toNat).Op = (-1 : Int) then
 ((if (↑(nth steps0 x20.toNat).Args.length : Int) ≠ (1 : Int) then
 some (.inl ())
 else
 (Fy ((nth steps0 x20.toNat).Args) (k0)).bind fun r6 =>
 if (r6) = true then
 some (.inr ())
 else
 some (.inl ()) : Option (Unit ⊕ Unit))).bind fun t => match t with
 | (.inl _) => (some (.inr (.inl ())))
 | (.inr _) => (ask ((0 : Int) ≤ (0 : Int) ∧ (0 : Int) < (↑(nth steps0 x20.toNat).Args.length : Int)) <|
 (Dh (a0.Size) (k0) (nth (nth steps0 x20.toNat).Args (Int.toNat (0 : Int)))).bind fun r10 =>
 ask ((x8).length + ([r10]).length ≤ LIM) <|
 ask (InI (x20 + (1 : Int))) <|
 some (.inl (x20 + (1 : Int), x8 ++ [r10])))
 else
 ((if (nth steps0 x20.toNat).Op < (0 : Int) then
 some (.inl ())
 else
 if (nth steps0 x20.toNat).Op ≥ (↑a0.Ops.length : Int) then
 some (.inl ())
 else
 ask ((0 : Int) ≤ (nth steps0 x20.toNat).Op ∧ (nth steps0 x20.toNat).Op < (↑a0.Ops.length : Int)) <|
 if (↑(nth steps0 x20.toNat).Args.length : Int) ≠ (nth a0.Ops (nth steps0 x20.toNat).Op.toNat).Arity then
 some (.inl ())
 else
 (Fy ((nth steps0 x20.toNat).Args) (x20)).bind fun r16 =>
 if (r16) = true then
 some (.inr ())
 else
 some (.inl ()) : Option (Unit ⊕ Unit))).bind fun t => match t with
 | (.inl _) => (some (.inr (.inl ())))
 | (.inr _) => ((At (Dj a0 k0 steps0 x20 x8) ((0 : Int), Ar (List Int))).bind fun q23_11 =>
 ask ((0 : Int) ≤ (nth steps0 x20.toNat).Op ∧ (nth steps0 x20.toNat).Op < (↑a0.Ops.length : Int)) <|
 (Cc (a0.Size) (k0)).bind fun r25 =>
 (Cn (a0.Size) (nth a0.Ops (nth steps0 x20.toNat).Op.toNat) (q23_11) (r25)).bind fun r26 =>
 ask ((x8).length + ([r26]).length ≤ LIM) <|
 ask (InI (x20 + (1 : Int))) <|
 some (.inl (x20 + (1 : Int), x8 ++ [r26])))
 else
 some (.inr (.inr x8))
def J8 (a0 : SAlgebra) (k0 : Int) (steps0 : List SCloneStep) : (Int × (List (List Int))) → St := fun s => [(20, A.val (Ae s.1)), (19, A.val (Ae ((↑steps0.length : Int)))), (18, A.val ((slr false 2 (Ag false)) (steps0))), (8, A.val ((slr true 1 (slr false 1 Ae)) s.2)), (3, A.val ((rP true (Aj false)) (a0))), (1, A.val (Ae (k0)))]
def Px (_a0 : SAlgebra) (_k0 : Int) (_steps0 : List SCloneStep) : (Unit ⊕ (List (List Int))) → Tgt
 | (.inl _s) => (Ex.ret, [7, 6], [(7, A.val (V.bool (false))), (6, A.val ((slr true 1 (slr true 1 Ae)) (Ar (List Int))))])
 | (.inr s) => ((Ex.exit 0), [8], [(8, A.val ((slr true 1 (slr false 1 Ae)) s))])
theorem X2 {a0 : SAlgebra} {k0 : Int} {steps0 : List SCloneStep} (s : (Int × (List (List Int)))) (o : (Int × (List (List Int))) ⊕ (Unit ⊕ (List (List Int)))) (h : Dk a0 k0 steps0 s = some o) : vc Try.prog Pf (Ef [20, 19, 18, 8, 3, 1] (J8 a0 k0 steps0) (Px a0 k0 steps0) o) (J8 a0 k0 steps0 s) := by
 obtain ⟨x20, x8⟩ := s
 unfold Dk at h
 try dsimp only at h
 conv => whnf
 refine Br.od h (fun p2 h => ?_) (fun p2 h => ?_)
 ·conv => whnf
  refine Len.map ?_
  conv => whnf
  refine Ask.o h fun p3 h => ?_
  conv => whnf
  refine Elem.o (by first | omega | (simp [Bc] at * <;> omega)) ?_
  conv => whnf
  refine SetKids.lit rfl ?_
  conv => whnf
  refine Cells.lit rfl rfl ?_
  conv => whnf
  refine Br.oe h (fun p4 h => ?_) (fun p4 h => ?_)
  ·conv => whnf
   refine CutQ.o (fun t : (Unit ⊕ Unit) => match t with | (.inl s) => (Ex.ret, [7, 6], [(7, A.val (V.bool (false))), (6, A.val ((slr true 1 (slr true 1 Ae)) (Ar (List Int))))]) | (.inr s) => (Ex.normal, [10, 20, 19, 18, 8, 3, 1], [(10, A.val ((rP true (Ag false)) (nth steps0 x20.toNat))), (20, A.val (Ae (x20))), (19, A.val (Ae ((↑steps0.length : Int)))), (18, A.val ((slr false 2 (Ag false)) (steps0))), (8, A.val ((slr true 1 (slr false 1 Ae)) (x8))), (3, A.val ((rP true (Aj false)) (a0))), (1, A.val (Ae (k0)))])) h ?_ ?_
   ·intro t h
    conv => whnf
    refine Cells.lit rfl rfl ?_
    conv => whnf
    refine Len.map ?_
    conv => whnf
    refine Br.on h (fun p5 h => ?_) (fun p5 h => ?_)
    ·conv => whnf
     refine Br.yes ?_
     conv => whnf
     refine Br.yes ?_
     conv => whnf
     refine Br.yes ?_
     conv => whnf
     refine Br.yes ?_
     conv => whnf
     refine Br.yes ?_
     conv => whnf
     refine Br.yes ?_
     conv => whnf
     cases h; exact ⟨rfl, rfl⟩
    conv => whnf
    refine Br.no ?_
    conv => whnf
    refine Cells.lit rfl rfl ?_
    conv => whnf
    refine Br.no ?_
    conv => whnf
    refine Br.no ?_
    conv => whnf
    refine CallQ.o V.bool (by first | rfl | simp only [Aa, V.fz, fzL, V.up, upL, Ab, Ac, Ad, slr, List.cons_append, List.nil_append] | simp [Aa, V.fz, fzL, V.up, upL, Ab, Ac, Ad, slr]) h (fun r h => Qe h) (fun r6 h => ?_)
    conv => whnf
    refine Br.no ?_
    conv => whnf
    refine Br.no ?_
    conv => whnf
    refine Br.flip ?_
    conv => whnf
    refine Br.ob h (fun p7 h => ?_) (fun p7 h => ?_)
    ·conv => whnf
     cases h; exact ⟨rfl, rfl⟩
    conv => whnf
    cases h; exact ⟨rfl, rfl⟩
   rintro (⟨⟩ | ⟨⟩) h
   ·try dsimp only at h
    conv => whnf
    cases h; exact ⟨rfl, rfl⟩
   try dsimp only at h
   conv => whnf
   refine Cells.lit rfl rfl ?_
   conv => whnf
   refine Cells.lit rfl rfl ?_
   conv => whnf
   refine Len.map ?_
   conv => whnf
   refine Ask.o h fun p9 h => ?_
   conv => whnf
   refine Elem.o (by first | omega | (simp [Bc] at * <;> omega)) ?_
   conv => whnf
   refine CallP.o (slr false 1 Ae) (by first | rfl | simp only [Aa, V.fz, fzL, V.up, upL, Ab, Ac, Ad, slr, List.cons_append, List.nil_append] | simp [Aa, V.fz, fzL, V.up, upL, Ab, Ac, Ad, slr]) h (fun r h => Ret.frz (K4 h) (by first | rfl | simp only [V.fz, Ab, slr] | simp [Aa, V.fz, fzL, V.up, upL, Ab, Ac, Ad, slr])) (fun r10 h => ?_)
   conv => whnf
   refine BslQ.o (slr false 1 Ae) [r10] (by exact fun _ => ⟨rfl, rfl⟩) (by first | rfl | simp only [Aa, V.fz, fzL, V.up, upL, Ab, Ac, Ad, slr, List.cons_append, List.nil_append] | simp [Aa, V.fz, fzL, V.up, upL, Ab, Ac, Ad, slr]) ?_
   conv => whnf
   refine NoOwn.o (fun _ => rfl) ?_
   conv => whnf
   refine AppQ.o (m := 1) (slr false 1 Ae) (by exact fun _ => ⟨rfl, rfl⟩) (x8) ([r10]) (by first | rfl | simp only [Aa, V.fz, fzL, V.up, upL, Ab, Ac, Ad, slr, List.cons_append, List.nil_append] | simp [Aa, V.fz, fzL, V.up, upL, Ab, Ac, Ad, slr]) (by first | rfl | simp only [Aa, V.fz, fzL, V.up, upL, Ab, Ac, Ad, slr, List.cons_append, List.nil_append] | simp [Aa, V.fz, fzL, V.up, upL, Ab, Ac, Ad, slr]) h fun h => ?_
   conv => whnf
   refine Ask.o h fun p11 h => ?_
   conv => whnf
   cases h; exact ⟨rfl, rfl⟩
  conv => whnf
  refine CutQ.o (fun t : (Unit ⊕ Unit) => match t with | (.inl s) => (Ex.ret, [7, 6], [(7, A.val (V.bool (false))), (6, A.val ((slr true 1 (slr true 1 Ae)) (Ar (List Int))))]) | (.inr s) => (Ex.normal, [10, 20, 19, 18, 8, 3, 1], [(10, A.val ((rP true (Ag false)) (nth steps0 x20.toNat))), (20, A.val (Ae (x20))), (19, A.val (Ae ((↑steps0.length : Int)))), (18, A.val ((slr false 2 (Ag false)) (steps0))), (8, A.val ((slr true 1 (slr false 1 Ae)) (x8))), (3, A.val ((rP true (Aj false)) (a0))), (1, A.val (Ae (k0)))])) h ?_ ?_
  ·intro t h
   conv => whnf
   refine Cells.lit rfl rfl ?_
   conv => whnf
   refine Br.od h (fun p12 h => ?_) (fun p12 h => ?_)
   ·conv => whnf
    refine Br.yes ?_
    conv => whnf
    refine Br.yes ?_
    conv => whnf
    refine Br.yes ?_
    conv => whnf
    refine Br.yes ?_
    conv => whnf
    refine Br.yes ?_
    conv => whnf
    refine Br.yes ?_
    conv => whnf
    refine Br.yes ?_
    conv => whnf
    refine Br.yes ?_
    conv => whnf
    refine Br.yes ?_
    conv => whnf
    refine Br.yes ?_
    conv => whnf
    refine Br.yes ?_
    conv => whnf
    refine Br.yes ?_
    conv => whnf
    refine Br.yes ?_
    conv => whnf
    refine Br.yes ?_
    conv => whnf
    refine Br.yes ?_
    conv => whnf
    refine Br.yes ?_
    conv => whnf
    refine Br.yes ?_
    conv => whnf
    refine Br.yes ?_
    conv => whnf
    refine Br.yes ?_
    conv => whnf
    refine Br.yes ?_
    conv => whnf
    refine Br.yes ?_
    conv => whnf
    refine Br.yes ?_
    conv => whnf
    refine Br.yes ?_
    conv => whnf
    refine Br.yes ?_
    conv => whnf
    refine Br.yes ?_
    conv => whnf
    cases h; exact ⟨rfl, rfl⟩
   conv => whnf
   refine Br.no ?_
   conv => whnf
   refine Cells.lit rfl rfl ?_
   conv => whnf
   refine Br.no ?_
   conv => whnf
   refine Br.no ?_
   conv => whnf
   refine Cells.lit rfl rfl ?_
   conv => whnf
   refine Br.no ?_
   conv => whnf
   refine Len.map ?_
   conv => whnf
   refine Br.no ?_
   conv => whnf
   refine Br.no ?_
   conv => whnf
   refine Br.od h (fun p13 h => ?_) (fun p13 h => ?_)
   ·conv => whnf
    refine Br.yes ?_
    conv => whnf
    refine Br.yes ?_
    conv => whnf
    refine Br.yes ?_
    conv => whnf
    refine Br.yes ?_
    conv => whnf
    refine Br.yes ?_
    conv => whnf
    refine Br.yes ?_
    conv => whnf
    refine Br.yes ?_
    conv => whnf
    refine Br.yes ?_
    conv => whnf
    refine Br.yes ?_
    conv => whnf
    refine Br.yes ?_
    conv => whnf
    refine Br.yes ?_
    conv => whnf
    refine Br.yes ?_
    conv => whnf
    refine Br.yes ?_
    conv => whnf
    refine Br.yes ?_
    conv => whnf
    refine Br.yes ?_
    conv => whnf
    refine Br.yes ?_
    conv => whnf
    refine Br.yes ?_
    conv => whnf
    refine Br.yes ?_
    conv => whnf
    cases h; exact ⟨rfl, rfl⟩
   conv => whnf
   refine Br.no ?_
   conv => whnf
   refine Cells.lit rfl rfl ?_
   conv => whnf
   refine Br.no ?_
   conv => whnf
   refine Len.map ?_
   conv => whnf
   refine Br.no ?_
   conv => whnf
   refine Br.no ?_
   conv => whnf
   refine Cells.lit rfl rfl ?_
   conv => whnf
   refine Br.no ?_
   conv => whnf
   refine Br.no ?_
   conv => whnf
   refine Cells.lit rfl rfl ?_
   conv => whnf
   refine Br.no ?_
   conv => whnf
   refine Len.map ?_
   conv => whnf
   refine Ask.o h fun p14 h => ?_
   conv => whnf
   refine Elem.o (by first | omega | (simp [Bc] at * <;> omega)) ?_
   conv => whnf
   refine Br.no ?_
   conv => whnf
   refine Br.no ?_
   conv => whnf
   refine Br.no ?_
   conv => whnf
   refine Br.no ?_
   conv => whnf
   refine Br.on h (fun p15 h => ?_) (fun p15 h => ?_)
   ·conv => whnf
    refine Br.yes ?_
    conv => whnf
    refine Br.yes ?_
    conv => whnf
    refine Br.yes ?_
    conv => whnf
    refine Br.yes ?_
    conv => whnf
    refine Br.yes ?_
    conv => whnf
    refine Br.yes ?_
    conv => whnf
    cases h; exact ⟨rfl, rfl⟩
   conv => whnf
   refine Br.no ?_
   conv => whnf
   refine Cells.lit rfl rfl ?_
   conv => whnf
   refine Br.no ?_
   conv => whnf
   refine Br.no ?_
   conv => whnf
   refine CallQ.o V.bool (by first | rfl | simp only [Aa, V.fz, fzL, V.up, upL, Ab, Ac, Ad, slr, List.cons_append, List.nil_append] | simp [Aa, V.fz, fzL, V.up, upL, Ab, Ac, Ad, slr]) h (fun r h => Qe h) (fun r16 h => ?_)
   conv => whnf
   refine Br.no ?_
   conv => whnf
   refine Br.no ?_
   conv => whnf
   refine Br.flip ?_
   conv => whnf
   refine Br.ob h (fun p17 h => ?_) (fun p17 h => ?_)
   ·conv => whnf
    cases h; exact ⟨rfl, rfl⟩
   conv => whnf
   cases h; exact ⟨rfl, rfl⟩
  rintro (⟨⟩ | ⟨⟩) h
  ·try dsimp only at h
   conv => whnf
   cases h; exact ⟨rfl, rfl⟩
  try dsimp only at h
  conv => whnf
  refine BslQ.o (slr true 1 Ae) (Ar (List Int)) (by exact fun _ => ⟨rfl, rfl⟩) (by first | rfl | simp only [Aa, V.fz, fzL, V.up, upL, Ab, Ac, Ad, slr, List.cons_append, List.nil_append] | simp [Aa, V.fz, fzL, V.up, upL, Ab, Ac, Ad, slr]) ?_
  conv => whnf
  refine Cells.lit rfl rfl ?_
  conv => whnf
  refine Len.map ?_
  conv => whnf
  refine LoopQ.o [85, 84, 83, 11, 10, 20, 19, 18, 8, 3, 1] (K0 a0 k0 steps0 x20 x8) (Pj a0 k0 steps0 x20 x8) h (fun s o h => Yo s o h) (by first | rfl | simp [restrict, look, Aa, V.fz, fzL, V.up, upL, Ab, Ac, Ad, slr]) (fun _ => rfl) ?_
  rintro q23_11 h
  try dsimp only at h
  conv => whnf
  refine FrzQ.d (V.sl false (1 : Nat) (List.map (slr false (1 : Nat) Ae) q23_11)) (by first | (simp only [slr]; done) | (simp [Aq, V.fz, Ab, slr]; done) | (simp [Aq, V.fz, fzL, Ab, slr]; done)) ?_
  conv => whnf
  refine Cells.lit rfl rfl ?_
  conv => whnf
  refine Cells.lit rfl rfl ?_
  conv => whnf
  refine Cells.lit rfl rfl ?_
  conv => whnf
  refine Len.map ?_
  conv => whnf
  refine Ask.o h fun p24 h => ?_
  conv => whnf
  refine Elem.o (by first | omega | (simp [Bc] at * <;> omega)) ?_
  conv => whnf
  refine Cells.lit rfl rfl ?_
  conv => whnf
  refine CallP.o Ae (by first | rfl | simp only [Aa, V.fz, fzL, V.up, upL, Ab, Ac, Ad, slr, List.cons_append, List.nil_append] | simp [Aa, V.fz, fzL, V.up, upL, Ab, Ac, Ad, slr]) h (fun r h => Fu h) (fun r25 h => ?_)
  conv => whnf
  refine CallP.o (slr false 1 Ae) (by first | rfl | simp only [Aa, V.fz, fzL, V.up, upL, Ab, Ac, Ad, slr, List.cons_append, List.nil_append] | simp [Aa, V.fz, fzL, V.up, upL, Ab, Ac, Ad, slr]) h (fun r h => Ret.frz (H4 h) (by first | rfl | simp only [V.fz, Ab, slr] | simp [Aa, V.fz, fzL, V.up, upL, Ab, Ac, Ad, slr])) (fun r26 h => ?_)
  conv => whnf
  refine BslQ.o (slr false 1 Ae) [r26] (by exact fun _ => ⟨rfl, rfl⟩) (by first | rfl | simp only [Aa, V.fz, fzL, V.up, upL, Ab, Ac, Ad, slr, List.cons_append, List.nil_append] | simp [Aa, V.fz, fzL, V.up, upL, Ab, Ac, Ad, slr]) ?_
  conv => whnf
  refine NoOwn.o (fun _ => rfl) ?_
  conv => whnf
  refine AppQ.o (m := 1) (slr false 1 Ae) (by exact fun _ => ⟨rfl, rfl⟩) (x8) ([r26]) (by first | rfl | simp only [Aa, V.fz, fzL, V.up, upL, Ab, Ac, Ad, slr, List.cons_append, List.nil_append] | simp [Aa, V.fz, fzL, V.up, upL, Ab, Ac, Ad, slr]) (by first | rfl | simp only [Aa, V.fz, fzL, V.up, upL, Ab, Ac, Ad, slr, List.cons_append, List.nil_append] | simp [Aa, V.fz, fzL, V.up, upL, Ab, Ac, Ad, slr]) h fun h => ?_
  conv => whnf
  refine Ask.o h fun p27 h => ?_
  conv => whnf
  cases h; exact ⟨rfl, rfl⟩
 conv => whnf
 cases h; exact ⟨rfl, rfl⟩
noncomputable def Gk (a0 : SAlgebra) (k0 : Int) (steps0 : (List SCloneStep)) : Option ((List (List Int)) × Bool) :=
 if (↑steps0.length : Int) > (60 : Int) then
 some (Ar (List Int), false)
 else
 (At (Dk a0 k0 steps0) ((0 : Int), Ar (List Int))).bind fun t => match t with
 | (.inl _) => (some (Ar (List Int), false))
 | (.inr q28_8) => (some (q28_8, true))
theorem Uu {a0 : SAlgebra} {k0 : Int} {steps0 : (List SCloneStep)} {v : ((List (List Int)) × Bool)} (h : Gk a0 k0 steps0 = some v) : Ret Try.prog Kq [(Aj false) a0, Ae k0, (slr false 2 (Ag false)) steps0] ((fun r => V.tup [(slr false 1 (slr false 1 Ae)) r.1, V.bool r.2]) v) := by
 refine T9 Ad3 (Nat.le_of_ble_eq_true rfl) ?_
 unfold Gk at h
 conv => whnf
 refine Len.map ?_
 conv => whnf
 refine Br.od h (fun p1 h => ?_) (fun p1 h => ?_)
 ·conv => whnf
  cases h; exact (by first | rfl | simp only [Ah, Aa, V.fz, fzL, V.up, upL, Ab, Ac, Ad, slr] | simp [Ah, Aa, V.fz, fzL, V.up, upL, Ab, Ac, Ad, slr])
 conv => whnf
 refine BslQ.o (slr true 1 Ae) (Ar (List Int)) (by exact fun _ => ⟨rfl, rfl⟩) (by first | rfl | simp only [Aa, V.fz, fzL, V.up, upL, Ab, Ac, Ad, slr, List.cons_append, List.nil_append] | simp [Aa, V.fz, fzL, V.up, upL, Ab, Ac, Ad, slr]) ?_
 conv => whnf
 refine Len.map ?_
 conv => whnf
 refine LoopQ.o [20, 19, 18, 8, 3, 1] (J8 a0 k0 steps0) (Px a0 k0 steps0) h (fun s o h => X2 s o h) (by first | rfl | simp [restrict, look, Aa, V.fz, fzL, V.up, upL, Ab, Ac, Ad, slr]) (by rintro (_ | _) <;> rfl) ?_
 rintro (⟨⟩ | q28_8) h
 ·try dsimp only at h
  conv => whnf
  cases h; exact (by first | rfl | simp only [Ah, Aa, V.fz, fzL, V.up, upL, Ab, Ac, Ad, slr] | simp [Ah, Aa, V.fz, fzL, V.up, upL, Ab, Ac, Ad, slr])
 try dsimp only at h
 conv => whnf
 cases h; exact (by first | rfl | simp only [Ah, V.fz, fzL, V.up, Ab, slr] | simp [Ah, Aa, V.fz, fzL, V.up, upL, Ab, Ac, Ad, slr])
noncomputable def Dy (a0 : SAlgebra) : Int → Option (Int ⊕ (Unit ⊕ Unit)) := fun x3 =>
 if x3 < (↑a0.Ops.length : Int) then
 ask ((0 : Int) ≤ x3 ∧ x3 < (↑a0.Ops.length : Int)) <|
 (Hl (a0.Size) (nth a0.Ops x3.toNat)).bind fun r7 =>
 if (r7) = true then
 ask (InI (x3 + (1 : Int))) <|
 some (.inl (x3 + (1 : Int)))
 else
 some (.inr (.inl ()))
 else
 some (.inr (.inr ()))
def Lj (a0 : SAlgebra) : Int → St := fun s => [(3, A.val (Ae s)), (1, A.val ((rP true (Aj false)) (a0)))]
def Rq (_a0 : SAlgebra) : (Unit ⊕ Unit) → Tgt
 | (.inl _s) => (Ex.ret, [2], [(2, A.val (V.bool (false)))])
 | (.inr _s) => ((Ex.exit 0), [], [])
theorem Z8 {a0 : SAlgebra} (x3 : Int) (o : Int ⊕ (Unit ⊕ Unit)) (h : Dy a0 x3 = some o) : vc Try.prog Qt (Ef [3, 1] (Lj a0) (Rq a0) o) (Lj a0 x3) := by
 unfold Dy at h
 try dsimp only at h
 conv => whnf
 refine Cells.lit rfl rfl ?_
 conv => whnf
 refine Len.map ?_
 conv => whnf
 refine Br.od h (fun p5 h => ?_) (fun p5 h => ?_)
 ·conv => whnf
  refine Cells.lit rfl rfl ?_
  conv => whnf
  refine Cells.lit rfl rfl ?_
  conv => whnf
  refine Len.map ?_
  conv => whnf
  refine Ask.o h fun p6 h => ?_
  conv => whnf
  refine Elem.o (by first | omega | (simp [Bc] at * <;> omega)) ?_
  conv => whnf
  refine CallQ.o V.bool (by first | rfl | simp only [Aa, V.fz, fzL, V.up, upL, Ab, Ac, Ad, slr, List.cons_append, List.nil_append] | simp [Aa, V.fz, fzL, V.up, upL, Ab, Ac, Ad, slr]) h (fun r h => Abk h) (fun r7 h => ?_)
  conv => whnf
  refine Br.flip ?_
  conv => whnf
  refine Br.ob h (fun p8 h => ?_) (fun p8 h => ?_)
  ·conv => whnf
   refine Ask.o h fun p9 h => ?_
   conv => whnf
   cases h; exact ⟨rfl, rfl⟩
  conv => whnf
  cases h; exact ⟨rfl, rfl⟩
 conv => whnf
 cases h; exact ⟨rfl, rfl⟩
noncomputable def F0 (a0 : SAlgebra) : Option Bool :=
 (((Gn (a0.Size) ((1 : Int)) ((8 : Int))).bind fun r1 =>
 if (r1) = true then
 if (↑a0.Ops.length : Int) > (4 : Int) then
 some (.inl ())
 else
 some (.inr ())
 else
 some (.inl ()) : Option (Unit ⊕ Unit))).bind fun t => match t with
 | (.inl _) => (some false)
 | (.inr _) => ((At (Dy a0) (0 : Int)).bind fun t => match t with
 | (.inl _) => (some false)
 | (.inr _) => (some true))
theorem Qi {a0 : SAlgebra} {v : Bool} (h : F0 a0 = some v) : Ret Try.prog I7 [(Aj false) a0] (V.bool v) := by
 refine Bm Afo (Nat.le_of_ble_eq_true rfl) ?_
 unfold F0 at h
 conv => whnf
 refine CutQ.o (fun t : (Unit ⊕ Unit) => match t with | (.inl s) => (Ex.ret, [2], [(2, A.val (V.bool (false)))]) | (.inr s) => (Ex.normal, [1], [(1, A.val ((rP true (Aj false)) (a0)))])) h ?_ ?_
 ·intro t h
  conv => whnf
  refine Cells.lit rfl rfl ?_
  conv => whnf
  refine CallQ.o V.bool (by first | rfl | simp only [Aa, V.fz, fzL, V.up, upL, Ab, Ac, Ad, slr, List.cons_append, List.nil_append] | simp [Aa, V.fz, fzL, V.up, upL, Ab, Ac, Ad, slr]) h (fun r h => Pa h) (fun r1 h => ?_)
  conv => whnf
  refine Br.flip ?_
  conv => whnf
  refine Br.ob h (fun p2 h => ?_) (fun p2 h => ?_)
  ·conv => whnf
   refine Br.no ?_
   conv => whnf
   refine Cells.lit rfl rfl ?_
   conv => whnf
   refine Br.no ?_
   conv => whnf
   refine Len.map ?_
   conv => whnf
   refine Br.no ?_
   conv => whnf
   refine Br.no ?_
   conv => whnf
   refine Br.od h (fun p3 h => ?_) (fun p3 h => ?_)
   ·conv => whnf
    cases h; exact ⟨rfl, rfl⟩
   conv => whnf
   cases h; exact ⟨rfl, rfl⟩
  conv => whnf
  refine Br.yes ?_
  conv => whnf
  refine Br.yes ?_
  conv => whnf
  refine Br.yes ?_
  conv => whnf
  refine Br.yes ?_
  conv => whnf
  refine Br.yes ?_
  conv => whnf
  cases h; exact ⟨rfl, rfl⟩
 rintro (⟨⟩ | ⟨⟩) h
 ·try dsimp only at h
  conv => whnf
  cases h; exact (by first | rfl | simp only [Ah, Aa, V.fz, fzL, V.up, upL, Ab, Ac, Ad, slr] | simp [Ah, Aa, V.fz, fzL, V.up, upL, Ab, Ac, Ad, slr])
 try dsimp only at h
 conv => whnf
 refine LoopQ.o [3, 1] (Lj a0) (Rq a0) h (fun s o h => Z8 s o h) (by first | rfl | simp [restrict, look, Aa, V.fz, fzL, V.up, upL, Ab, Ac, Ad, slr]) (by rintro (_ | _) <;> rfl) ?_
 rintro (⟨⟩ | ⟨⟩) h
 ·try dsimp only at h
  conv => whnf
  cases h; exact (by first | rfl | simp only [Ah, Aa, V.fz, fzL, V.up, upL, Ab, Ac, Ad, slr] | simp [Ah, Aa, V.fz, fzL, V.up, upL, Ab, Ac, Ad, slr])
 try dsimp only at h
 conv => whnf
 cases h; exact (by first | rfl | simp only [Ah, Aa, V.fz, fzL, V.up, upL, Ab, Ac, Ad, slr] | simp [Ah, Aa, V.fz, fzL, V.up, upL, Ab, Ac, Ad, slr])
noncomputable def A6 (c0 : Sl1Cur) (list0 : (List Int)) : Option (Int × Sl1Cur) :=
 (Av (c0) ((↑list0.length : Int))).bind fun (r1, u2) =>
 ask ((0 : Int) ≤ r1 ∧ r1 < (↑list0.length : Int)) <|
 some (nth list0 r1.toNat, u2)
theorem Bh {c0 : Sl1Cur} {list0 : (List Int)} {v : (Int × Sl1Cur)} (h : A6 c0 list0 = some v) : P7 Try.prog A9 [(rP true (Am false)) c0, (slr false 1 Ae) list0] (Ae v.1) 0 ((rP true (Am false)) v.2) := by
 refine M8 W7 (Nat.le_of_ble_eq_true rfl) ?_
 unfold A6 at h
 conv => whnf
 refine Len.map ?_
 conv => whnf
 refine CallQ.io Ae (rP true (Am false)) (by first | rfl | simp only [Aa, V.fz, fzL, V.up, upL, Ab, Ac, Ad, slr, List.cons_append, List.nil_append] | simp [Aa, V.fz, fzL, V.up, upL, Ab, Ac, Ad, slr]) rfl (fun _ => rfl) (fun _ => ⟨rfl, rfl⟩) rfl h (fun r h => A7 h) (fun r1 u2 h => ?_)
 conv => whnf
 refine Len.map ?_
 conv => whnf
 refine Ask.o h fun p3 h => ?_
 conv => whnf
 refine Elem.o (by first | omega | (simp [Bc] at * <;> omega)) ?_
 conv => whnf
 cases h; exact ⟨(by first | rfl | simp only [Ah, Aa, V.fz, fzL, V.up, upL, Ab, Ac, Ad, slr] | simp [Ah, Aa, V.fz, fzL, V.up, upL, Ab, Ac, Ad, slr]), (by first | rfl | simp only [Ah, Aa, V.fz, fzL, V.up, upL, Ab, Ac, Ad, slr] | simp [Ah, Aa, V.fz, fzL, V.up, upL, Ab, Ac, Ad, slr])⟩
noncomputable def E6 (c0 : Sl1Cur) (n0 : Int) : Option (Bool × Sl1Cur) :=
 (Av (c0) (n0)).bind fun (r1, u2) =>
 some (r1 == (0 : Int), u2)
theorem Rg {c0 : Sl1Cur} {n0 : Int} {v : (Bool × Sl1Cur)} (h : E6 c0 n0 = some v) : P7 Try.prog Ih [(rP true (Am false)) c0, Ae n0] (V.bool v.1) 0 ((rP true (Am false)) v.2) := by
 refine M8 Aa7 (Nat.le_of_ble_eq_true rfl) ?_
 unfold E6 at h
 conv => whnf
 refine CallQ.io Ae (rP true (Am false)) (by first | rfl | simp only [Aa, V.fz, fzL, V.up, upL, Ab, Ac, Ad, slr, List.cons_append, List.nil_append] | simp [Aa, V.fz, fzL, V.up, upL, Ab, Ac, Ad, slr]) rfl (fun _ => rfl) (fun _ => ⟨rfl, rfl⟩) rfl h (fun r h => A7 h) (fun r1 u2 h => ?_)
 conv => whnf
 cases h; exact ⟨(by first | rfl | simp only [Ah, Aa, V.fz, fzL, V.up, upL, Ab, Ac, Ad, slr] | simp [Ah, Aa, V.fz, fzL, V.up, upL, Ab, Ac, Ad, slr]), (by first | rfl | simp only [Ah, Aa, V.fz, fzL, V.up, upL, Ab, Ac, Ad, slr] | simp [Ah, Aa, V.fz, fzL, V.up, upL, Ab, Ac, Ad, slr])⟩
end Go.Proofs.Ytoaojijoefljaaa.Ax
