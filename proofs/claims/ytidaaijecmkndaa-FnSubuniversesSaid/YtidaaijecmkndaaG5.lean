/-
 What the functions compute, as functions on plain data, and that the program does compute it; written by program.
-/
import Derived.Test.YtidaaijecmkndaaCode
import Derived.Test.YtidaaijecmkndaaG1
import Derived.Test.YtidaaijecmkndaaG2
import Derived.Test.YtidaaijecmkndaaG3
import Derived.Test.YtidaaijecmkndaaG4
namespace Go.Proofs.Ytidaaijecmkndaa.Ax
open Go
set_option maxRecDepth 100000
set_option maxHeartbeats 4000000
noncomputable def Cu (a0 : SAlgebra) (x14 : Int) : (Int × Bool × (List Bool)) → Option ((Int × Bool × (List Bool)) ⊕ (Bool × (List Bool))) := fun (x21, x5'', x47'') =>
 if x21 < (↑(nth a0.Ops x14.toNat).Table.length : Int) then
 ask ((0 : Int) ≤ x21 ∧ x21 < (↑(nth a0.Ops x14.toNat).Table.length : Int)) <|
 ask ((0 : Int) ≤ nth (nth a0.Ops x14.toNat).Table x21.toNat ∧ nth (nth a0.Ops x14.toNat).Table x21.toNat < (↑x47''.length : Int)) <|
 if (nth x47'' (nth (nth a0.Ops x14.toNat).Table x21.toNat).toNat) = true then
 ask (InI (x21 + (1 : Int))) <|
 some (.inl (x21 + (1 : Int), x5'', x47''))
 else
 (H7 (x21) ((nth a0.Ops x14.toNat).Arity) (a0.Size) (x47'')).bind fun r9 =>
 if (r9) = true then
 ask ((0 : Int) ≤ nth (nth a0.Ops x14.toNat).Table x21.toNat ∧ nth (nth a0.Ops x14.toNat).Table x21.toNat < (↑x47''.length : Int)) <|
 ask (InI (x21 + (1 : Int))) <|
 some (.inl (x21 + (1 : Int), true, x47''.set (nth (nth a0.Ops x14.toNat).Table x21.toNat).toNat true))
 else
 ask (InI (x21 + (1 : Int))) <|
 some (.inl (x21 + (1 : Int), x5'', x47''))
 else
 some (.inr (x5'', x47''))
def Hm (a0 : SAlgebra) (x14 : Int) : (Int × Bool × (List Bool)) → St := fun s => [(21, A.val (Af s.1)), (20, A.val (Af ((↑(nth a0.Ops x14.toNat).Table.length : Int)))), (19, A.val ((slr false 1 Af) ((nth a0.Ops x14.toNat).Table))), (7, A.val ((rP true (A4 false)) (nth a0.Ops x14.toNat))), (14, A.val (Af (x14))), (13, A.val (Af ((↑a0.Ops.length : Int)))), (12, A.val ((slr false 2 (A4 false)) (a0.Ops))), (5, A.val (V.bool s.2.1)), (2, A.val ((rP true (Ah false)) (a0))), (1, A.ref 47 []), (47, A.val ((slr true 1 V.bool) s.2.2))]
def Ln (a0 : SAlgebra) (x14 : Int) : (Bool × (List Bool)) → Tgt
 | s => ((Ex.exit 4), [14, 13, 12, 5, 2, 1, 47], [(14, A.val (Af (x14))), (13, A.val (Af ((↑a0.Ops.length : Int)))), (12, A.val ((slr false 2 (A4 false)) (a0.Ops))), (5, A.val (V.bool s.1)), (2, A.val ((rP true (Ah false)) (a0))), (1, A.ref 47 []), (47, A.val ((slr true 1 V.bool) s.2))])
theorem Up {a0 : SAlgebra} {x14 : Int} (s : (Int × Bool × (List Bool))) (o : (Int × Bool × (List Bool)) ⊕ (Bool × (List Bool))) (h : Cu a0 x14 s = some o) : vc Try.prog Lx (Dl [21, 20, 19, 7, 14, 13, 12, 5, 2, 1, 47] (Hm a0 x14) (Ln a0 x14) o) (Hm a0 x14 s) := by
 obtain ⟨x21, x5'', x47''⟩ := s
 unfold Cu at h
 try dsimp only at h
 conv => whnf
 refine Br.od h (fun p4 h => ?_) (fun p4 h => ?_)
 ·conv => whnf
  refine Len.map ?_
  conv => whnf
  refine Ask.o h fun p5 h => ?_
  conv => whnf
  refine Elem.o (by first | omega | (simp [Au] at *; omega)) ?_
  conv => whnf
  refine Len.map ?_
  conv => whnf
  refine Ask.o h fun p6 h => ?_
  conv => whnf
  refine Cells.one (fun _ => ⟨rfl, rfl⟩) (by first | omega | (simp [Au] at *; omega)) ?_
  conv => whnf
  refine Br.flip ?_
  conv => whnf
  refine Br.ob h (fun p7 h => ?_) (fun p7 h => ?_)
  ·conv => whnf
   refine Br.no ?_
   conv => whnf
   refine Br.no ?_
   conv => whnf
   refine Br.no ?_
   conv => whnf
   refine Br.no ?_
   conv => whnf
   refine Br.no ?_
   conv => whnf
   refine Br.no ?_
   conv => whnf
   refine Br.no ?_
   conv => whnf
   refine Br.no ?_
   conv => whnf
   refine Ask.o h fun p8 h => ?_
   conv => whnf
   cases h; exact ⟨rfl, rfl⟩
  conv => whnf
  refine Br.yes ?_
  conv => whnf
  refine Br.yes ?_
  conv => whnf
  refine Cells.lit rfl rfl ?_
  conv => whnf
  refine Br.yes ?_
  conv => whnf
  refine Br.yes ?_
  conv => whnf
  refine Cells.lit rfl rfl ?_
  conv => whnf
  refine Br.yes ?_
  conv => whnf
  refine Br.yes ?_
  conv => whnf
  refine CallQ.rd V.bool (by first | rfl | simp only [V.fz, V.up, Ab, Ad, slr] | simp [Aa, V.fz, fzL, V.up, upL, Ab, Ac, Ad, slr]) (fun _ => rfl) h (fun r h => Ys h) (fun r9 h => ?_)
  conv => whnf
  refine Br.yes ?_
  conv => whnf
  refine Br.ob h (fun p10 h => ?_) (fun p10 h => ?_)
  ·conv => whnf
   refine Len.map ?_
   conv => whnf
   refine Ask.o h fun p11 h => ?_
   conv => whnf
   refine SetKids.one (fun _ => ⟨rfl, rfl⟩) (true) (by first | rfl | simp only [Aa, V.fz, fzL, V.up, upL, Ab, Ac, Ad, slr, List.cons_append, List.nil_append] | simp [Aa, V.fz, fzL, V.up, upL, Ab, Ac, Ad, slr]) (by first | omega | (simp [Au] at *; omega)) ?_
   conv => whnf
   refine Ask.o h fun p12 h => ?_
   conv => whnf
   cases h; exact ⟨rfl, rfl⟩
  conv => whnf
  refine Ask.o h fun p13 h => ?_
  conv => whnf
  cases h; exact ⟨rfl, rfl⟩
 conv => whnf
 cases h; exact ⟨rfl, rfl⟩
noncomputable def Cm (a0 : SAlgebra) : (Int × Bool × (List Bool)) → Option ((Int × Bool × (List Bool)) ⊕ (Bool × (List Bool))) := fun (x14, x5', x47') =>
 if x14 < (↑a0.Ops.length : Int) then
 ask ((0 : Int) ≤ x14 ∧ x14 < (↑a0.Ops.length : Int)) <|
 (Ap (Cu a0 x14) ((0 : Int), x5', x47')).bind fun (q14_5, q14_47) =>
 ask (InI (x14 + (1 : Int))) <|
 some (.inl (x14 + (1 : Int), q14_5, q14_47))
 else
 some (.inr (x5', x47'))
def Ha (a0 : SAlgebra) : (Int × Bool × (List Bool)) → St := fun s => [(14, A.val (Af s.1)), (13, A.val (Af ((↑a0.Ops.length : Int)))), (12, A.val ((slr false 2 (A4 false)) (a0.Ops))), (5, A.val (V.bool s.2.1)), (2, A.val ((rP true (Ah false)) (a0))), (1, A.ref 47 []), (47, A.val ((slr true 1 V.bool) s.2.2))]
def Lh (a0 : SAlgebra) : (Bool × (List Bool)) → Tgt
 | s => ((Ex.exit 2), [5, 2, 1, 47], [(5, A.val (V.bool s.1)), (2, A.val ((rP true (Ah false)) (a0))), (1, A.ref 47 []), (47, A.val ((slr true 1 V.bool) s.2))])
theorem Tv {a0 : SAlgebra} (s : (Int × Bool × (List Bool))) (o : (Int × Bool × (List Bool)) ⊕ (Bool × (List Bool))) (h : Cm a0 s = some o) : vc Try.prog Lo (Dl [14, 13, 12, 5, 2, 1, 47] (Ha a0) (Lh a0) o) (Ha a0 s) := by
 obtain ⟨x14, x5', x47'⟩ := s
 unfold Cm at h
 try dsimp only at h
 conv => whnf
 refine Br.od h (fun p2 h => ?_) (fun p2 h => ?_)
 ·conv => whnf
  refine Len.map ?_
  conv => whnf
  refine Ask.o h fun p3 h => ?_
  conv => whnf
  refine Elem.o (by first | omega | (simp [Au] at *; omega)) ?_
  conv => whnf
  refine SetKids.lit rfl ?_
  conv => whnf
  refine Cells.lit rfl rfl ?_
  conv => whnf
  refine Len.map ?_
  conv => whnf
  refine LoopQ.o [21, 20, 19, 7, 14, 13, 12, 5, 2, 1, 47] (Hm a0 x14) (Ln a0 x14) h (fun s o h => Up s o h) (by first | rfl | simp [restrict, look, Aa, V.fz, fzL, V.up, upL, Ab, Ac, Ad, slr]) (fun _ => rfl) ?_
  rintro ⟨q14_5, q14_47⟩ h
  try dsimp only at h
  conv => whnf
  refine Ask.o h fun p15 h => ?_
  conv => whnf
  cases h; exact ⟨rfl, rfl⟩
 conv => whnf
 cases h; exact ⟨rfl, rfl⟩
noncomputable def Ds (a0 : SAlgebra) : (Bool × (List Bool)) → Option ((Bool × (List Bool)) ⊕ (List Bool)) := fun (x5, x47) =>
 if (x5) = true then
 (Ap (Cm a0) ((0 : Int), false, x47)).bind fun (q16_5, q16_47) =>
 some (.inl (q16_5, q16_47))
 else
 some (.inr x47)
def G8 (a0 : SAlgebra) : (Bool × (List Bool)) → St := fun s => [(5, A.val (V.bool s.1)), (2, A.val ((rP true (Ah false)) (a0))), (1, A.ref 47 []), (47, A.val ((slr true 1 V.bool) s.2))]
def Lw (_a0 : SAlgebra) : (List Bool) → Tgt
 | s => ((Ex.exit 0), [1, 47], [(1, A.ref 47 []), (47, A.val ((slr true 1 V.bool) s))])
theorem Ti {a0 : SAlgebra} (s : (Bool × (List Bool))) (o : (Bool × (List Bool)) ⊕ (List Bool)) (h : Ds a0 s = some o) : vc Try.prog Lt (Dl [5, 2, 1, 47] (G8 a0) (Lw a0) o) (G8 a0 s) := by
 obtain ⟨x5, x47⟩ := s
 unfold Ds at h
 try dsimp only at h
 conv => whnf
 refine Br.ob h (fun p1 h => ?_) (fun p1 h => ?_)
 ·conv => whnf
  refine Cells.lit rfl rfl ?_
  conv => whnf
  refine Len.map ?_
  conv => whnf
  refine LoopQ.o [14, 13, 12, 5, 2, 1, 47] (Ha a0) (Lh a0) h (fun s o h => Tv s o h) (by first | rfl | simp [restrict, look, Aa, V.fz, fzL, V.up, upL, Ab, Ac, Ad, slr]) (fun _ => rfl) ?_
  rintro ⟨q16_5, q16_47⟩ h
  try dsimp only at h
  conv => whnf
  cases h; exact ⟨rfl, rfl⟩
 conv => whnf
 cases h; exact ⟨rfl, rfl⟩
noncomputable def Fh (a0 : SAlgebra) (have0 : (List Bool)) : Option (List Bool) :=
 (Ap (Ds a0) (true, have0)).bind fun q17_47 =>
 some q17_47
theorem X1 {a0 : SAlgebra} {have0 : (List Bool)} {v : (List Bool)} (h : Fh a0 have0 = some v) : Vm Try.prog J0 [(Ah false) a0, (slr true 1 V.bool) have0] ((slr true 1 V.bool) v) 1 V.dead := by
 refine N8 Yb (Nat.le_of_ble_eq_true rfl) ?_
 unfold Fh at h
 conv => whnf
 refine LoopQ.o [5, 2, 1, 47] (G8 a0) (Lw a0) h (fun s o h => Ti s o h) (by first | rfl | simp [restrict, look, Aa, V.fz, fzL, V.up, upL, Ab, Ac, Ad, slr]) (fun _ => rfl) ?_
 rintro q17_47 h
 try dsimp only at h
 conv => whnf
 cases h; exact ⟨(by first | rfl | simp only [Ag, Aa, V.fz, fzL, V.up, upL, Ab, Ac, Ad, slr] | simp [Ag, Aa, V.fz, fzL, V.up, upL, Ab, Ac, Ad, slr]), (by first | rfl | simp only [Ag, Aa, V.fz, fzL, V.up, upL, Ab, Ac, Ad, slr] | simp [Ag, Aa, V.fz, fzL, V.up, upL, Ab, Ac, Ad, slr])⟩
noncomputable def Ck (l0 : List Int) (lo0 : Int) (hi0 : Int) : Int → Option (Int ⊕ (Unit ⊕ Unit)) := fun x7 =>
 if x7 < (↑l0.length : Int) then
 ask ((0 : Int) ≤ x7 ∧ x7 < (↑l0.length : Int)) <|
 (Fd (nth l0 x7.toNat) (lo0) (hi0)).bind fun r3 =>
 if (r3) = true then
 if x7 > (0 : Int) then
 ask (InI (x7 - (1 : Int))) <|
 ask ((0 : Int) ≤ x7 - (1 : Int) ∧ x7 - (1 : Int) < (↑l0.length : Int)) <|
 ask ((0 : Int) ≤ x7 ∧ x7 < (↑l0.length : Int)) <|
 if nth l0 (x7 - (1 : Int)).toNat ≥ nth l0 x7.toNat then
 some (.inr (.inl ()))
 else
 ask (InI (x7 + (1 : Int))) <|
 some (.inl (x7 + (1 : Int)))
 else
 ask (InI (x7 + (1 : Int))) <|
 some (.inl (x7 + (1 : Int)))
 else
 some (.inr (.inl ()))
 else
 some (.inr (.inr ()))
def I8 (l0 : List Int) (lo0 : Int) (hi0 : Int) : Int → St := fun s => [(7, A.val (Af s)), (0, A.val ((slr false 1 Af) (l0))), (1, A.val (Af (lo0))), (2, A.val (Af (hi0)))]
def N3 (_l0 : List Int) (_lo0 : Int) (_hi0 : Int) : (Unit ⊕ Unit) → Tgt
 | (.inl _s) => (Ex.ret, [6], [(6, A.val (V.bool (false)))])
 | (.inr _s) => ((Ex.exit 0), [], [])
theorem W7 {l0 : List Int} {lo0 : Int} {hi0 : Int} (x7 : Int) (o : Int ⊕ (Unit ⊕ Unit)) (h : Ck l0 lo0 hi0 x7 = some o) : vc Try.prog M8 (Dl [7, 0, 1, 2] (I8 l0 lo0 hi0) (N3 l0 lo0 hi0) o) (I8 l0 lo0 hi0 x7) := by
 unfold Ck at h
 try dsimp only at h
 conv => whnf
 refine Len.map ?_
 conv => whnf
 refine Br.od h (fun p1 h => ?_) (fun p1 h => ?_)
 ·conv => whnf
  refine Len.map ?_
  conv => whnf
  refine Ask.o h fun p2 h => ?_
  conv => whnf
  refine Elem.o (by first | omega | (simp [Au] at *; omega)) ?_
  conv => whnf
  refine CallP.o V.bool (by first | rfl | simp only [Aa, V.fz, fzL, V.up, upL, Ab, Ac, Ad, slr, List.cons_append, List.nil_append] | simp [Aa, V.fz, fzL, V.up, upL, Ab, Ac, Ad, slr]) h (fun r h => Lp h) (fun r3 h => ?_)
  conv => whnf
  refine Br.flip ?_
  conv => whnf
  refine Br.ob h (fun p4 h => ?_) (fun p4 h => ?_)
  ·conv => whnf
   refine Br.no ?_
   conv => whnf
   refine Br.no ?_
   conv => whnf
   refine Br.od h (fun p5 h => ?_) (fun p5 h => ?_)
   ·conv => whnf
    refine Br.yes ?_
    conv => whnf
    refine Br.yes ?_
    conv => whnf
    refine Ask.o h fun p6 h => ?_
    conv => whnf
    refine Br.yes ?_
    conv => whnf
    refine Len.map ?_
    conv => whnf
    refine Ask.o h fun p7 h => ?_
    conv => whnf
    refine Elem.o (by first | omega | (simp [Au] at *; omega)) ?_
    conv => whnf
    refine Br.yes ?_
    conv => whnf
    refine Br.yes ?_
    conv => whnf
    refine Br.yes ?_
    conv => whnf
    refine Br.yes ?_
    conv => whnf
    refine Len.map ?_
    conv => whnf
    refine Ask.o h fun p8 h => ?_
    conv => whnf
    refine Elem.o (by first | omega | (simp [Au] at *; omega)) ?_
    conv => whnf
    refine Br.yes ?_
    conv => whnf
    refine Br.yes ?_
    conv => whnf
    refine Br.no ?_
    conv => whnf
    refine Br.yes ?_
    conv => whnf
    refine Br.no ?_
    conv => whnf
    refine Br.od h (fun p9 h => ?_) (fun p9 h => ?_)
    ·conv => whnf
     cases h; exact ⟨rfl, rfl⟩
    conv => whnf
    refine Ask.o h fun p10 h => ?_
    conv => whnf
    cases h; exact ⟨rfl, rfl⟩
   conv => whnf
   refine Br.no ?_
   conv => whnf
   refine Br.no ?_
   conv => whnf
   refine Br.no ?_
   conv => whnf
   refine Br.no ?_
   conv => whnf
   refine Br.no ?_
   conv => whnf
   refine Br.no ?_
   conv => whnf
   refine Br.no ?_
   conv => whnf
   refine Br.no ?_
   conv => whnf
   refine Br.no ?_
   conv => whnf
   refine Br.no ?_
   conv => whnf
   refine Br.no ?_
   conv => whnf
   refine Br.no ?_
   conv => whnf
   refine Br.no ?_
   conv => whnf
   refine Ask.o h fun p11 h => ?_
   conv => whnf
   cases h; exact ⟨rfl, rfl⟩
  conv => whnf
  refine Br.yes ?_
  conv => whnf
  refine Br.yes ?_
  conv => whnf
  refine Br.yes ?_
  conv => whnf
  refine Br.yes ?_
  conv => whnf
  refine Br.yes ?_
  conv => whnf
  cases h; exact ⟨rfl, rfl⟩
 conv => whnf
 cases h; exact ⟨rfl, rfl⟩
noncomputable def Gq (l0 : (List Int)) (lo0 : Int) (hi0 : Int) : Option Bool :=
 (Ap (Ck l0 lo0 hi0) (0 : Int)).bind fun t => match t with
 | (.inl _) => (some false)
 | (.inr _) => (some true)
theorem Aa6 {l0 : (List Int)} {lo0 : Int} {hi0 : Int} {v : Bool} (h : Gq l0 lo0 hi0 = some v) : Ret Try.prog Mi [(slr false 1 Af) l0, Af lo0, Af hi0] (V.bool v) := by
 refine A7 Aa7 (Nat.le_of_ble_eq_true rfl) ?_
 unfold Gq at h
 conv => whnf
 refine LoopQ.o [7, 0, 1, 2] (I8 l0 lo0 hi0) (N3 l0 lo0 hi0) h (fun s o h => W7 s o h) (by first | rfl | simp [restrict, look, Aa, V.fz, fzL, V.up, upL, Ab, Ac, Ad, slr]) (by rintro (_ | _) <;> rfl) ?_
 rintro (⟨⟩ | ⟨⟩) h
 ·try dsimp only at h
  conv => whnf
  cases h; exact (by first | rfl | simp only [Ag, Aa, V.fz, fzL, V.up, upL, Ab, Ac, Ad, slr] | simp [Ag, Aa, V.fz, fzL, V.up, upL, Ab, Ac, Ad, slr])
 try dsimp only at h
 conv => whnf
 cases h; exact (by first | rfl | simp only [Ag, Aa, V.fz, fzL, V.up, upL, Ab, Ac, Ad, slr] | simp [Ag, Aa, V.fz, fzL, V.up, upL, Ab, Ac, Ad, slr])
noncomputable def F3 (lists0 : List (List Int)) (l0 : List Int) : Int → Option (Int ⊕ Int) := fun x5 =>
 if x5 > (0 : Int) then
 ask (InI (x5 - (1 : Int))) <|
 ask ((0 : Int) ≤ x5 - (1 : Int) ∧ x5 - (1 : Int) < (↑lists0.length : Int)) <|
 if (↑l0.length : Int) < (↑(nth lists0 (x5 - (1 : Int)).toNat).length : Int) then
 ask (InI (x5 - (1 : Int))) <|
 some (.inl (x5 - (1 : Int)))
 else
 ask (InI (x5 - (1 : Int))) <|
 ask ((0 : Int) ≤ x5 - (1 : Int) ∧ x5 - (1 : Int) < (↑lists0.length : Int)) <|
 if (↑l0.length : Int) = (↑(nth lists0 (x5 - (1 : Int)).toNat).length : Int) then
 ask (InI (x5 - (1 : Int))) <|
 ask ((0 : Int) ≤ x5 - (1 : Int) ∧ x5 - (1 : Int) < (↑lists0.length : Int)) <|
 (Is (l0) (nth lists0 (x5 - (1 : Int)).toNat)).bind fun r11 =>
 if (r11) = true then
 ask (InI (x5 - (1 : Int))) <|
 some (.inl (x5 - (1 : Int)))
 else
 some (.inr x5)
 else
 some (.inr x5)
 else
 some (.inr x5)
def Ko (lists0 : List (List Int)) (l0 : List Int) : Int → St := fun s => [(5, A.val (Af s)), (0, A.val ((slr false 1 (slr false 1 Af)) (lists0))), (1, A.val ((slr false 1 Af) (l0)))]
def Qy (lists0 : List (List Int)) (l0 : List Int) : Int → Tgt
 | s => ((Ex.exit 0), [5, 0, 1], [(5, A.val (Af s)), (0, A.val ((slr false 1 (slr false 1 Af)) (lists0))), (1, A.val ((slr false 1 Af) (l0)))])
theorem Z3 {lists0 : List (List Int)} {l0 : List Int} (x5 : Int) (o : Int ⊕ Int) (h : F3 lists0 l0 x5 = some o) : vc Try.prog Qj (Dl [5, 0, 1] (Ko lists0 l0) (Qy lists0 l0) o) (Ko lists0 l0 x5) := by
 unfold F3 at h
 try dsimp only at h
 conv => whnf
 refine Br.od h (fun p1 h => ?_) (fun p1 h => ?_)
 ·conv => whnf
  refine Br.yes ?_
  conv => whnf
  refine Len.map ?_
  conv => whnf
  refine Br.yes ?_
  conv => whnf
  refine Br.yes ?_
  conv => whnf
  refine Br.yes ?_
  conv => whnf
  refine Ask.o h fun p2 h => ?_
  conv => whnf
  refine Br.yes ?_
  conv => whnf
  refine Len.map ?_
  conv => whnf
  refine Ask.o h fun p3 h => ?_
  conv => whnf
  refine Elem.o (by first | omega | (simp [Au] at *; omega)) ?_
  conv => whnf
  refine Br.yes ?_
  conv => whnf
  refine Br.yes ?_
  conv => whnf
  refine Len.map ?_
  conv => whnf
  refine Br.yes ?_
  conv => whnf
  refine Br.yes ?_
  conv => whnf
  refine Br.od h (fun p4 h => ?_) (fun p4 h => ?_)
  ·conv => whnf
   refine Br.yes ?_
   conv => whnf
   refine Br.yes ?_
   conv => whnf
   refine Br.yes ?_
   conv => whnf
   refine Br.yes ?_
   conv => whnf
   refine Br.yes ?_
   conv => whnf
   refine Br.yes ?_
   conv => whnf
   refine Br.yes ?_
   conv => whnf
   refine Br.yes ?_
   conv => whnf
   refine Br.yes ?_
   conv => whnf
   refine Br.yes ?_
   conv => whnf
   refine Br.yes ?_
   conv => whnf
   refine Br.yes ?_
   conv => whnf
   refine Br.yes ?_
   conv => whnf
   refine Br.yes ?_
   conv => whnf
   refine Ask.o h fun p5 h => ?_
   conv => whnf
   cases h; exact ⟨rfl, rfl⟩
  conv => whnf
  refine Br.no ?_
  conv => whnf
  refine Len.map ?_
  conv => whnf
  refine Br.no ?_
  conv => whnf
  refine Br.no ?_
  conv => whnf
  refine Br.no ?_
  conv => whnf
  refine Ask.o h fun p6 h => ?_
  conv => whnf
  refine Br.no ?_
  conv => whnf
  refine Len.map ?_
  conv => whnf
  refine Ask.o h fun p7 h => ?_
  conv => whnf
  refine Elem.o (by first | omega | (simp [Au] at *; omega)) ?_
  conv => whnf
  refine Br.no ?_
  conv => whnf
  refine Br.no ?_
  conv => whnf
  refine Len.map ?_
  conv => whnf
  refine Br.no ?_
  conv => whnf
  refine Br.no ?_
  conv => whnf
  refine Br.oe h (fun p8 h => ?_) (fun p8 h => ?_)
  ·conv => whnf
   refine Br.yes ?_
   conv => whnf
   refine Br.yes ?_
   conv => whnf
   refine Br.yes ?_
   conv => whnf
   refine Ask.o h fun p9 h => ?_
   conv => whnf
   refine Br.yes ?_
   conv => whnf
   refine Len.map ?_
   conv => whnf
   refine Ask.o h fun p10 h => ?_
   conv => whnf
   refine Elem.o (by first | omega | (simp [Au] at *; omega)) ?_
   conv => whnf
   refine Br.yes ?_
   conv => whnf
   refine Br.yes ?_
   conv => whnf
   refine CallQ.o V.bool (by first | rfl | simp only [Aa, V.fz, fzL, V.up, upL, Ab, Ac, Ad, slr, List.cons_append, List.nil_append] | simp [Aa, V.fz, fzL, V.up, upL, Ab, Ac, Ad, slr]) h (fun r h => Agh h) (fun r11 h => ?_)
   conv => whnf
   refine Br.no ?_
   conv => whnf
   refine Br.yes ?_
   conv => whnf
   refine Br.yes ?_
   conv => whnf
   refine Br.no ?_
   conv => whnf
   refine Br.yes ?_
   conv => whnf
   refine Br.ob h (fun p12 h => ?_) (fun p12 h => ?_)
   ·conv => whnf
    refine Ask.o h fun p13 h => ?_
    conv => whnf
    cases h; exact ⟨rfl, rfl⟩
   conv => whnf
   cases h; exact ⟨rfl, rfl⟩
  conv => whnf
  refine Br.no ?_
  conv => whnf
  refine Br.no ?_
  conv => whnf
  refine Br.no ?_
  conv => whnf
  refine Br.no ?_
  conv => whnf
  refine Br.no ?_
  conv => whnf
  refine Br.no ?_
  conv => whnf
  refine Br.no ?_
  conv => whnf
  refine Br.no ?_
  conv => whnf
  refine Br.yes ?_
  conv => whnf
  refine Br.no ?_
  conv => whnf
  refine Br.yes ?_
  conv => whnf
  refine Br.no ?_
  conv => whnf
  cases h; exact ⟨rfl, rfl⟩
 conv => whnf
 refine Br.no ?_
 conv => whnf
 refine Br.no ?_
 conv => whnf
 refine Br.no ?_
 conv => whnf
 refine Br.no ?_
 conv => whnf
 refine Br.no ?_
 conv => whnf
 refine Br.no ?_
 conv => whnf
 refine Br.no ?_
 conv => whnf
 refine Br.no ?_
 conv => whnf
 refine Br.no ?_
 conv => whnf
 refine Br.no ?_
 conv => whnf
 refine Br.no ?_
 conv => whnf
 refine Br.no ?_
 conv => whnf
 cases h; exact ⟨rfl, rfl⟩
noncomputable def I1 (lists0 : (List (List Int))) (l0 : (List Int)) : Option (List (List Int)) :=
 (Ap (F3 lists0 l0) (↑lists0.length : Int)).bind fun q14_5 =>
 ask (0 ≤ (0 : Int) ∧ (0 : Int) ≤ q14_5 ∧ q14_5 ≤ ((lists0.length : Nat) : Int)) <|
 ask ((A9 (List Int)).length + (List.take (q14_5.toNat - Int.toNat (0 : Int)) (List.drop (Int.toNat (0 : Int)) lists0)).length ≤ LIM) <|
 ask ((A9 (List Int) ++ List.take (q14_5.toNat - Int.toNat (0 : Int)) (List.drop (Int.toNat (0 : Int)) lists0)).length + ([l0]).length ≤ LIM) <|
 ask (0 ≤ q14_5 ∧ q14_5 ≤ (↑lists0.length : Int) ∧ (↑lists0.length : Int) ≤ ((lists0.length : Nat) : Int)) <|
 ask ((A9 (List Int) ++ List.take (q14_5.toNat - Int.toNat (0 : Int)) (List.drop (Int.toNat (0 : Int)) lists0) ++ [l0]).length + (List.take ((↑lists0.length : Int).toNat - q14_5.toNat) (List.drop q14_5.toNat lists0)).length ≤ LIM) <|
 some (A9 (List Int) ++ List.take (q14_5.toNat - Int.toNat (0 : Int)) (List.drop (Int.toNat (0 : Int)) lists0) ++ [l0] ++ List.take ((↑lists0.length : Int).toNat - q14_5.toNat) (List.drop q14_5.toNat lists0))
theorem Af0 {lists0 : (List (List Int))} {l0 : (List Int)} {v : (List (List Int))} (h : I1 lists0 l0 = some v) : Ret Try.prog Pm [(slr false 1 (slr false 1 Af)) lists0, (slr false 1 Af) l0] ((slr true 1 (slr false 1 Af)) v) := by
 refine A7 Agu (Nat.le_of_ble_eq_true rfl) ?_
 unfold I1 at h
 conv => whnf
 refine Len.map ?_
 conv => whnf
 refine LoopQ.o [5, 0, 1] (Ko lists0 l0) (Qy lists0 l0) h (fun s o h => Z3 s o h) (by first | rfl | simp [restrict, look, Aa, V.fz, fzL, V.up, upL, Ab, Ac, Ad, slr]) (fun _ => rfl) ?_
 rintro q14_5 h
 try dsimp only at h
 conv => whnf
 refine BslQ.o (slr true 1 Af) (A9 (List Int)) (by exact fun _ => ⟨rfl, rfl⟩) (by first | rfl | simp only [Aa, V.fz, fzL, V.up, upL, Ab, Ac, Ad, slr, List.cons_append, List.nil_append] | simp [Aa, V.fz, fzL, V.up, upL, Ab, Ac, Ad, slr]) ?_
 conv => whnf
 refine SlcQ.o (slr false 1 Af) h fun h => ?_
 conv => whnf
 refine AppQ.o (m := 1) (slr false 1 Af) (by exact fun _ => ⟨rfl, rfl⟩) (A9 (List Int)) (List.take (q14_5.toNat - Int.toNat (0 : Int)) (List.drop (Int.toNat (0 : Int)) lists0)) (by first | rfl | simp only [Aa, V.fz, fzL, V.up, upL, Ab, Ac, Ad, slr, List.cons_append, List.nil_append] | simp [Aa, V.fz, fzL, V.up, upL, Ab, Ac, Ad, slr]) (by first | rfl | simp only [Aa, V.fz, fzL, V.up, upL, Ab, Ac, Ad, slr, List.cons_append, List.nil_append] | simp [Aa, V.fz, fzL, V.up, upL, Ab, Ac, Ad, slr]) h fun h => ?_
 conv => whnf
 refine BslQ.o (slr false 1 Af) [l0] (by exact fun _ => ⟨rfl, rfl⟩) (by first | rfl | simp only [Aa, V.fz, fzL, V.up, upL, Ab, Ac, Ad, slr, List.cons_append, List.nil_append] | simp [Aa, V.fz, fzL, V.up, upL, Ab, Ac, Ad, slr]) ?_
 conv => whnf
 refine NoOwn.o (fun _ => rfl) ?_
 conv => whnf
 refine AppQ.o (m := 1) (slr false 1 Af) (by exact fun _ => ⟨rfl, rfl⟩) (A9 (List Int) ++ List.take (q14_5.toNat - Int.toNat (0 : Int)) (List.drop (Int.toNat (0 : Int)) lists0)) ([l0]) (by first | rfl | simp only [Aa, V.fz, fzL, V.up, upL, Ab, Ac, Ad, slr, List.cons_append, List.nil_append] | simp [Aa, V.fz, fzL, V.up, upL, Ab, Ac, Ad, slr]) (by first | rfl | simp only [Aa, V.fz, fzL, V.up, upL, Ab, Ac, Ad, slr, List.cons_append, List.nil_append] | simp [Aa, V.fz, fzL, V.up, upL, Ab, Ac, Ad, slr]) h fun h => ?_
 conv => whnf
 refine Len.map ?_
 conv => whnf
 refine SlcQ.o (slr false 1 Af) h fun h => ?_
 conv => whnf
 refine AppQ.o (m := 1) (slr false 1 Af) (by exact fun _ => ⟨rfl, rfl⟩) (A9 (List Int) ++ List.take (q14_5.toNat - Int.toNat (0 : Int)) (List.drop (Int.toNat (0 : Int)) lists0) ++ [l0]) (List.take ((↑lists0.length : Int).toNat - q14_5.toNat) (List.drop q14_5.toNat lists0)) (by first | rfl | simp only [Aa, V.fz, fzL, V.up, upL, Ab, Ac, Ad, slr, List.cons_append, List.nil_append] | simp [Aa, V.fz, fzL, V.up, upL, Ab, Ac, Ad, slr]) (by first | rfl | simp only [Aa, V.fz, fzL, V.up, upL, Ab, Ac, Ad, slr, List.cons_append, List.nil_append] | simp [Aa, V.fz, fzL, V.up, upL, Ab, Ac, Ad, slr]) h fun h => ?_
 conv => whnf
 cases h; exact (by first | rfl | simp only [Ag, Aa, V.fz, fzL, V.up, upL, Ab, Ac, Ad, slr] | simp [Ag, Aa, V.fz, fzL, V.up, upL, Ab, Ac, Ad, slr])
noncomputable def Ei (c0 : Sl1Cur) (n0 : Int) : Option (Bool × Sl1Cur) :=
 (A3 (c0) (n0)).bind fun (r1, u2) =>
 some (r1 == (0 : Int), u2)
theorem Qt {c0 : Sl1Cur} {n0 : Int} {v : (Bool × Sl1Cur)} (h : Ei c0 n0 = some v) : Vm Try.prog Hx [(rP true (Aj false)) c0, Af n0] (V.bool v.1) 0 ((rP true (Aj false)) v.2) := by
 refine N8 Y7 (Nat.le_of_ble_eq_true rfl) ?_
 unfold Ei at h
 conv => whnf
 refine CallQ.io Af (rP true (Aj false)) (by first | rfl | simp only [Aa, V.fz, fzL, V.up, upL, Ab, Ac, Ad, slr, List.cons_append, List.nil_append] | simp [Aa, V.fz, fzL, V.up, upL, Ab, Ac, Ad, slr]) rfl (fun _ => rfl) (fun _ => ⟨rfl, rfl⟩) rfl h (fun r h => Bd h) (fun r1 u2 h => ?_)
 conv => whnf
 cases h; exact ⟨(by first | rfl | simp only [Ag, Aa, V.fz, fzL, V.up, upL, Ab, Ac, Ad, slr] | simp [Ag, Aa, V.fz, fzL, V.up, upL, Ab, Ac, Ad, slr]), (by first | rfl | simp only [Ag, Aa, V.fz, fzL, V.up, upL, Ab, Ac, Ad, slr] | simp [Ag, Aa, V.fz, fzL, V.up, upL, Ab, Ac, Ad, slr])⟩
noncomputable def A2 (c0 : Sl1Cur) (list0 : (List Int)) : Option (Int × Sl1Cur) :=
 (A3 (c0) ((↑list0.length : Int))).bind fun (r1, u2) =>
 ask ((0 : Int) ≤ r1 ∧ r1 < (↑list0.length : Int)) <|
 some (nth list0 r1.toNat, u2)
theorem Bf {c0 : Sl1Cur} {list0 : (List Int)} {v : (Int × Sl1Cur)} (h : A2 c0 list0 = some v) : Vm Try.prog Bb [(rP true (Aj false)) c0, (slr false 1 Af) list0] (Af v.1) 0 ((rP true (Aj false)) v.2) := by
 refine N8 Wm (Nat.le_of_ble_eq_true rfl) ?_
 unfold A2 at h
 conv => whnf
 refine Len.map ?_
 conv => whnf
 refine CallQ.io Af (rP true (Aj false)) (by first | rfl | simp only [Aa, V.fz, fzL, V.up, upL, Ab, Ac, Ad, slr, List.cons_append, List.nil_append] | simp [Aa, V.fz, fzL, V.up, upL, Ab, Ac, Ad, slr]) rfl (fun _ => rfl) (fun _ => ⟨rfl, rfl⟩) rfl h (fun r h => Bd h) (fun r1 u2 h => ?_)
 conv => whnf
 refine Len.map ?_
 conv => whnf
 refine Ask.o h fun p3 h => ?_
 conv => whnf
 refine Elem.o (by first | omega | (simp [Au] at *; omega)) ?_
 conv => whnf
 cases h; exact ⟨(by first | rfl | simp only [Ag, Aa, V.fz, fzL, V.up, upL, Ab, Ac, Ad, slr] | simp [Ag, Aa, V.fz, fzL, V.up, upL, Ab, Ac, Ad, slr]), (by first | rfl | simp only [Ag, Aa, V.fz, fzL, V.up, upL, Ab, Ac, Ad, slr] | simp [Ag, Aa, V.fz, fzL, V.up, upL, Ab, Ac, Ad, slr])⟩
noncomputable def C5 (a0 : SAlgebra) (some0 : (List Int)) : Option (List Int) :=
 (F9 (some0) (a0.Size)).bind fun r1 =>
 (Fh (a0) (r1)).bind fun r2 =>
 (Ee (r2)).bind fun r3 =>
 some r3
theorem Mk {a0 : SAlgebra} {some0 : (List Int)} {v : (List Int)} (h : C5 a0 some0 = some v) : Ret Try.prog Gp [(Ah false) a0, (slr false 1 Af) some0] ((slr true 1 Af) v) := by
 refine A7 Ab1 (Nat.le_of_ble_eq_true rfl) ?_
 unfold C5 at h
 conv => whnf
 refine Cells.lit rfl rfl ?_
 conv => whnf
 refine Cells.lit rfl rfl ?_
 conv => whnf
 refine CallP.o (slr true 1 V.bool) (by first | rfl | simp only [Aa, V.fz, fzL, V.up, upL, Ab, Ac, Ad, slr, List.cons_append, List.nil_append] | simp [Aa, V.fz, fzL, V.up, upL, Ab, Ac, Ad, slr]) h (fun r h => Y3 h) (fun r1 h => ?_)
 conv => whnf
 refine CallQ.give (slr true 1 V.bool) (by first | rfl | simp only [Aa, V.fz, fzL, V.up, upL, Ab, Ac, Ad, slr, List.cons_append, List.nil_append] | simp [Aa, V.fz, fzL, V.up, upL, Ab, Ac, Ad, slr]) rfl (fun _ => rfl) rfl h (fun r h => X1 h) (fun r2 h => ?_)
 conv => whnf
 refine CallQ.rd (slr true 1 Af) (by first | rfl | simp only [V.fz, Ab, slr] | simp [Aa, V.fz, fzL, V.up, upL, Ab, Ac, Ad, slr]) (fun _ => by simp [V.noFz, Bo]) h (fun r h => O9 h) (fun r3 h => ?_)
 conv => whnf
 cases h; exact (by first | rfl | simp only [Ag, Aa, V.fz, fzL, V.up, upL, Ab, Ac, Ad, slr] | simp [Ag, Aa, V.fz, fzL, V.up, upL, Ab, Ac, Ad, slr])
noncomputable def Fg (a0 : SAlgebra) : (Int × (List Bool)) → Option ((Int × (List Bool)) ⊕ (List Bool)) := fun (x6, x5) =>
 if x6 ≤ a0.Size then
 (Fl (a0) (x5)).bind fun r3 =>
 ask (InI (x6 + (1 : Int))) <|
 some (.inl (x6 + (1 : Int), r3))
 else
 some (.inr x5)
def Jp (a0 : SAlgebra) : (Int × (List Bool)) → St := fun s => [(6, A.val (Af s.1)), (5, A.val ((slr true 1 V.bool) s.2)), (2, A.val ((rP true (Ah false)) (a0)))]
def N7 (_a0 : SAlgebra) : (List Bool) → Tgt
 | s => ((Ex.exit 0), [5], [(5, A.val ((slr true 1 V.bool) s))])
theorem Xf {a0 : SAlgebra} (s : (Int × (List Bool))) (o : (Int × (List Bool)) ⊕ (List Bool)) (h : Fg a0 s = some o) : vc Try.prog On (Dl [6, 5, 2] (Jp a0) (N7 a0) o) (Jp a0 s) := by
 obtain ⟨x6, x5⟩ := s
 unfold Fg at h
 try dsimp only at h
 conv => whnf
 refine Cells.lit rfl rfl ?_
 conv => whnf
 refine Br.od h (fun p2 h => ?_) (fun p2 h => ?_)
 ·conv => whnf
  refine Cells.lit rfl rfl ?_
  conv => whnf
  refine CallQ.rd (slr true 1 V.bool) (by first | rfl | simp only [V.fz, fzL, Ab, slr] | simp [Aa, V.fz, fzL, V.up, upL, Ab, Ac, Ad, slr]) (fun _ => by simp [V.noFz, Bo]) h (fun r h => V7 h) (fun r3 h => ?_)
  conv => whnf
  refine Ask.o h fun p4 h => ?_
  conv => whnf
  cases h; exact ⟨rfl, rfl⟩
 conv => whnf
 cases h; exact ⟨rfl, rfl⟩
noncomputable def Dq (a0 : SAlgebra) (some0 : (List Int)) : Option (List Int) :=
 (Ji (a0.Size) (some0)).bind fun r1 =>
 (Ap (Fg a0) ((0 : Int), r1)).bind fun q5_5 =>
 (Gu (q5_5)).bind fun r6 =>
 some r6
theorem N0 {a0 : SAlgebra} {some0 : (List Int)} {v : (List Int)} (h : Dq a0 some0 = some v) : Ret Try.prog Hr [(Ah false) a0, (slr false 1 Af) some0] ((slr true 1 Af) v) := by
 refine A7 Acl (Nat.le_of_ble_eq_true rfl) ?_
 unfold Dq at h
 conv => whnf
 refine Cells.lit rfl rfl ?_
 conv => whnf
 refine CallQ.o (slr true 1 V.bool) (by first | rfl | simp only [Aa, V.fz, fzL, V.up, upL, Ab, Ac, Ad, slr, List.cons_append, List.nil_append] | simp [Aa, V.fz, fzL, V.up, upL, Ab, Ac, Ad, slr]) h (fun r h => Aaw h) (fun r1 h => ?_)
 conv => whnf
 refine LoopQ.o [6, 5, 2] (Jp a0) (N7 a0) h (fun s o h => Xf s o h) (by first | rfl | simp [restrict, look, Aa, V.fz, fzL, V.up, upL, Ab, Ac, Ad, slr]) (fun _ => rfl) ?_
 rintro q5_5 h
 try dsimp only at h
 conv => whnf
 refine CallQ.rd (slr true 1 Af) (by first | rfl | simp only [V.fz, Ab, slr] | simp [Aa, V.fz, fzL, V.up, upL, Ab, Ac, Ad, slr]) (fun _ => by simp [V.noFz, Bo]) h (fun r h => V1 h) (fun r6 h => ?_)
 conv => whnf
 cases h; exact (by first | rfl | simp only [Ag, Aa, V.fz, fzL, V.up, upL, Ab, Ac, Ad, slr] | simp [Ag, Aa, V.fz, fzL, V.up, upL, Ab, Ac, Ad, slr])
noncomputable def Cf (a0 : SAlgebra) : Int → Option (Int ⊕ (Unit ⊕ Unit)) := fun x22 =>
 if x22 < (↑a0.Ops.length : Int) then
 ask ((0 : Int) ≤ x22 ∧ x22 < (↑a0.Ops.length : Int)) <|
 (Lu (nth a0.Ops x22.toNat) (a0.Size)).bind fun r7 =>
 if (r7) = true then
 ask (InI (x22 + (1 : Int))) <|
 some (.inl (x22 + (1 : Int)))
 else
 some (.inr (.inl ()))
 else
 some (.inr (.inr ()))
def Ij (a0 : SAlgebra) : Int → St := fun s => [(22, A.val (Af s)), (21, A.val (Af ((↑a0.Ops.length : Int)))), (20, A.val ((slr false 2 (A4 false)) (a0.Ops))), (1, A.val ((rP true (Ah false)) (a0)))]
def Mm (_a0 : SAlgebra) : (Unit ⊕ Unit) → Tgt
 | (.inl _s) => (Ex.ret, [2], [(2, A.val (V.bool (false)))])
 | (.inr _s) => ((Ex.exit 0), [], [])
theorem Vq {a0 : SAlgebra} (x22 : Int) (o : Int ⊕ (Unit ⊕ Unit)) (h : Cf a0 x22 = some o) : vc Try.prog Mn (Dl [22, 21, 20, 1] (Ij a0) (Mm a0) o) (Ij a0 x22) := by
 unfold Cf at h
 try dsimp only at h
 conv => whnf
 refine Br.od h (fun p5 h => ?_) (fun p5 h => ?_)
 ·conv => whnf
  refine Len.map ?_
  conv => whnf
  refine Ask.o h fun p6 h => ?_
  conv => whnf
  refine Elem.o (by first | omega | (simp [Au] at *; omega)) ?_
  conv => whnf
  refine SetKids.lit rfl ?_
  conv => whnf
  refine Cells.lit rfl rfl ?_
  conv => whnf
  refine Cells.lit rfl rfl ?_
  conv => whnf
  refine CallQ.o V.bool (by first | rfl | simp only [Aa, V.fz, fzL, V.up, upL, Ab, Ac, Ad, slr, List.cons_append, List.nil_append] | simp [Aa, V.fz, fzL, V.up, upL, Ab, Ac, Ad, slr]) h (fun r h => Alg h) (fun r7 h => ?_)
  conv => whnf
  refine Br.flip ?_
  conv => whnf
  refine Br.ob h (fun p8 h => ?_) (fun p8 h => ?_)
  ·conv => whnf
   refine Ask.o h fun p9 h => ?_
   conv => whnf
   cases h; exact ⟨rfl, rfl⟩
  conv => whnf
  cases h; exact ⟨rfl, rfl⟩
 conv => whnf
 cases h; exact ⟨rfl, rfl⟩
noncomputable def Cr (a0 : SAlgebra) : Option Bool :=
 ((if a0.Size < (1 : Int) then
 some (.inl ())
 else
 if a0.Size > (8 : Int) then
 some (.inl ())
 else
 if (↑a0.Ops.length : Int) > (4 : Int) then
 some (.inl ())
 else
 some (.inr ()) : Option (Unit ⊕ Unit))).bind fun t => match t with
 | (.inl _) => (some false)
 | (.inr _) => ((Ap (Cf a0) (0 : Int)).bind fun t => match t with
 | (.inl _) => (some false)
 | (.inr _) => (some true))
theorem H6 {a0 : SAlgebra} {v : Bool} (h : Cr a0 = some v) : Ret Try.prog Ej [(Ah false) a0] (V.bool v) := by
 refine A7 Zw (Nat.le_of_ble_eq_true rfl) ?_
 unfold Cr at h
 conv => whnf
 refine CutQ.o (fun t : (Unit ⊕ Unit) => match t with | (.inl s) => (Ex.ret, [2], [(2, A.val (V.bool (false)))]) | (.inr s) => (Ex.normal, [1], [(1, A.val ((rP true (Ah false)) (a0)))])) h ?_ ?_
 ·intro t h
  conv => whnf
  refine Cells.lit rfl rfl ?_
  conv => whnf
  refine Br.od h (fun p1 h => ?_) (fun p1 h => ?_)
  ·conv => whnf
   refine Br.yes ?_
   conv => whnf
   refine Br.yes ?_
   conv => whnf
   refine Br.yes ?_
   conv => whnf
   refine Br.yes ?_
   conv => whnf
   refine Br.yes ?_
   conv => whnf
   refine Br.yes ?_
   conv => whnf
   refine Br.yes ?_
   conv => whnf
   refine Br.yes ?_
   conv => whnf
   refine Br.yes ?_
   conv => whnf
   cases h; exact ⟨rfl, rfl⟩
  conv => whnf
  refine Br.no ?_
  conv => whnf
  refine Cells.lit rfl rfl ?_
  conv => whnf
  refine Br.no ?_
  conv => whnf
  refine Br.no ?_
  conv => whnf
  refine Br.od h (fun p2 h => ?_) (fun p2 h => ?_)
  ·conv => whnf
   refine Br.yes ?_
   conv => whnf
   refine Br.yes ?_
   conv => whnf
   refine Br.yes ?_
   conv => whnf
   refine Br.yes ?_
   conv => whnf
   refine Br.yes ?_
   conv => whnf
   cases h; exact ⟨rfl, rfl⟩
  conv => whnf
  refine Br.no ?_
  conv => whnf
  refine Cells.lit rfl rfl ?_
  conv => whnf
  refine Br.no ?_
  conv => whnf
  refine Len.map ?_
  conv => whnf
  refine Br.no ?_
  conv => whnf
  refine Br.no ?_
  conv => whnf
  refine Br.od h (fun p3 h => ?_) (fun p3 h => ?_)
  ·conv => whnf
   cases h; exact ⟨rfl, rfl⟩
  conv => whnf
  cases h; exact ⟨rfl, rfl⟩
 rintro (⟨⟩ | ⟨⟩) h
 ·try dsimp only at h
  conv => whnf
  cases h; exact (by first | rfl | simp only [Ag, Aa, V.fz, fzL, V.up, upL, Ab, Ac, Ad, slr] | simp [Ag, Aa, V.fz, fzL, V.up, upL, Ab, Ac, Ad, slr])
 try dsimp only at h
 conv => whnf
 refine Cells.lit rfl rfl ?_
 conv => whnf
 refine Len.map ?_
 conv => whnf
 refine LoopQ.o [22, 21, 20, 1] (Ij a0) (Mm a0) h (fun s o h => Vq s o h) (by first | rfl | simp [restrict, look, Aa, V.fz, fzL, V.up, upL, Ab, Ac, Ad, slr]) (by rintro (_ | _) <;> rfl) ?_
 rintro (⟨⟩ | ⟨⟩) h
 ·try dsimp only at h
  conv => whnf
  cases h; exact (by first | rfl | simp only [Ag, Aa, V.fz, fzL, V.up, upL, Ab, Ac, Ad, slr] | simp [Ag, Aa, V.fz, fzL, V.up, upL, Ab, Ac, Ad, slr])
 try dsimp only at h
 conv => whnf
 cases h; exact (by first | rfl | simp only [Ag, Aa, V.fz, fzL, V.up, upL, Ab, Ac, Ad, slr] | simp [Ag, Aa, V.fz, fzL, V.up, upL, Ab, Ac, Ad, slr])
end Go.Proofs.Ytidaaijecmkndaa.Ax
