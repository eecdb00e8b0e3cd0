/-
 What the functions compute, as functions on plain data, and that the program does compute it; written by program.
-/
import Derived.Test.YtidaaijecmkndaaCode
import Derived.Test.YtidaaijecmkndaaG1
import Derived.Test.YtidaaijecmkndaaG2
import Derived.Test.YtidaaijecmkndaaG3
import Derived.Test.YtidaaijecmkndaaG4
namespace Go.Proofs.Ytidaaijecmkndaa.Ax
open Go
set_option maxRecDepth 100000
set_option maxHeartbeats 4000000
noncomputable def Cw (a0 : SAlgebra) (x14 : Int) : (Int × Bool × (List Bool)) → Option ((Int × Bool × (List Bool)) ⊕ (Bool × (List Bool))) := fun (x21, x5'', x47'') =>
 if x21 < (↑(nth a0.Ops x14.toNat).Table.length : Int) then
 ask ((0 : Int) ≤ x21 ∧ x21 < (↑(nth a0.Ops x14.toNat).Table.length : Int)) <|
 ask ((0 : Int) ≤ nth (nth a0.Ops x14.toNat).Table x21.toNat ∧ nth (nth a0.Ops x14.toNat).Table x21.toNat < (↑x47''.length : Int)) <|
 if (nth x47'' (nth (nth a0.Ops x14.toNat).Table x21.toNat).toNat) = true then
 ask (InI (x21 + (1 : Int))) <|
 some (.inl (x21 + (1 : Int), x5'', x47''))
 else
 (Kc (x21) ((nth a0.Ops x14.toNat).Arity) (a0.Size) (x47'')).bind fun r9 =>
 if (r9) = true then
 ask ((0 : Int) ≤ nth (nth a0.Ops x14.toNat).Table x21.toNat ∧ nth (nth a0.Ops x14.toNat).Table x21.toNat < (↑x47''.length : Int)) <|
 ask (InI (x21 + (1 : Int))) <|
 some (.inl (x21 + (1 : Int), true, x47''.set (nth (nth a0.Ops x14.toNat).Table x21.toNat).toNat true))
 else
 ask (InI (x21 + (1 : Int))) <|
 some (.inl (x21 + (1 : Int), x5'', x47''))
 else
 some (.inr (x5'', x47''))
def Hi (a0 : SAlgebra) (x14 : Int) : (Int × Bool × (List Bool)) → St := fun s => [(21, A.val (Af s.1)), (20, A.val (Af ((↑(nth a0.Ops x14.toNat).Table.length : Int)))), (19, A.val ((slr false 1 Af) ((nth a0.Ops x14.toNat).Table))), (7, A.val ((rP true (A6 false)) (nth a0.Ops x14.toNat))), (14, A.val (Af (x14))), (13, A.val (Af ((↑a0.Ops.length : Int)))), (12, A.val ((slr false 2 (A6 false)) (a0.Ops))), (5, A.val (V.bool s.2.1)), (2, A.val ((rP true (Ag false)) (a0))), (1, A.ref 47 []), (47, A.val ((slr true 1 V.bool) s.2.2))]
def Mo (a0 : SAlgebra) (x14 : Int) : (Bool × (List Bool)) → Tgt
 | s => ((Ex.exit 4), [14, 13, 12, 5, 2, 1, 47], [(14, A.val (Af (x14))), (13, A.val (Af ((↑a0.Ops.length : Int)))), (12, A.val ((slr false 2 (A6 false)) (a0.Ops))), (5, A.val (V.bool s.1)), (2, A.val ((rP true (Ag false)) (a0))), (1, A.ref 47 []), (47, A.val ((slr true 1 V.bool) s.2))])
theorem Uw {a0 : SAlgebra} {x14 : Int} (s : (Int × Bool × (List Bool))) (o : (Int × Bool × (List Bool)) ⊕ (Bool × (List Bool))) (h : Cw a0 x14 s = some o) : vc Try.prog Md (C0 [21, 20, 19, 7, 14, 13, 12, 5, 2, 1, 47] (Hi a0 x14) (Mo a0 x14) o) (Hi a0 x14 s) := by
 obtain ⟨x21, x5'', x47''⟩ := s
 unfold Cw at h
 try dsimp only at h
 conv => whnf
 refine Br.od h (fun p4 h => ?_) (fun p4 h => ?_)
 ·conv => whnf
  refine Len.map ?_
  conv => whnf
  refine Ask.o h fun p5 h => ?_
  conv => whnf
  refine Elem.o (by first | omega | (simp [As] at *; omega)) ?_
  conv => whnf
  refine Len.map ?_
  conv => whnf
  refine Ask.o h fun p6 h => ?_
  conv => whnf
  refine Cells.one (fun _ => ⟨rfl, rfl⟩) (by first | omega | (simp [As] at *; omega)) ?_
  conv => whnf
  refine Br.flip ?_
  conv => whnf
  refine Br.ob h (fun p7 h => ?_) (fun p7 h => ?_)
  ·conv => whnf
   refine Br.no ?_
   conv => whnf
   refine Br.no ?_
   conv => whnf
   refine Br.no ?_
   conv => whnf
   refine Br.no ?_
   conv => whnf
   refine Br.no ?_
   conv => whnf
   refine Br.no ?_
   conv => whnf
   refine Br.no ?_
   conv => whnf
   refine Br.no ?_
   conv => whnf
   refine Ask.o h fun p8 h => ?_
   conv => whnf
   cases h; exact ⟨rfl, rfl⟩
  conv => whnf
  refine Br.yes ?_
  conv => whnf
  refine Br.yes ?_
  conv => whnf
  refine Cells.lit rfl rfl ?_
  conv => whnf
  refine Br.yes ?_
  conv => whnf
  refine Br.yes ?_
  conv => whnf
  refine Cells.lit rfl rfl ?_
  conv => whnf
  refine Br.yes ?_
  conv => whnf
  refine Br.yes ?_
  conv => whnf
  refine CallQ.rd V.bool (by first | rfl | simp only [V.fz, V.up, Ab, Ad, slr] | simp [Aa, V.fz, fzL, V.up, upL, Ab, Ac, Ad, slr]) (fun _ => rfl) h (fun r h => Ai6 h) (fun r9 h => ?_)
  conv => whnf
  refine Br.yes ?_
  conv => whnf
  refine Br.ob h (fun p10 h => ?_) (fun p10 h => ?_)
  ·conv => whnf
   refine Len.map ?_
   conv => whnf
   refine Ask.o h fun p11 h => ?_
   conv => whnf
   refine SetKids.one (fun _ => ⟨rfl, rfl⟩) (true) (by first | rfl | simp only [Aa, V.fz, fzL, V.up, upL, Ab, Ac, Ad, slr, List.cons_append, List.nil_append] | simp [Aa, V.fz, fzL, V.up, upL, Ab, Ac, Ad, slr]) (by first | omega | (simp [As] at *; omega)) ?_
   conv => whnf
   refine Ask.o h fun p12 h => ?_
   conv => whnf
   cases h; exact ⟨rfl, rfl⟩
  conv => whnf
  refine Ask.o h fun p13 h => ?_
  conv => whnf
  cases h; exact ⟨rfl, rfl⟩
 conv => whnf
 cases h; exact ⟨rfl, rfl⟩
noncomputable def Ct (a0 : SAlgebra) : (Int × Bool × (List Bool)) → Option ((Int × Bool × (List Bool)) ⊕ (Bool × (List Bool))) := fun (x14, x5', x47') =>
 if x14 < (↑a0.Ops.length : Int) then
 ask ((0 : Int) ≤ x14 ∧ x14 < (↑a0.Ops.length : Int)) <|
 (Am (Cw a0 x14) ((0 : Int), x5', x47')).bind fun (q14_5, q14_47) =>
 ask (InI (x14 + (1 : Int))) <|
 some (.inl (x14 + (1 : Int), q14_5, q14_47))
 else
 some (.inr (x5', x47'))
def Hk (a0 : SAlgebra) : (Int × Bool × (List Bool)) → St := fun s => [(14, A.val (Af s.1)), (13, A.val (Af ((↑a0.Ops.length : Int)))), (12, A.val ((slr false 2 (A6 false)) (a0.Ops))), (5, A.val (V.bool s.2.1)), (2, A.val ((rP true (Ag false)) (a0))), (1, A.ref 47 []), (47, A.val ((slr true 1 V.bool) s.2.2))]
def Mk (a0 : SAlgebra) : (Bool × (List Bool)) → Tgt
 | s => ((Ex.exit 2), [5, 2, 1, 47], [(5, A.val (V.bool s.1)), (2, A.val ((rP true (Ag false)) (a0))), (1, A.ref 47 []), (47, A.val ((slr true 1 V.bool) s.2))])
theorem Vh {a0 : SAlgebra} (s : (Int × Bool × (List Bool))) (o : (Int × Bool × (List Bool)) ⊕ (Bool × (List Bool))) (h : Ct a0 s = some o) : vc Try.prog Mr (C0 [14, 13, 12, 5, 2, 1, 47] (Hk a0) (Mk a0) o) (Hk a0 s) := by
 obtain ⟨x14, x5', x47'⟩ := s
 unfold Ct at h
 try dsimp only at h
 conv => whnf
 refine Br.od h (fun p2 h => ?_) (fun p2 h => ?_)
 ·conv => whnf
  refine Len.map ?_
  conv => whnf
  refine Ask.o h fun p3 h => ?_
  conv => whnf
  refine Elem.o (by first | omega | (simp [As] at *; omega)) ?_
  conv => whnf
  refine SetKids.lit rfl ?_
  conv => whnf
  refine Cells.lit rfl rfl ?_
  conv => whnf
  refine Len.map ?_
  conv => whnf
  refine LoopQ.o [21, 20, 19, 7, 14, 13, 12, 5, 2, 1, 47] (Hi a0 x14) (Mo a0 x14) h (fun s o h => Uw s o h) (by first | rfl | simp [restrict, look, Aa, V.fz, fzL, V.up, upL, Ab, Ac, Ad, slr]) (fun _ => rfl) ?_
  rintro ⟨q14_5, q14_47⟩ h
  try dsimp only at h
  conv => whnf
  refine Ask.o h fun p15 h => ?_
  conv => whnf
  cases h; exact ⟨rfl, rfl⟩
 conv => whnf
 cases h; exact ⟨rfl, rfl⟩
noncomputable def Dt (a0 : SAlgebra) : (Bool × (List Bool)) → Option ((Bool × (List Bool)) ⊕ (List Bool)) := fun (x5, x47) =>
 if (x5) = true then
 (Am (Ct a0) ((0 : Int), false, x47)).bind fun (q16_5, q16_47) =>
 some (.inl (q16_5, q16_47))
 else
 some (.inr x47)
def Hh (a0 : SAlgebra) : (Bool × (List Bool)) → St := fun s => [(5, A.val (V.bool s.1)), (2, A.val ((rP true (Ag false)) (a0))), (1, A.ref 47 []), (47, A.val ((slr true 1 V.bool) s.2))]
def Ml (_a0 : SAlgebra) : (List Bool) → Tgt
 | s => ((Ex.exit 0), [1, 47], [(1, A.ref 47 []), (47, A.val ((slr true 1 V.bool) s))])
theorem Vv {a0 : SAlgebra} (s : (Bool × (List Bool))) (o : (Bool × (List Bool)) ⊕ (List Bool)) (h : Dt a0 s = some o) : vc Try.prog Mh (C0 [5, 2, 1, 47] (Hh a0) (Ml a0) o) (Hh a0 s) := by
 obtain ⟨x5, x47⟩ := s
 unfold Dt at h
 try dsimp only at h
 conv => whnf
 refine Br.ob h (fun p1 h => ?_) (fun p1 h => ?_)
 ·conv => whnf
  refine Cells.lit rfl rfl ?_
  conv => whnf
  refine Len.map ?_
  conv => whnf
  refine LoopQ.o [14, 13, 12, 5, 2, 1, 47] (Hk a0) (Mk a0) h (fun s o h => Vh s o h) (by first | rfl | simp [restrict, look, Aa, V.fz, fzL, V.up, upL, Ab, Ac, Ad, slr]) (fun _ => rfl) ?_
  rintro ⟨q16_5, q16_47⟩ h
  try dsimp only at h
  conv => whnf
  cases h; exact ⟨rfl, rfl⟩
 conv => whnf
 cases h; exact ⟨rfl, rfl⟩
noncomputable def Fl (a0 : SAlgebra) (have0 : (List Bool)) : Option (List Bool) :=
 (Am (Dt a0) (true, have0)).bind fun q17_47 =>
 some q17_47
theorem Y0 {a0 : SAlgebra} {have0 : (List Bool)} {v : (List Bool)} (h : Fl a0 have0 = some v) : Ac8 Try.prog J6 [(Ag false) a0, (slr true 1 V.bool) have0] ((slr true 1 V.bool) v) 1 V.dead := by
 refine Wk Z3 (Nat.le_of_ble_eq_true rfl) ?_
 unfold Fl at h
 conv => whnf
 refine LoopQ.o [5, 2, 1, 47] (Hh a0) (Ml a0) h (fun s o h => Vv s o h) (by first | rfl | simp [restrict, look, Aa, V.fz, fzL, V.up, upL, Ab, Ac, Ad, slr]) (fun _ => rfl) ?_
 rintro q17_47 h
 try dsimp only at h
 conv => whnf
 cases h; exact ⟨(by first | rfl | simp only [Ah, Aa, V.fz, fzL, V.up, upL, Ab, Ac, Ad, slr] | simp [Ah, Aa, V.fz, fzL, V.up, upL, Ab, Ac, Ad, slr]), (by first | rfl | simp only [Ah, Aa, V.fz, fzL, V.up, upL, Ab, Ac, Ad, slr] | simp [Ah, Aa, V.fz, fzL, V.up, upL, Ab, Ac, Ad, slr])⟩
noncomputable def Cr (l0 : List Int) (lo0 : Int) (hi0 : Int) : Int → Option (Int ⊕ (Unit ⊕ Unit)) := fun x7 =>
 if x7 < (↑l0.length : Int) then
 ask ((0 : Int) ≤ x7 ∧ x7 < (↑l0.length : Int)) <|
 (Gm (nth l0 x7.toNat) (lo0) (hi0)).bind fun r3 =>
 if (r3) = true then
 if x7 > (0 : Int) then
 ask (InI (x7 - (1 : Int))) <|
 ask ((0 : Int) ≤ x7 - (1 : Int) ∧ x7 - (1 : Int) < (↑l0.length : Int)) <|
 ask ((0 : Int) ≤ x7 ∧ x7 < (↑l0.length : Int)) <|
 if nth l0 (x7 - (1 : Int)).toNat ≥ nth l0 x7.toNat then
 some (.inr (.inl ()))
 else
 ask (InI (x7 + (1 : Int))) <|
 some (.inl (x7 + (1 : Int)))
 else
 ask (InI (x7 + (1 : Int))) <|
 some (.inl (x7 + (1 : Int)))
 else
 some (.inr (.inl ()))
 else
 some (.inr (.inr ()))
def I8 (l0 : List Int) (lo0 : Int) (hi0 : Int) : Int → St := fun s => [(7, A.val (Af s)), (0, A.val ((slr false 1 Af) (l0))), (1, A.val (Af (lo0))), (2, A.val (Af (hi0)))]
def Oa (_l0 : List Int) (_lo0 : Int) (_hi0 : Int) : (Unit ⊕ Unit) → Tgt
 | (.inl _s) => (Ex.ret, [6], [(6, A.val (V.bool (false)))])
 | (.inr _s) => ((Ex.exit 0), [], [])
theorem Xx {l0 : List Int} {lo0 : Int} {hi0 : Int} (x7 : Int) (o : Int ⊕ (Unit ⊕ Unit)) (h : Cr l0 lo0 hi0 x7 = some o) : vc Try.prog Oe (C0 [7, 0, 1, 2] (I8 l0 lo0 hi0) (Oa l0 lo0 hi0) o) (I8 l0 lo0 hi0 x7) := by
 unfold Cr at h
 try dsimp only at h
 conv => whnf
 refine Len.map ?_
 conv => whnf
 refine Br.od h (fun p1 h => ?_) (fun p1 h => ?_)
 ·conv => whnf
  refine Len.map ?_
  conv => whnf
  refine Ask.o h fun p2 h => ?_
  conv => whnf
  refine Elem.o (by first | omega | (simp [As] at *; omega)) ?_
  conv => whnf
  refine CallP.o V.bool (by first | rfl | simp only [Aa, V.fz, fzL, V.up, upL, Ab, Ac, Ad, slr, List.cons_append, List.nil_append] | simp [Aa, V.fz, fzL, V.up, upL, Ab, Ac, Ad, slr]) h (fun r h => Ps h) (fun r3 h => ?_)
  conv => whnf
  refine Br.flip ?_
  conv => whnf
  refine Br.ob h (fun p4 h => ?_) (fun p4 h => ?_)
  ·conv => whnf
   refine Br.no ?_
   conv => whnf
   refine Br.no ?_
   conv => whnf
   refine Br.od h (fun p5 h => ?_) (fun p5 h => ?_)
   ·conv => whnf
    refine Br.yes ?_
    conv => whnf
    refine Br.yes ?_
    conv => whnf
    refine Ask.o h fun p6 h => ?_
    conv => whnf
    refine Br.yes ?_
    conv => whnf
    refine Len.map ?_
    conv => whnf
    refine Ask.o h fun p7 h => ?_
    conv => whnf
    refine Elem.o (by first | omega | (simp [As] at *; omega)) ?_
    conv => whnf
    refine Br.yes ?_
    conv => whnf
    refine Br.yes ?_
    conv => whnf
    refine Br.yes ?_
    conv => whnf
    refine Br.yes ?_
    conv => whnf
    refine Len.map ?_
    conv => whnf
    refine Ask.o h fun p8 h => ?_
    conv => whnf
    refine Elem.o (by first | omega | (simp [As] at *; omega)) ?_
    conv => whnf
    refine Br.yes ?_
    conv => whnf
    refine Br.yes ?_
    conv => whnf
    refine Br.no ?_
    conv => whnf
    refine Br.yes ?_
    conv => whnf
    refine Br.no ?_
    conv => whnf
    refine Br.od h (fun p9 h => ?_) (fun p9 h => ?_)
    ·conv => whnf
     cases h; exact ⟨rfl, rfl⟩
    conv => whnf
    refine Ask.o h fun p10 h => ?_
    conv => whnf
    cases h; exact ⟨rfl, rfl⟩
   conv => whnf
   refine Br.no ?_
   conv => whnf
   refine Br.no ?_
   conv => whnf
   refine Br.no ?_
   conv => whnf
   refine Br.no ?_
   conv => whnf
   refine Br.no ?_
   conv => whnf
   refine Br.no ?_
   conv => whnf
   refine Br.no ?_
   conv => whnf
   refine Br.no ?_
   conv => whnf
   refine Br.no ?_
   conv => whnf
   refine Br.no ?_
   conv => whnf
   refine Br.no ?_
   conv => whnf
   refine Br.no ?_
   conv => whnf
   refine Br.no ?_
   conv => whnf
   refine Ask.o h fun p11 h => ?_
   conv => whnf
   cases h; exact ⟨rfl, rfl⟩
  conv => whnf
  refine Br.yes ?_
  conv => whnf
  refine Br.yes ?_
  conv => whnf
  refine Br.yes ?_
  conv => whnf
  refine Br.yes ?_
  conv => whnf
  refine Br.yes ?_
  conv => whnf
  cases h; exact ⟨rfl, rfl⟩
 conv => whnf
 cases h; exact ⟨rfl, rfl⟩
noncomputable def G1 (l0 : (List Int)) (lo0 : Int) (hi0 : Int) : Option Bool :=
 (Am (Cr l0 lo0 hi0) (0 : Int)).bind fun t => match t with
 | (.inl _) => (some false)
 | (.inr _) => (some true)
theorem Acj {l0 : (List Int)} {lo0 : Int} {hi0 : Int} {v : Bool} (h : G1 l0 lo0 hi0 = some v) : Ret Try.prog M6 [(slr false 1 Af) l0, Af lo0, Af hi0] (V.bool v) := by
 refine A1 Acn (Nat.le_of_ble_eq_true rfl) ?_
 unfold G1 at h
 conv => whnf
 refine LoopQ.o [7, 0, 1, 2] (I8 l0 lo0 hi0) (Oa l0 lo0 hi0) h (fun s o h => Xx s o h) (by first | rfl | simp [restrict, look, Aa, V.fz, fzL, V.up, upL, Ab, Ac, Ad, slr]) (by rintro (_ | _) <;> rfl) ?_
 rintro (⟨⟩ | ⟨⟩) h
 ·try dsimp only at h
  conv => whnf
  cases h; exact (by first | rfl | simp only [Ah, Aa, V.fz, fzL, V.up, upL, Ab, Ac, Ad, slr] | simp [Ah, Aa, V.fz, fzL, V.up, upL, Ab, Ac, Ad, slr])
 try dsimp only at h
 conv => whnf
 cases h; exact (by first | rfl | simp only [Ah, Aa, V.fz, fzL, V.up, upL, Ab, Ac, Ad, slr] | simp [Ah, Aa, V.fz, fzL, V.up, upL, Ab, Ac, Ad, slr])
noncomputable def Gh (lists0 : List (List Int)) (l0 : List Int) : Int → Option (Int ⊕ Int) := fun x5 =>
 if x5 > (0 : Int) then
 ask (InI (x5 - (1 : Int))) <|
 ask ((0 : Int) ≤ x5 - (1 : Int) ∧ x5 - (1 : Int) < (↑lists0.length : Int)) <|
 if (↑l0.length : Int) < (↑(nth lists0 (x5 - (1 : Int)).toNat).length : Int) then
 ask (InI (x5 - (1 : Int))) <|
 some (.inl (x5 - (1 : Int)))
 else
 ask (InI (x5 - (1 : Int))) <|
 ask ((0 : Int) ≤ x5 - (1 : Int) ∧ x5 - (1 : Int) < (↑lists0.length : Int)) <|
 if (↑l0.length : Int) = (↑(nth lists0 (x5 - (1 : Int)).toNat).length : Int) then
 ask (InI (x5 - (1 : Int))) <|
 ask ((0 : Int) ≤ x5 - (1 : Int) ∧ x5 - (1 : Int) < (↑lists0.length : Int)) <|
 (Ft (l0) (nth lists0 (x5 - (1 : Int)).toNat)).bind fun r11 =>
 if (r11) = true then
 ask (InI (x5 - (1 : Int))) <|
 some (.inl (x5 - (1 : Int)))
 else
 some (.inr x5)
 else
 some (.inr x5)
 else
 some (.inr x5)
def L1 (lists0 : List (List Int)) (l0 : List Int) : Int → St := fun s => [(5, A.val (Af s)), (0, A.val ((slr false 1 (slr false 1 Af)) (lists0))), (1, A.val ((slr false 1 Af) (l0)))]
def Rp (lists0 : List (List Int)) (l0 : List Int) : Int → Tgt
 | s => ((Ex.exit 0), [5, 0, 1], [(5, A.val (Af s)), (0, A.val ((slr false 1 (slr false 1 Af)) (lists0))), (1, A.val ((slr false 1 Af) (l0)))])
theorem Aas {lists0 : List (List Int)} {l0 : List Int} (x5 : Int) (o : Int ⊕ Int) (h : Gh lists0 l0 x5 = some o) : vc Try.prog Rj (C0 [5, 0, 1] (L1 lists0 l0) (Rp lists0 l0) o) (L1 lists0 l0 x5) := by
 unfold Gh at h
 try dsimp only at h
 conv => whnf
 refine Br.od h (fun p1 h => ?_) (fun p1 h => ?_)
 ·conv => whnf
  refine Br.yes ?_
  conv => whnf
  refine Len.map ?_
  conv => whnf
  refine Br.yes ?_
  conv => whnf
  refine Br.yes ?_
  conv => whnf
  refine Br.yes ?_
  conv => whnf
  refine Ask.o h fun p2 h => ?_
  conv => whnf
  refine Br.yes ?_
  conv => whnf
  refine Len.map ?_
  conv => whnf
  refine Ask.o h fun p3 h => ?_
  conv => whnf
  refine Elem.o (by first | omega | (simp [As] at *; omega)) ?_
  conv => whnf
  refine Br.yes ?_
  conv => whnf
  refine Br.yes ?_
  conv => whnf
  refine Len.map ?_
  conv => whnf
  refine Br.yes ?_
  conv => whnf
  refine Br.yes ?_
  conv => whnf
  refine Br.od h (fun p4 h => ?_) (fun p4 h => ?_)
  ·conv => whnf
   refine Br.yes ?_
   conv => whnf
   refine Br.yes ?_
   conv => whnf
   refine Br.yes ?_
   conv => whnf
   refine Br.yes ?_
   conv => whnf
   refine Br.yes ?_
   conv => whnf
   refine Br.yes ?_
   conv => whnf
   refine Br.yes ?_
   conv => whnf
   refine Br.yes ?_
   conv => whnf
   refine Br.yes ?_
   conv => whnf
   refine Br.yes ?_
   conv => whnf
   refine Br.yes ?_
   conv => whnf
   refine Br.yes ?_
   conv => whnf
   refine Br.yes ?_
   conv => whnf
   refine Br.yes ?_
   conv => whnf
   refine Ask.o h fun p5 h => ?_
   conv => whnf
   cases h; exact ⟨rfl, rfl⟩
  conv => whnf
  refine Br.no ?_
  conv => whnf
  refine Len.map ?_
  conv => whnf
  refine Br.no ?_
  conv => whnf
  refine Br.no ?_
  conv => whnf
  refine Br.no ?_
  conv => whnf
  refine Ask.o h fun p6 h => ?_
  conv => whnf
  refine Br.no ?_
  conv => whnf
  refine Len.map ?_
  conv => whnf
  refine Ask.o h fun p7 h => ?_
  conv => whnf
  refine Elem.o (by first | omega | (simp [As] at *; omega)) ?_
  conv => whnf
  refine Br.no ?_
  conv => whnf
  refine Br.no ?_
  conv => whnf
  refine Len.map ?_
  conv => whnf
  refine Br.no ?_
  conv => whnf
  refine Br.no ?_
  conv => whnf
  refine Br.oe h (fun p8 h => ?_) (fun p8 h => ?_)
  ·conv => whnf
   refine Br.yes ?_
   conv => whnf
   refine Br.yes ?_
   conv => whnf
   refine Br.yes ?_
   conv => whnf
   refine Ask.o h fun p9 h => ?_
   conv => whnf
   refine Br.yes ?_
   conv => whnf
   refine Len.map ?_
   conv => whnf
   refine Ask.o h fun p10 h => ?_
   conv => whnf
   refine Elem.o (by first | omega | (simp [As] at *; omega)) ?_
   conv => whnf
   refine Br.yes ?_
   conv => whnf
   refine Br.yes ?_
   conv => whnf
   refine CallQ.o V.bool (by first | rfl | simp only [Aa, V.fz, fzL, V.up, upL, Ab, Ac, Ad, slr, List.cons_append, List.nil_append] | simp [Aa, V.fz, fzL, V.up, upL, Ab, Ac, Ad, slr]) h (fun r h => W8 h) (fun r11 h => ?_)
   conv => whnf
   refine Br.no ?_
   conv => whnf
   refine Br.yes ?_
   conv => whnf
   refine Br.yes ?_
   conv => whnf
   refine Br.no ?_
   conv => whnf
   refine Br.yes ?_
   conv => whnf
   refine Br.ob h (fun p12 h => ?_) (fun p12 h => ?_)
   ·conv => whnf
    refine Ask.o h fun p13 h => ?_
    conv => whnf
    cases h; exact ⟨rfl, rfl⟩
   conv => whnf
   cases h; exact ⟨rfl, rfl⟩
  conv => whnf
  refine Br.no ?_
  conv => whnf
  refine Br.no ?_
  conv => whnf
  refine Br.no ?_
  conv => whnf
  refine Br.no ?_
  conv => whnf
  refine Br.no ?_
  conv => whnf
  refine Br.no ?_
  conv => whnf
  refine Br.no ?_
  conv => whnf
  refine Br.no ?_
  conv => whnf
  refine Br.yes ?_
  conv => whnf
  refine Br.no ?_
  conv => whnf
  refine Br.yes ?_
  conv => whnf
  refine Br.no ?_
  conv => whnf
  cases h; exact ⟨rfl, rfl⟩
 conv => whnf
 refine Br.no ?_
 conv => whnf
 refine Br.no ?_
 conv => whnf
 refine Br.no ?_
 conv => whnf
 refine Br.no ?_
 conv => whnf
 refine Br.no ?_
 conv => whnf
 refine Br.no ?_
 conv => whnf
 refine Br.no ?_
 conv => whnf
 refine Br.no ?_
 conv => whnf
 refine Br.no ?_
 conv => whnf
 refine Br.no ?_
 conv => whnf
 refine Br.no ?_
 conv => whnf
 refine Br.no ?_
 conv => whnf
 cases h; exact ⟨rfl, rfl⟩
noncomputable def In (lists0 : (List (List Int))) (l0 : (List Int)) : Option (List (List Int)) :=
 (Am (Gh lists0 l0) (↑lists0.length : Int)).bind fun q14_5 =>
 ask (0 ≤ (0 : Int) ∧ (0 : Int) ≤ q14_5 ∧ q14_5 ≤ ((lists0.length : Nat) : Int)) <|
 ask ((A5 (List Int)).length + (List.take (q14_5.toNat - Int.toNat (0 : Int)) (List.drop (Int.toNat (0 : Int)) lists0)).length ≤ LIM) <|
 ask ((A5 (List Int) ++ List.take (q14_5.toNat - Int.toNat (0 : Int)) (List.drop (Int.toNat (0 : Int)) lists0)).length + ([l0]).length ≤ LIM) <|
 ask (0 ≤ q14_5 ∧ q14_5 ≤ (↑lists0.length : Int) ∧ (↑lists0.length : Int) ≤ ((lists0.length : Nat) : Int)) <|
 ask ((A5 (List Int) ++ List.take (q14_5.toNat - Int.toNat (0 : Int)) (List.drop (Int.toNat (0 : Int)) lists0) ++ [l0]).length + (List.take ((↑lists0.length : Int).toNat - q14_5.toNat) (List.drop q14_5.toNat lists0)).length ≤ LIM) <|
 some (A5 (List Int) ++ List.take (q14_5.toNat - Int.toNat (0 : Int)) (List.drop (Int.toNat (0 : Int)) lists0) ++ [l0] ++ List.take ((↑lists0.length : Int).toNat - q14_5.toNat) (List.drop q14_5.toNat lists0))
theorem Af4 {lists0 : (List (List Int))} {l0 : (List Int)} {v : (List (List Int))} (h : In lists0 l0 = some v) : Ret Try.prog Qd [(slr false 1 (slr false 1 Af)) lists0, (slr false 1 Af) l0] ((slr true 1 (slr false 1 Af)) v) := by
 refine A1 Ag4 (Nat.le_of_ble_eq_true rfl) ?_
 unfold In at h
 conv => whnf
 refine Len.map ?_
 conv => whnf
 refine LoopQ.o [5, 0, 1] (L1 lists0 l0) (Rp lists0 l0) h (fun s o h => Aas s o h) (by first | rfl | simp [restrict, look, Aa, V.fz, fzL, V.up, upL, Ab, Ac, Ad, slr]) (fun _ => rfl) ?_
 rintro q14_5 h
 try dsimp only at h
 conv => whnf
 refine BslQ.o (slr true 1 Af) (A5 (List Int)) (by exact fun _ => ⟨rfl, rfl⟩) (by first | rfl | simp only [Aa, V.fz, fzL, V.up, upL, Ab, Ac, Ad, slr, List.cons_append, List.nil_append] | simp [Aa, V.fz, fzL, V.up, upL, Ab, Ac, Ad, slr]) ?_
 conv => whnf
 refine SlcQ.o (slr false 1 Af) h fun h => ?_
 conv => whnf
 refine AppQ.o (m := 1) (slr false 1 Af) (by exact fun _ => ⟨rfl, rfl⟩) (A5 (List Int)) (List.take (q14_5.toNat - Int.toNat (0 : Int)) (List.drop (Int.toNat (0 : Int)) lists0)) (by first | rfl | simp only [Aa, V.fz, fzL, V.up, upL, Ab, Ac, Ad, slr, List.cons_append, List.nil_append] | simp [Aa, V.fz, fzL, V.up, upL, Ab, Ac, Ad, slr]) (by first | rfl | simp only [Aa, V.fz, fzL, V.up, upL, Ab, Ac, Ad, slr, List.cons_append, List.nil_append] | simp [Aa, V.fz, fzL, V.up, upL, Ab, Ac, Ad, slr]) h fun h => ?_
 conv => whnf
 refine BslQ.o (slr false 1 Af) [l0] (by exact fun _ => ⟨rfl, rfl⟩) (by first | rfl | simp only [Aa, V.fz, fzL, V.up, upL, Ab, Ac, Ad, slr, List.cons_append, List.nil_append] | simp [Aa, V.fz, fzL, V.up, upL, Ab, Ac, Ad, slr]) ?_
 conv => whnf
 refine NoOwn.o (fun _ => rfl) ?_
 conv => whnf
 refine AppQ.o (m := 1) (slr false 1 Af) (by exact fun _ => ⟨rfl, rfl⟩) (A5 (List Int) ++ List.take (q14_5.toNat - Int.toNat (0 : Int)) (List.drop (Int.toNat (0 : Int)) lists0)) ([l0]) (by first | rfl | simp only [Aa, V.fz, fzL, V.up, upL, Ab, Ac, Ad, slr, List.cons_append, List.nil_append] | simp [Aa, V.fz, fzL, V.up, upL, Ab, Ac, Ad, slr]) (by first | rfl | simp only [Aa, V.fz, fzL, V.up, upL, Ab, Ac, Ad, slr, List.cons_append, List.nil_append] | simp [Aa, V.fz, fzL, V.up, upL, Ab, Ac, Ad, slr]) h fun h => ?_
 conv => whnf
 refine Len.map ?_
 conv => whnf
 refine SlcQ.o (slr false 1 Af) h fun h => ?_
 conv => whnf
 refine AppQ.o (m := 1) (slr false 1 Af) (by exact fun _ => ⟨rfl, rfl⟩) (A5 (List Int) ++ List.take (q14_5.toNat - Int.toNat (0 : Int)) (List.drop (Int.toNat (0 : Int)) lists0) ++ [l0]) (List.take ((↑lists0.length : Int).toNat - q14_5.toNat) (List.drop q14_5.toNat lists0)) (by first | rfl | simp only [Aa, V.fz, fzL, V.up, upL, Ab, Ac, Ad, slr, List.cons_append, List.nil_append] | simp [Aa, V.fz, fzL, V.up, upL, Ab, Ac, Ad, slr]) (by first | rfl | simp only [Aa, V.fz, fzL, V.up, upL, Ab, Ac, Ad, slr, List.cons_append, List.nil_append] | simp [Aa, V.fz, fzL, V.up, upL, Ab, Ac, Ad, slr]) h fun h => ?_
 conv => whnf
 cases h; exact (by first | rfl | simp only [Ah, Aa, V.fz, fzL, V.up, upL, Ab, Ac, Ad, slr] | simp [Ah, Aa, V.fz, fzL, V.up, upL, Ab, Ac, Ad, slr])
noncomputable def F7 (c0 : Sl1Cur) (n0 : Int) : Option (Bool × Sl1Cur) :=
 (Bi (c0) (n0)).bind fun (r1, u2) =>
 some (r1 == (0 : Int), u2)
theorem Aah {c0 : Sl1Cur} {n0 : Int} {v : (Bool × Sl1Cur)} (h : F7 c0 n0 = some v) : Ac8 Try.prog Lm [(rP true (Ao false)) c0, Af n0] (V.bool v.1) 0 ((rP true (Ao false)) v.2) := by
 refine Wk Aap (Nat.le_of_ble_eq_true rfl) ?_
 unfold F7 at h
 conv => whnf
 refine CallQ.io Af (rP true (Ao false)) (by first | rfl | simp only [Aa, V.fz, fzL, V.up, upL, Ab, Ac, Ad, slr, List.cons_append, List.nil_append] | simp [Aa, V.fz, fzL, V.up, upL, Ab, Ac, Ad, slr]) rfl (fun _ => rfl) (fun _ => ⟨rfl, rfl⟩) rfl h (fun r h => B2 h) (fun r1 u2 h => ?_)
 conv => whnf
 cases h; exact ⟨(by first | rfl | simp only [Ah, Aa, V.fz, fzL, V.up, upL, Ab, Ac, Ad, slr] | simp [Ah, Aa, V.fz, fzL, V.up, upL, Ab, Ac, Ad, slr]), (by first | rfl | simp only [Ah, Aa, V.fz, fzL, V.up, upL, Ab, Ac, Ad, slr] | simp [Ah, Aa, V.fz, fzL, V.up, upL, Ab, Ac, Ad, slr])⟩
noncomputable def Bj (c0 : Sl1Cur) (list0 : (List Int)) : Option (Int × Sl1Cur) :=
 (Bi (c0) ((↑list0.length : Int))).bind fun (r1, u2) =>
 ask ((0 : Int) ≤ r1 ∧ r1 < (↑list0.length : Int)) <|
 some (nth list0 r1.toNat, u2)
theorem B8 {c0 : Sl1Cur} {list0 : (List Int)} {v : (Int × Sl1Cur)} (h : Bj c0 list0 = some v) : Ac8 Try.prog Bk [(rP true (Ao false)) c0, (slr false 1 Af) list0] (Af v.1) 0 ((rP true (Ao false)) v.2) := by
 refine Wk Xz (Nat.le_of_ble_eq_true rfl) ?_
 unfold Bj at h
 conv => whnf
 refine Len.map ?_
 conv => whnf
 refine CallQ.io Af (rP true (Ao false)) (by first | rfl | simp only [Aa, V.fz, fzL, V.up, upL, Ab, Ac, Ad, slr, List.cons_append, List.nil_append] | simp [Aa, V.fz, fzL, V.up, upL, Ab, Ac, Ad, slr]) rfl (fun _ => rfl) (fun _ => ⟨rfl, rfl⟩) rfl h (fun r h => B2 h) (fun r1 u2 h => ?_)
 conv => whnf
 refine Len.map ?_
 conv => whnf
 refine Ask.o h fun p3 h => ?_
 conv => whnf
 refine Elem.o (by first | omega | (simp [As] at *; omega)) ?_
 conv => whnf
 cases h; exact ⟨(by first | rfl | simp only [Ah, Aa, V.fz, fzL, V.up, upL, Ab, Ac, Ad, slr] | simp [Ah, Aa, V.fz, fzL, V.up, upL, Ab, Ac, Ad, slr]), (by first | rfl | simp only [Ah, Aa, V.fz, fzL, V.up, upL, Ab, Ac, Ad, slr] | simp [Ah, Aa, V.fz, fzL, V.up, upL, Ab, Ac, Ad, slr])⟩
noncomputable def Bm (a0 : SAlgebra) (some0 : (List Int)) : Option (List Int) :=
 (H2 (some0) (a0.Size)).bind fun r1 =>
 (Fl (a0) (r1)).bind fun r2 =>
 (G4 (r2)).bind fun r3 =>
 some r3
theorem Fc {a0 : SAlgebra} {some0 : (List Int)} {v : (List Int)} (h : Bm a0 some0 = some v) : Ret Try.prog Db [(Ag false) a0, (slr false 1 Af) some0] ((slr true 1 Af) v) := by
 refine A1 Acy (Nat.le_of_ble_eq_true rfl) ?_
 unfold Bm at h
 conv => whnf
 refine Cells.lit rfl rfl ?_
 conv => whnf
 refine Cells.lit rfl rfl ?_
 conv => whnf
 refine CallP.o (slr true 1 V.bool) (by first | rfl | simp only [Aa, V.fz, fzL, V.up, upL, Ab, Ac, Ad, slr, List.cons_append, List.nil_append] | simp [Aa, V.fz, fzL, V.up, upL, Ab, Ac, Ad, slr]) h (fun r h => Aj6 h) (fun r1 h => ?_)
 conv => whnf
 refine CallQ.give (slr true 1 V.bool) (by first | rfl | simp only [Aa, V.fz, fzL, V.up, upL, Ab, Ac, Ad, slr, List.cons_append, List.nil_append] | simp [Aa, V.fz, fzL, V.up, upL, Ab, Ac, Ad, slr]) rfl (fun _ => rfl) rfl h (fun r h => Y0 h) (fun r2 h => ?_)
 conv => whnf
 refine CallQ.rd (slr true 1 Af) (by first | rfl | simp only [V.fz, Ab, slr] | simp [Aa, V.fz, fzL, V.up, upL, Ab, Ac, Ad, slr]) (fun _ => by simp [V.noFz, Be]) h (fun r h => Agt h) (fun r3 h => ?_)
 conv => whnf
 cases h; exact (by first | rfl | simp only [Ah, Aa, V.fz, fzL, V.up, upL, Ab, Ac, Ad, slr] | simp [Ah, Aa, V.fz, fzL, V.up, upL, Ab, Ac, Ad, slr])
noncomputable def Fk (a0 : SAlgebra) : (Int × (List Bool)) → Option ((Int × (List Bool)) ⊕ (List Bool)) := fun (x6, x5) =>
 if x6 ≤ a0.Size then
 (Is (a0) (x5)).bind fun r3 =>
 ask (InI (x6 + (1 : Int))) <|
 some (.inl (x6 + (1 : Int), r3))
 else
 some (.inr x5)
def Kr (a0 : SAlgebra) : (Int × (List Bool)) → St := fun s => [(6, A.val (Af s.1)), (5, A.val ((slr true 1 V.bool) s.2)), (2, A.val ((rP true (Ag false)) (a0)))]
def Pu (_a0 : SAlgebra) : (List Bool) → Tgt
 | s => ((Ex.exit 0), [5], [(5, A.val ((slr true 1 V.bool) s))])
theorem Y6 {a0 : SAlgebra} (s : (Int × (List Bool))) (o : (Int × (List Bool)) ⊕ (List Bool)) (h : Fk a0 s = some o) : vc Try.prog Pg (C0 [6, 5, 2] (Kr a0) (Pu a0) o) (Kr a0 s) := by
 obtain ⟨x6, x5⟩ := s
 unfold Fk at h
 try dsimp only at h
 conv => whnf
 refine Cells.lit rfl rfl ?_
 conv => whnf
 refine Br.od h (fun p2 h => ?_) (fun p2 h => ?_)
 ·conv => whnf
  refine Cells.lit rfl rfl ?_
  conv => whnf
  refine CallQ.rd (slr true 1 V.bool) (by first | rfl | simp only [V.fz, fzL, Ab, slr] | simp [Aa, V.fz, fzL, V.up, upL, Ab, Ac, Ad, slr]) (fun _ => by simp [V.noFz, Be]) h (fun r h => Ag3 h) (fun r3 h => ?_)
  conv => whnf
  refine Ask.o h fun p4 h => ?_
  conv => whnf
  cases h; exact ⟨rfl, rfl⟩
 conv => whnf
 cases h; exact ⟨rfl, rfl⟩
noncomputable def C3 (a0 : SAlgebra) (some0 : (List Int)) : Option (List Int) :=
 (Mg (a0.Size) (some0)).bind fun r1 =>
 (Am (Fk a0) ((0 : Int), r1)).bind fun q5_5 =>
 (Im (q5_5)).bind fun r6 =>
 some r6
theorem Km {a0 : SAlgebra} {some0 : (List Int)} {v : (List Int)} (h : C3 a0 some0 = some v) : Ret Try.prog Gc [(Ag false) a0, (slr false 1 Af) some0] ((slr true 1 Af) v) := by
 refine A1 Ad0 (Nat.le_of_ble_eq_true rfl) ?_
 unfold C3 at h
 conv => whnf
 refine Cells.lit rfl rfl ?_
 conv => whnf
 refine CallQ.o (slr true 1 V.bool) (by first | rfl | simp only [Aa, V.fz, fzL, V.up, upL, Ab, Ac, Ad, slr, List.cons_append, List.nil_append] | simp [Aa, V.fz, fzL, V.up, upL, Ab, Ac, Ad, slr]) h (fun r h => Alx h) (fun r1 h => ?_)
 conv => whnf
 refine LoopQ.o [6, 5, 2] (Kr a0) (Pu a0) h (fun s o h => Y6 s o h) (by first | rfl | simp [restrict, look, Aa, V.fz, fzL, V.up, upL, Ab, Ac, Ad, slr]) (fun _ => rfl) ?_
 rintro q5_5 h
 try dsimp only at h
 conv => whnf
 refine CallQ.rd (slr true 1 Af) (by first | rfl | simp only [V.fz, Ab, slr] | simp [Aa, V.fz, fzL, V.up, upL, Ab, Ac, Ad, slr]) (fun _ => by simp [V.noFz, Be]) h (fun r h => Ag8 h) (fun r6 h => ?_)
 conv => whnf
 cases h; exact (by first | rfl | simp only [Ah, Aa, V.fz, fzL, V.up, upL, Ab, Ac, Ad, slr] | simp [Ah, Aa, V.fz, fzL, V.up, upL, Ab, Ac, Ad, slr])
noncomputable def Cg (a0 : SAlgebra) : Int → Option (Int ⊕ (Unit ⊕ Unit)) := fun x22 =>
 if x22 < (↑a0.Ops.length : Int) then
 ask ((0 : Int) ≤ x22 ∧ x22 < (↑a0.Ops.length : Int)) <|
 (Mc (nth a0.Ops x22.toNat) (a0.Size)).bind fun r7 =>
 if (r7) = true then
 ask (InI (x22 + (1 : Int))) <|
 some (.inl (x22 + (1 : Int)))
 else
 some (.inr (.inl ()))
 else
 some (.inr (.inr ()))
def Ik (a0 : SAlgebra) : Int → St := fun s => [(22, A.val (Af s)), (21, A.val (Af ((↑a0.Ops.length : Int)))), (20, A.val ((slr false 2 (A6 false)) (a0.Ops))), (1, A.val ((rP true (Ag false)) (a0)))]
def Ni (_a0 : SAlgebra) : (Unit ⊕ Unit) → Tgt
 | (.inl _s) => (Ex.ret, [2], [(2, A.val (V.bool (false)))])
 | (.inr _s) => ((Ex.exit 0), [], [])
theorem Ws {a0 : SAlgebra} (x22 : Int) (o : Int ⊕ (Unit ⊕ Unit)) (h : Cg a0 x22 = some o) : vc Try.prog Ng (C0 [22, 21, 20, 1] (Ik a0) (Ni a0) o) (Ik a0 x22) := by
 unfold Cg at h
 try dsimp only at h
 conv => whnf
 refine Br.od h (fun p5 h => ?_) (fun p5 h => ?_)
 ·conv => whnf
  refine Len.map ?_
  conv => whnf
  refine Ask.o h fun p6 h => ?_
  conv => whnf
  refine Elem.o (by first | omega | (simp [As] at *; omega)) ?_
  conv => whnf
  refine SetKids.lit rfl ?_
  conv => whnf
  refine Cells.lit rfl rfl ?_
  conv => whnf
  refine Cells.lit rfl rfl ?_
  conv => whnf
  refine CallQ.o V.bool (by first | rfl | simp only [Aa, V.fz, fzL, V.up, upL, Ab, Ac, Ad, slr, List.cons_append, List.nil_append] | simp [Aa, V.fz, fzL, V.up, upL, Ab, Ac, Ad, slr]) h (fun r h => Ak7 h) (fun r7 h => ?_)
  conv => whnf
  refine Br.flip ?_
  conv => whnf
  refine Br.ob h (fun p8 h => ?_) (fun p8 h => ?_)
  ·conv => whnf
   refine Ask.o h fun p9 h => ?_
   conv => whnf
   cases h; exact ⟨rfl, rfl⟩
  conv => whnf
  cases h; exact ⟨rfl, rfl⟩
 conv => whnf
 cases h; exact ⟨rfl, rfl⟩
noncomputable def Cc (a0 : SAlgebra) : Option Bool :=
 ((if a0.Size < (1 : Int) then
 some (.inl ())
 else
 if a0.Size > (8 : Int) then
 some (.inl ())
 else
 if (↑a0.Ops.length : Int) > (4 : Int) then
 some (.inl ())
 else
 some (.inr ()) : Option (Unit ⊕ Unit))).bind fun t => match t with
 | (.inl _) => (some false)
 | (.inr _) => ((Am (Cg a0) (0 : Int)).bind fun t => match t with
 | (.inl _) => (some false)
 | (.inr _) => (some true))
theorem F3 {a0 : SAlgebra} {v : Bool} (h : Cc a0 = some v) : Ret Try.prog Di [(Ag false) a0] (V.bool v) := by
 refine A1 Abo (Nat.le_of_ble_eq_true rfl) ?_
 unfold Cc at h
 conv => whnf
 refine CutQ.o (fun t : (Unit ⊕ Unit) => match t with | (.inl s) => (Ex.ret, [2], [(2, A.val (V.bool (false)))]) | (.inr s) => (Ex.normal, [1], [(1, A.val ((rP true (Ag false)) (a0)))])) h ?_ ?_
 ·intro t h
  conv => whnf
  refine Cells.lit rfl rfl ?_
  conv => whnf
  refine Br.od h (fun p1 h => ?_) (fun p1 h => ?_)
  ·conv => whnf
   refine Br.yes ?_
   conv => whnf
   refine Br.yes ?_
   conv => whnf
   refine Br.yes ?_
   conv => whnf
   refine Br.yes ?_
   conv => whnf
   refine Br.yes ?_
   conv => whnf
   refine Br.yes ?_
   conv => whnf
   refine Br.yes ?_
   conv => whnf
   refine Br.yes ?_
   conv => whnf
   refine Br.yes ?_
   conv => whnf
   cases h; exact ⟨rfl, rfl⟩
  conv => whnf
  refine Br.no ?_
  conv => whnf
  refine Cells.lit rfl rfl ?_
  conv => whnf
  refine Br.no ?_
  conv => whnf
  refine Br.no ?_
  conv => whnf
  refine Br.od h (fun p2 h => ?_) (fun p2 h => ?_)
  ·conv => whnf
   refine Br.yes ?_
   conv => whnf
   refine Br.yes ?_
   conv => whnf
   refine Br.yes ?_
   conv => whnf
   refine Br.yes ?_
   conv => whnf
   refine Br.yes ?_
   conv => whnf
   cases h; exact ⟨rfl, rfl⟩
  conv => whnf
  refine Br.no ?_
  conv => whnf
  refine Cells.lit rfl rfl ?_
  conv => whnf
  refine Br.no ?_
  conv => whnf
  refine Len.map ?_
  conv => whnf
  refine Br.no ?_
  conv => whnf
  refine Br.no ?_
  conv => whnf
  refine Br.od h (fun p3 h => ?_) (fun p3 h => ?_)
  ·conv => whnf
   cases h; exact ⟨rfl, rfl⟩
  conv => whnf
  cases h; exact ⟨rfl, rfl⟩
 rintro (⟨⟩ | ⟨⟩) h
 ·try dsimp only at h
  conv => whnf
  cases h; exact (by first | rfl | simp only [Ah, Aa, V.fz, fzL, V.up, upL, Ab, Ac, Ad, slr] | simp [Ah, Aa, V.fz, fzL, V.up, upL, Ab, Ac, Ad, slr])
 try dsimp only at h
 conv => whnf
 refine Cells.lit rfl rfl ?_
 conv => whnf
 refine Len.map ?_
 conv => whnf
 refine LoopQ.o [22, 21, 20, 1] (Ik a0) (Ni a0) h (fun s o h => Ws s o h) (by first | rfl | simp [restrict, look, Aa, V.fz, fzL, V.up, upL, Ab, Ac, Ad, slr]) (by rintro (_ | _) <;> rfl) ?_
 rintro (⟨⟩ | ⟨⟩) h
 ·try dsimp only at h
  conv => whnf
  cases h; exact (by first | rfl | simp only [Ah, Aa, V.fz, fzL, V.up, upL, Ab, Ac, Ad, slr] | simp [Ah, Aa, V.fz, fzL, V.up, upL, Ab, Ac, Ad, slr])
 try dsimp only at h
 conv => whnf
 cases h; exact (by first | rfl | simp only [Ah, Aa, V.fz, fzL, V.up, upL, Ab, Ac, Ad, slr] | simp [Ah, Aa, V.fz, fzL, V.up, upL, Ab, Ac, Ad, slr])
end Go.Proofs.Ytidaaijecmkndaa.Ax
