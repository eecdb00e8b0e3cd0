/-
 What the functions compute, as functions on plain data, and that the program does compute it; written by program.
-/
import Derived.Test.YtjinhobffbppbaaCode
import Derived.Test.YtjinhobffbppbaaG1
import Derived.Test.YtjinhobffbppbaaG3
namespace Go.Proofs.Ytjinhobffbppbaa.Ax
open Go
set_option maxRecDepth 100000
set_option maxHeartbeats 4000000
noncomputable def C5 (terms0 : List (List Int)) (x11 : Int) : (Int × (List Bool)) → Option ((Int × (List Bool)) ⊕ (List Bool)) := fun (x17, x3') =>
 if x17 < (↑(nth terms0 x11.toNat).length : Int) then
 ask ((0 : Int) ≤ x17 ∧ x17 < (↑(nth terms0 x11.toNat).length : Int)) <|
 if nth (nth terms0 x11.toNat) x17.toNat ≥ (0 : Int) then
 ask ((0 : Int) ≤ nth (nth terms0 x11.toNat) x17.toNat ∧ nth (nth terms0 x11.toNat) x17.toNat < (↑x3'.length : Int)) <|
 ask (InI (x17 + (1 : Int))) <|
 some (.inl (x17 + (1 : Int), x3'.set (nth (nth terms0 x11.toNat) x17.toNat).toNat true))
 else
 ask (InI (x17 + (1 : Int))) <|
 some (.inl (x17 + (1 : Int), x3'))
 else
 some (.inr x3')
def I2 (terms0 : List (List Int)) (x11 : Int) : (Int × (List Bool)) → St := fun s => [(17, A.val (Ae s.1)), (16, A.val (Ae ((↑(nth terms0 x11.toNat).length : Int)))), (15, A.val ((slr false 1 Ae) (nth terms0 x11.toNat))), (11, A.val (Ae (x11))), (10, A.val (Ae ((↑terms0.length : Int)))), (9, A.val ((slr false 1 (slr false 1 Ae)) (terms0))), (3, A.val ((slr true 1 V.bool) s.2))]
def Mh (terms0 : List (List Int)) (x11 : Int) : (List Bool) → Tgt
 | s => ((Ex.exit 2), [11, 10, 9, 3], [(11, A.val (Ae (x11))), (10, A.val (Ae ((↑terms0.length : Int)))), (9, A.val ((slr false 1 (slr false 1 Ae)) (terms0))), (3, A.val ((slr true 1 V.bool) s))])
theorem Un {terms0 : List (List Int)} {x11 : Int} (s : (Int × (List Bool))) (o : (Int × (List Bool)) ⊕ (List Bool)) (h : C5 terms0 x11 s = some o) : vc Try.prog Mq (F6 [17, 16, 15, 11, 10, 9, 3] (I2 terms0 x11) (Mh terms0 x11) o) (I2 terms0 x11 s) := by
 obtain ⟨x17, x3'⟩ := s
 unfold C5 at h
 try dsimp only at h
 conv => whnf
 refine Br.od h (fun p3 h => ?_) (fun p3 h => ?_)
 ·conv => whnf
  refine Len.map ?_
  conv => whnf
  refine Ask.o h fun p4 h => ?_
  conv => whnf
  refine Elem.o (by first | omega | (simp [A5] at *; omega)) ?_
  conv => whnf
  refine Br.od h (fun p5 h => ?_) (fun p5 h => ?_)
  ·conv => whnf
   refine Len.map ?_
   conv => whnf
   refine Ask.o h fun p6 h => ?_
   conv => whnf
   refine SetKids.one (fun _ => ⟨rfl, rfl⟩) (true) (by first | rfl | simp only [Aa, V.fz, fzL, V.up, upL, Ab, Ac, Ad, slr, List.cons_append, List.nil_append] | simp [Aa, V.fz, fzL, V.up, upL, Ab, Ac, Ad, slr]) (by first | omega | (simp [A5] at *; omega)) ?_
   conv => whnf
   refine Ask.o h fun p7 h => ?_
   conv => whnf
   cases h; exact ⟨rfl, rfl⟩
  conv => whnf
  refine Ask.o h fun p8 h => ?_
  conv => whnf
  cases h; exact ⟨rfl, rfl⟩
 conv => whnf
 cases h; exact ⟨rfl, rfl⟩
noncomputable def C3 (terms0 : List (List Int)) : (Int × (List Bool)) → Option ((Int × (List Bool)) ⊕ (List Bool)) := fun (x11, x3) =>
 if x11 < (↑terms0.length : Int) then
 ask ((0 : Int) ≤ x11 ∧ x11 < (↑terms0.length : Int)) <|
 (Bb (C5 terms0 x11) ((0 : Int), x3)).bind fun q9_3 =>
 ask (InI (x11 + (1 : Int))) <|
 some (.inl (x11 + (1 : Int), q9_3))
 else
 some (.inr x3)
def In (terms0 : List (List Int)) : (Int × (List Bool)) → St := fun s => [(11, A.val (Ae s.1)), (10, A.val (Ae ((↑terms0.length : Int)))), (9, A.val ((slr false 1 (slr false 1 Ae)) (terms0))), (3, A.val ((slr true 1 V.bool) s.2))]
def M0 (_terms0 : List (List Int)) : (List Bool) → Tgt
 | s => ((Ex.exit 0), [3], [(3, A.val ((slr true 1 V.bool) s))])
theorem Up {terms0 : List (List Int)} (s : (Int × (List Bool))) (o : (Int × (List Bool)) ⊕ (List Bool)) (h : C3 terms0 s = some o) : vc Try.prog Me (F6 [11, 10, 9, 3] (In terms0) (M0 terms0) o) (In terms0 s) := by
 obtain ⟨x11, x3⟩ := s
 unfold C3 at h
 try dsimp only at h
 conv => whnf
 refine Br.od h (fun p1 h => ?_) (fun p1 h => ?_)
 ·conv => whnf
  refine Len.map ?_
  conv => whnf
  refine Ask.o h fun p2 h => ?_
  conv => whnf
  refine Elem.o (by first | omega | (simp [A5] at *; omega)) ?_
  conv => whnf
  refine Len.map ?_
  conv => whnf
  refine LoopQ.o [17, 16, 15, 11, 10, 9, 3] (I2 terms0 x11) (Mh terms0 x11) h (fun s o h => Un s o h) (by first | rfl | simp [restrict, look, Aa, V.fz, fzL, V.up, upL, Ab, Ac, Ad, slr]) (fun _ => rfl) ?_
  rintro q9_3 h
  try dsimp only at h
  conv => whnf
  refine Ask.o h fun p10 h => ?_
  conv => whnf
  cases h; exact ⟨rfl, rfl⟩
 conv => whnf
 cases h; exact ⟨rfl, rfl⟩
noncomputable def Gt (terms0 : (List (List Int))) : Option (List Int) :=
 (Bb (C3 terms0) ((0 : Int), List.replicate (Int.toNat (6 : Int)) false)).bind fun q11_3 =>
 (Gu (q11_3)).bind fun r12 =>
 some r12
theorem Aal {terms0 : (List (List Int))} {v : (List Int)} (h : Gt terms0 = some v) : Ret Try.prog L0 [(slr false 1 (slr false 1 Ae)) terms0] ((slr true 1 Ae) v) := by
 refine Bf Aa5 (Nat.le_of_ble_eq_true rfl) ?_
 unfold Gt at h
 conv => whnf
 refine Ask.mk (by decide) ?_
 conv => whnf
 refine MkQ.o V.bool (false) rfl ?_
 conv => whnf
 refine Len.map ?_
 conv => whnf
 refine LoopQ.o [11, 10, 9, 3] (In terms0) (M0 terms0) h (fun s o h => Up s o h) (by first | rfl | simp [restrict, look, Aa, V.fz, fzL, V.up, upL, Ab, Ac, Ad, slr]) (fun _ => rfl) ?_
 rintro q11_3 h
 try dsimp only at h
 conv => whnf
 refine CallQ.rd (slr true 1 Ae) (by first | rfl | simp only [V.fz, Ab, slr] | simp [Aa, V.fz, fzL, V.up, upL, Ab, Ac, Ad, slr]) (fun _ => by simp [V.noFz, B1]) h (fun r h => Aae h) (fun r12 h => ?_)
 conv => whnf
 cases h; exact (by first | rfl | simp only [Ah, Aa, V.fz, fzL, V.up, upL, Ab, Ac, Ad, slr] | simp [Ah, Aa, V.fz, fzL, V.up, upL, Ab, Ac, Ad, slr])
noncomputable def D2 (t0 : List Int) : (Int × (List Int)) → Option ((Int × (List Int)) ⊕ (List Int)) := fun (x4, x3) =>
 if x4 < (↑t0.length : Int) then
 ask ((0 : Int) ≤ x4 ∧ x4 < (↑t0.length : Int)) <|
 if nth t0 x4.toNat ≥ (0 : Int) then
 ask ((0 : Int) ≤ x4 ∧ x4 < (↑t0.length : Int)) <|
 (Hk (x3) (nth t0 x4.toNat)).bind fun r5 =>
 ask (InI (x4 + (1 : Int))) <|
 some (.inl (x4 + (1 : Int), r5))
 else
 ask (InI (x4 + (1 : Int))) <|
 some (.inl (x4 + (1 : Int), x3))
 else
 some (.inr x3)
def Iu (t0 : List Int) : (Int × (List Int)) → St := fun s => [(4, A.val (Ae s.1)), (3, A.val ((slr false 1 Ae) s.2)), (0, A.val ((slr false 1 Ae) (t0)))]
def Mz (_t0 : List Int) : (List Int) → Tgt
 | s => ((Ex.exit 0), [3], [(3, A.val ((slr false 1 Ae) s))])
theorem T5 {t0 : List Int} (s : (Int × (List Int))) (o : (Int × (List Int)) ⊕ (List Int)) (h : D2 t0 s = some o) : vc Try.prog M2 (F6 [4, 3, 0] (Iu t0) (Mz t0) o) (Iu t0 s) := by
 obtain ⟨x4, x3⟩ := s
 unfold D2 at h
 try dsimp only at h
 conv => whnf
 refine Len.map ?_
 conv => whnf
 refine Br.od h (fun p1 h => ?_) (fun p1 h => ?_)
 ·conv => whnf
  refine Len.map ?_
  conv => whnf
  refine Ask.o h fun p2 h => ?_
  conv => whnf
  refine Elem.o (by first | omega | (simp [A5] at *; omega)) ?_
  conv => whnf
  refine Br.od h (fun p3 h => ?_) (fun p3 h => ?_)
  ·conv => whnf
   refine Len.map ?_
   conv => whnf
   refine Ask.o h fun p4 h => ?_
   conv => whnf
   refine Elem.o (by first | omega | (simp [A5] at *; omega)) ?_
   conv => whnf
   refine CallQ.o (slr false 1 Ae) (by first | rfl | simp only [Aa, V.fz, fzL, V.up, upL, Ab, Ac, Ad, slr, List.cons_append, List.nil_append] | simp [Aa, V.fz, fzL, V.up, upL, Ab, Ac, Ad, slr]) h (fun r h => Acy h) (fun r5 h => ?_)
   conv => whnf
   refine Ask.o h fun p6 h => ?_
   conv => whnf
   cases h; exact ⟨rfl, rfl⟩
  conv => whnf
  refine Ask.o h fun p7 h => ?_
  conv => whnf
  cases h; exact ⟨rfl, rfl⟩
 conv => whnf
 cases h; exact ⟨rfl, rfl⟩
noncomputable def Gr (t0 : (List Int)) : Option (List Int) :=
 (Bb (D2 t0) ((0 : Int), Au Int)).bind fun q8_3 =>
 some q8_3
theorem Zx {t0 : (List Int)} {v : (List Int)} (h : Gr t0 = some v) : Ret Try.prog Lt [(slr false 1 Ae) t0] ((slr false 1 Ae) v) := by
 refine Bf Zn (Nat.le_of_ble_eq_true rfl) ?_
 unfold Gr at h
 conv => whnf
 refine BslQ.o Ae (Au Int) (by exact fun _ => ⟨rfl, rfl⟩) (by first | rfl | simp only [Aa, V.fz, fzL, V.up, upL, Ab, Ac, Ad, slr, List.cons_append, List.nil_append] | simp [Aa, V.fz, fzL, V.up, upL, Ab, Ac, Ad, slr]) ?_
 conv => whnf
 refine LoopQ.o [4, 3, 0] (Iu t0) (Mz t0) h (fun s o h => T5 s o h) (by first | rfl | simp [restrict, look, Aa, V.fz, fzL, V.up, upL, Ab, Ac, Ad, slr]) (fun _ => rfl) ?_
 rintro q8_3 h
 try dsimp only at h
 conv => whnf
 cases h; exact (by first | rfl | simp only [Ah, Aa, V.fz, fzL, V.up, upL, Ab, Ac, Ad, slr] | simp [Ah, Aa, V.fz, fzL, V.up, upL, Ab, Ac, Ad, slr])
noncomputable def F3 (k0 : Int) : Option SAlgebra :=
 if k0 = (0 : Int) then
 (A2 ({ data := #[(48 : UInt8), (48 : UInt8), (48 : UInt8), (49 : UInt8)] })).bind fun r2 =>
 some ({ Size := (2 : Int), Ops := [r2] })
 else
 if k0 = (1 : Int) then
 (A2 ({ data := #[(48 : UInt8), (48 : UInt8), (48 : UInt8), (49 : UInt8)] })).bind fun r4 =>
 (A2 ({ data := #[(48 : UInt8), (49 : UInt8), (49 : UInt8), (49 : UInt8)] })).bind fun r5 =>
 some ({ Size := (2 : Int), Ops := [r4, r5] })
 else
 if k0 = (2 : Int) then
 (A2 ({ data := #[(48 : UInt8), (48 : UInt8), (48 : UInt8), (49 : UInt8)] })).bind fun r7 =>
 (A2 ({ data := #[(48 : UInt8), (49 : UInt8), (49 : UInt8), (49 : UInt8)] })).bind fun r8 =>
 some ({ Size := (2 : Int), Ops := [r7, r8, { Arity := (1 : Int), Table := [(1 : Int), (0 : Int)] }] })
 else
 if k0 = (3 : Int) then
 (Ec ((2 : Int))).bind fun r10 =>
 some ({ Size := (2 : Int), Ops := [r10] })
 else
 if k0 = (4 : Int) then
 (A2 ({ data := #[(48 : UInt8), (49 : UInt8), (50 : UInt8), (49 : UInt8), (50 : UInt8), (48 : UInt8), (50 : UInt8), (48 : UInt8), (49 : UInt8)] })).bind fun r12 =>
 some ({ Size := (3 : Int), Ops := [r12] })
 else
 if k0 = (5 : Int) then
 (A2 ({ data := #[(48 : UInt8), (49 : UInt8), (48 : UInt8), (49 : UInt8), (49 : UInt8), (50 : UInt8), (48 : UInt8), (50 : UInt8), (50 : UInt8)] })).bind fun r14 =>
 some ({ Size := (3 : Int), Ops := [r14] })
 else
 if k0 = (6 : Int) then
 (A2 ({ data := #[(48 : UInt8), (49 : UInt8), (50 : UInt8), (51 : UInt8), (49 : UInt8), (48 : UInt8), (51 : UInt8), (50 : UInt8), (50 : UInt8), (51 : UInt8), (48 : UInt8), (49 : UInt8), (51 : UInt8), (50 : UInt8), (49 : UInt8), (48 : UInt8)] })).bind fun r16 =>
 some ({ Size := (4 : Int), Ops := [r16] })
 else
 if k0 = (7 : Int) then
 (A2 ({ data := #[(48 : UInt8), (48 : UInt8), (48 : UInt8), (48 : UInt8), (49 : UInt8), (49 : UInt8), (48 : UInt8), (49 : UInt8), (50 : UInt8)] })).bind fun r18 =>
 (A2 ({ data := #[(48 : UInt8), (49 : UInt8), (50 : UInt8), (49 : UInt8), (49 : UInt8), (50 : UInt8), (50 : UInt8), (50 : UInt8), (50 : UInt8)] })).bind fun r19 =>
 some ({ Size := (3 : Int), Ops := [r18, r19] })
 else
 if k0 = (8 : Int) then
 some ({ Size := (4 : Int), Ops := [{ Arity := (1 : Int), Table := [(1 : Int), (2 : Int), (3 : Int), (0 : Int)] }] })
 else
 if k0 = (9 : Int) then
 some ({ Size := (2 : Int), Ops := [{ Arity := (3 : Int), Table := [(0 : Int), (0 : Int), (0 : Int), (1 : Int), (0 : Int), (1 : Int), (1 : Int), (1 : Int)] }] })
 else
 if k0 = (10 : Int) then
 (A2 ({ data := #[(48 : UInt8), (48 : UInt8), (48 : UInt8), (49 : UInt8), (49 : UInt8), (49 : UInt8), (50 : UInt8), (50 : UInt8), (50 : UInt8)] })).bind fun r23 =>
 some ({ Size := (3 : Int), Ops := [r23] })
 else
 if k0 = (11 : Int) then
 (A2 ({ data := #[(48 : UInt8), (48 : UInt8), (48 : UInt8), (48 : UInt8), (48 : UInt8), (48 : UInt8), (49 : UInt8), (48 : UInt8), (48 : UInt8), (49 : UInt8), (48 : UInt8), (48 : UInt8), (50 : UInt8), (48 : UInt8), (50 : UInt8), (48 : UInt8), (48 : UInt8), (48 : UInt8), (51 : UInt8), (51 : UInt8), (48 : UInt8), (49 : UInt8), (50 : UInt8), (51 : UInt8), (52 : UInt8)] })).bind fun r25 =>
 (A2 ({ data := #[(48 : UInt8), (49 : UInt8), (50 : UInt8), (51 : UInt8), (52 : UInt8), (49 : UInt8), (49 : UInt8), (52 : UInt8), (52 : UInt8), (52 : UInt8), (50 : UInt8), (52 : UInt8), (50 : UInt8), (52 : UInt8), (52 : UInt8), (51 : UInt8), (52 : UInt8), (52 : UInt8), (51 : UInt8), (52 : UInt8), (52 : UInt8), (52 : UInt8), (52 : UInt8), (52 : UInt8), (52 : UInt8)] })).bind fun r26 =>
 some ({ Size := (5 : Int), Ops := [r25, r26] })
 else
 if k0 = (12 : Int) then
 (A2 ({ data := #[(48 : UInt8), (49 : UInt8), (50 : UInt8), (51 : UInt8), (49 : UInt8), (50 : UInt8), (51 : UInt8), (48 : UInt8), (50 : UInt8), (51 : UInt8), (48 : UInt8), (49 : UInt8), (51 : UInt8), (48 : UInt8), (49 : UInt8), (50 : UInt8)] })).bind fun r28 =>
 some ({ Size := (4 : Int), Ops := [r28] })
 else
 if k0 = (13 : Int) then
 some ({ Size := (3 : Int), Ops := [{ Arity := (1 : Int), Table := [(0 : Int), (0 : Int), (1 : Int)] }, { Arity := (0 : Int), Table := [(2 : Int)] }] })
 else
 if k0 = (14 : Int) then
 (A2 ({ data := #[(48 : UInt8)] })).bind fun r31 =>
 some ({ Size := (1 : Int), Ops := [r31] })
 else
 if k0 = (15 : Int) then
 (Ec ((3 : Int))).bind fun r33 =>
 some ({ Size := (3 : Int), Ops := [r33] })
 else
 some ({ Size := (2 : Int), Ops := Au SOp })
theorem Xv {k0 : Int} {v : SAlgebra} (h : F3 k0 = some v) : Ret Try.prog Kv [Ae k0] ((Ag true) v) := by
 refine Bf Xu (Nat.le_of_ble_eq_true rfl) ?_
 unfold F3 at h
 conv => whnf
 refine Br.oe h (fun p1 h => ?_) (fun p1 h => ?_)
 ·conv => whnf
  refine CallQ.o (Ba true) (by first | rfl | simp only [Aa, V.fz, fzL, V.up, upL, Ab, Ac, Ad, slr, List.cons_append, List.nil_append] | simp [Aa, V.fz, fzL, V.up, upL, Ab, Ac, Ad, slr]) h (fun r h => Bc h) (fun r2 h => ?_)
  conv => whnf
  refine BslQ.o (Ba true) [r2] (by exact fun _ => ⟨rfl, rfl⟩) (by first | rfl | simp only [Aa, V.fz, fzL, V.up, upL, Ab, Ac, Ad, slr, List.cons_append, List.nil_append] | simp [Aa, V.fz, fzL, V.up, upL, Ab, Ac, Ad, slr]) ?_
  conv => whnf
  refine SetKids.lit rfl ?_
  conv => whnf
  cases h; exact (by first | rfl | simp only [Ah, Aa, V.fz, fzL, V.up, upL, Ab, Ac, Ad, slr] | simp [Ah, Aa, V.fz, fzL, V.up, upL, Ab, Ac, Ad, slr])
 conv => whnf
 refine Br.oe h (fun p3 h => ?_) (fun p3 h => ?_)
 ·conv => whnf
  refine CallQ.o (Ba true) (by first | rfl | simp only [Aa, V.fz, fzL, V.up, upL, Ab, Ac, Ad, slr, List.cons_append, List.nil_append] | simp [Aa, V.fz, fzL, V.up, upL, Ab, Ac, Ad, slr]) h (fun r h => Bc h) (fun r4 h => ?_)
  conv => whnf
  refine CallQ.o (Ba true) (by first | rfl | simp only [Aa, V.fz, fzL, V.up, upL, Ab, Ac, Ad, slr, List.cons_append, List.nil_append] | simp [Aa, V.fz, fzL, V.up, upL, Ab, Ac, Ad, slr]) h (fun r h => Bc h) (fun r5 h => ?_)
  conv => whnf
  refine BslQ.o (Ba true) ([r4, r5]) (by exact fun _ => ⟨rfl, rfl⟩) (by first | rfl | simp only [Aa, V.fz, fzL, V.up, upL, Ab, Ac, Ad, slr, List.cons_append, List.nil_append] | simp [Aa, V.fz, fzL, V.up, upL, Ab, Ac, Ad, slr]) ?_
  conv => whnf
  refine SetKids.lit rfl ?_
  conv => whnf
  cases h; exact (by first | rfl | simp only [Ah, Aa, V.fz, fzL, V.up, upL, Ab, Ac, Ad, slr] | simp [Ah, Aa, V.fz, fzL, V.up, upL, Ab, Ac, Ad, slr])
 conv => whnf
 refine Br.oe h (fun p6 h => ?_) (fun p6 h => ?_)
 ·conv => whnf
  refine CallQ.o (Ba true) (by first | rfl | simp only [Aa, V.fz, fzL, V.up, upL, Ab, Ac, Ad, slr, List.cons_append, List.nil_append] | simp [Aa, V.fz, fzL, V.up, upL, Ab, Ac, Ad, slr]) h (fun r h => Bc h) (fun r7 h => ?_)
  conv => whnf
  refine CallQ.o (Ba true) (by first | rfl | simp only [Aa, V.fz, fzL, V.up, upL, Ab, Ac, Ad, slr, List.cons_append, List.nil_append] | simp [Aa, V.fz, fzL, V.up, upL, Ab, Ac, Ad, slr]) h (fun r h => Bc h) (fun r8 h => ?_)
  conv => whnf
  refine BslQ.o Ae ([(1 : Int), (0 : Int)]) (by exact fun _ => ⟨rfl, rfl⟩) (by first | rfl | simp only [Aa, V.fz, fzL, V.up, upL, Ab, Ac, Ad, slr, List.cons_append, List.nil_append] | simp [Aa, V.fz, fzL, V.up, upL, Ab, Ac, Ad, slr]) ?_
  conv => whnf
  refine BslQ.o (Ba true) ([r7, r8, { Arity := (1 : Int), Table := [(1 : Int), (0 : Int)] }]) (by exact fun _ => ⟨rfl, rfl⟩) (by first | rfl | simp only [Aa, V.fz, fzL, V.up, upL, Ab, Ac, Ad, slr, List.cons_append, List.nil_append] | simp [Aa, V.fz, fzL, V.up, upL, Ab, Ac, Ad, slr]) ?_
  conv => whnf
  refine SetKids.lit rfl ?_
  conv => whnf
  cases h; exact (by first | rfl | simp only [Ah, Aa, V.fz, fzL, V.up, upL, Ab, Ac, Ad, slr] | simp [Ah, Aa, V.fz, fzL, V.up, upL, Ab, Ac, Ad, slr])
 conv => whnf
 refine Br.oe h (fun p9 h => ?_) (fun p9 h => ?_)
 ·conv => whnf
  refine CallQ.o (Ba true) (by first | rfl | simp only [Aa, V.fz, fzL, V.up, upL, Ab, Ac, Ad, slr, List.cons_append, List.nil_append] | simp [Aa, V.fz, fzL, V.up, upL, Ab, Ac, Ad, slr]) h (fun r h => Od h) (fun r10 h => ?_)
  conv => whnf
  refine BslQ.o (Ba true) [r10] (by exact fun _ => ⟨rfl, rfl⟩) (by first | rfl | simp only [Aa, V.fz, fzL, V.up, upL, Ab, Ac, Ad, slr, List.cons_append, List.nil_append] | simp [Aa, V.fz, fzL, V.up, upL, Ab, Ac, Ad, slr]) ?_
  conv => whnf
  refine SetKids.lit rfl ?_
  conv => whnf
  cases h; exact (by first | rfl | simp only [Ah, Aa, V.fz, fzL, V.up, upL, Ab, Ac, Ad, slr] | simp [Ah, Aa, V.fz, fzL, V.up, upL, Ab, Ac, Ad, slr])
 conv => whnf
 refine Br.oe h (fun p11 h => ?_) (fun p11 h => ?_)
 ·conv => whnf
  refine CallQ.o (Ba true) (by first | rfl | simp only [Aa, V.fz, fzL, V.up, upL, Ab, Ac, Ad, slr, List.cons_append, List.nil_append] | simp [Aa, V.fz, fzL, V.up, upL, Ab, Ac, Ad, slr]) h (fun r h => Bc h) (fun r12 h => ?_)
  conv => whnf
  refine BslQ.o (Ba true) [r12] (by exact fun _ => ⟨rfl, rfl⟩) (by first | rfl | simp only [Aa, V.fz, fzL, V.up, upL, Ab, Ac, Ad, slr, List.cons_append, List.nil_append] | simp [Aa, V.fz, fzL, V.up, upL, Ab, Ac, Ad, slr]) ?_
  conv => whnf
  refine SetKids.lit rfl ?_
  conv => whnf
  cases h; exact (by first | rfl | simp only [Ah, Aa, V.fz, fzL, V.up, upL, Ab, Ac, Ad, slr] | simp [Ah, Aa, V.fz, fzL, V.up, upL, Ab, Ac, Ad, slr])
 conv => whnf
 refine Br.oe h (fun p13 h => ?_) (fun p13 h => ?_)
 ·conv => whnf
  refine CallQ.o (Ba true) (by first | rfl | simp only [Aa, V.fz, fzL, V.up, upL, Ab, Ac, Ad, slr, List.cons_append, List.nil_append] | simp [Aa, V.fz, fzL, V.up, upL, Ab, Ac, Ad, slr]) h (fun r h => Bc h) (fun r14 h => ?_)
  conv => whnf
  refine BslQ.o (Ba true) [r14] (by exact fun _ => ⟨rfl, rfl⟩) (by first | rfl | simp only [Aa, V.fz, fzL, V.up, upL, Ab, Ac, Ad, slr, List.cons_append, List.nil_append] | simp [Aa, V.fz, fzL, V.up, upL, Ab, Ac, Ad, slr]) ?_
  conv => whnf
  refine SetKids.lit rfl ?_
  conv => whnf
  cases h; exact (by first | rfl | simp only [Ah, Aa, V.fz, fzL, V.up, upL, Ab, Ac, Ad, slr] | simp [Ah, Aa, V.fz, fzL, V.up, upL, Ab, Ac, Ad, slr])
 conv => whnf
 refine Br.oe h (fun p15 h => ?_) (fun p15 h => ?_)
 ·conv => whnf
  refine CallQ.o (Ba true) (by first | rfl | simp only [Aa, V.fz, fzL, V.up, upL, Ab, Ac, Ad, slr, List.cons_append, List.nil_append] | simp [Aa, V.fz, fzL, V.up, upL, Ab, Ac, Ad, slr]) h (fun r h => Bc h) (fun r16 h => ?_)
  conv => whnf
  refine BslQ.o (Ba true) [r16] (by exact fun _ => ⟨rfl, rfl⟩) (by first | rfl | simp only [Aa, V.fz, fzL, V.up, upL, Ab, Ac, Ad, slr, List.cons_append, List.nil_append] | simp [Aa, V.fz, fzL, V.up, upL, Ab, Ac, Ad, slr]) ?_
  conv => whnf
  refine SetKids.lit rfl ?_
  conv => whnf
  cases h; exact (by first | rfl | simp only [Ah, Aa, V.fz, fzL, V.up, upL, Ab, Ac, Ad, slr] | simp [Ah, Aa, V.fz, fzL, V.up, upL, Ab, Ac, Ad, slr])
 conv => whnf
 refine Br.oe h (fun p17 h => ?_) (fun p17 h => ?_)
 ·conv => whnf
  refine CallQ.o (Ba true) (by first | rfl | simp only [Aa, V.fz, fzL, V.up, upL, Ab, Ac, Ad, slr, List.cons_append, List.nil_append] | simp [Aa, V.fz, fzL, V.up, upL, Ab, Ac, Ad, slr]) h (fun r h => Bc h) (fun r18 h => ?_)
  conv => whnf
  refine CallQ.o (Ba true) (by first | rfl | simp only [Aa, V.fz, fzL, V.up, upL, Ab, Ac, Ad, slr, List.cons_append, List.nil_append] | simp [Aa, V.fz, fzL, V.up, upL, Ab, Ac, Ad, slr]) h (fun r h => Bc h) (fun r19 h => ?_)
  conv => whnf
  refine BslQ.o (Ba true) ([r18, r19]) (by exact fun _ => ⟨rfl, rfl⟩) (by first | rfl | simp only [Aa, V.fz, fzL, V.up, upL, Ab, Ac, Ad, slr, List.cons_append, List.nil_append] | simp [Aa, V.fz, fzL, V.up, upL, Ab, Ac, Ad, slr]) ?_
  conv => whnf
  refine SetKids.lit rfl ?_
  conv => whnf
  cases h; exact (by first | rfl | simp only [Ah, Aa, V.fz, fzL, V.up, upL, Ab, Ac, Ad, slr] | simp [Ah, Aa, V.fz, fzL, V.up, upL, Ab, Ac, Ad, slr])
 conv => whnf
 refine Br.oe h (fun p20 h => ?_) (fun p20 h => ?_)
 ·conv => whnf
  refine BslQ.o Ae ([(1 : Int), (2 : Int), (3 : Int), (0 : Int)]) (by exact fun _ => ⟨rfl, rfl⟩) (by first | rfl | simp only [Aa, V.fz, fzL, V.up, upL, Ab, Ac, Ad, slr, List.cons_append, List.nil_append] | simp [Aa, V.fz, fzL, V.up, upL, Ab, Ac, Ad, slr]) ?_
  conv => whnf
  refine BslQ.o (Ba true) ([{ Arity := (1 : Int), Table := [(1 : Int), (2 : Int), (3 : Int), (0 : Int)] }]) (by exact fun _ => ⟨rfl, rfl⟩) (by first | rfl | simp only [Aa, V.fz, fzL, V.up, upL, Ab, Ac, Ad, slr, List.cons_append, List.nil_append] | simp [Aa, V.fz, fzL, V.up, upL, Ab, Ac, Ad, slr]) ?_
  conv => whnf
  refine SetKids.lit rfl ?_
  conv => whnf
  cases h; exact (by first | rfl | simp only [Ah, Aa, V.fz, fzL, V.up, upL, Ab, Ac, Ad, slr] | simp [Ah, Aa, V.fz, fzL, V.up, upL, Ab, Ac, Ad, slr])
 conv => whnf
 refine Br.oe h (fun p21 h => ?_) (fun p21 h => ?_)
 ·conv => whnf
  refine BslQ.o Ae ([(0 : Int), (0 : Int), (0 : Int), (1 : Int), (0 : Int), (1 : Int), (1 : Int), (1 : Int)]) (by exact fun _ => ⟨rfl, rfl⟩) (by first | rfl | simp only [Aa, V.fz, fzL, V.up, upL, Ab, Ac, Ad, slr, List.cons_append, List.nil_append] | simp [Aa, V.fz, fzL, V.up, upL, Ab, Ac, Ad, slr]) ?_
  conv => whnf
  refine BslQ.o (Ba true) ([{ Arity := (3 : Int), Table := [(0 : Int), (0 : Int), (0 : Int), (1 : Int), (0 : Int), (1 : Int), (1 : Int), (1 : Int)] }]) (by exact fun _ => ⟨rfl, rfl⟩) (by first | rfl | simp only [Aa, V.fz, fzL, V.up, upL, Ab, Ac, Ad, slr, List.cons_append, List.nil_append] | simp [Aa, V.fz, fzL, V.up, upL, Ab, Ac, Ad, slr]) ?_
  conv => whnf
  refine SetKids.lit rfl ?_
  conv => whnf
  cases h; exact (by first | rfl | simp only [Ah, Aa, V.fz, fzL, V.up, upL, Ab, Ac, Ad, slr] | simp [Ah, Aa, V.fz, fzL, V.up, upL, Ab, Ac, Ad, slr])
 conv => whnf
 refine Br.oe h (fun p22 h => ?_) (fun p22 h => ?_)
 ·conv => whnf
  refine CallQ.o (Ba true) (by first | rfl | simp only [Aa, V.fz, fzL, V.up, upL, Ab, Ac, Ad, slr, List.cons_append, List.nil_append] | simp [Aa, V.fz, fzL, V.up, upL, Ab, Ac, Ad, slr]) h (fun r h => Bc h) (fun r23 h => ?_)
  conv => whnf
  refine BslQ.o (Ba true) [r23] (by exact fun _ => ⟨rfl, rfl⟩) (by first | rfl | simp only [Aa, V.fz, fzL, V.up, upL, Ab, Ac, Ad, slr, List.cons_append, List.nil_append] | simp [Aa, V.fz, fzL, V.up, upL, Ab, Ac, Ad, slr]) ?_
  conv => whnf
  refine SetKids.lit rfl ?_
  conv => whnf
  cases h; exact (by first | rfl | simp only [Ah, Aa, V.fz, fzL, V.up, upL, Ab, Ac, Ad, slr] | simp [Ah, Aa, V.fz, fzL, V.up, upL, Ab, Ac, Ad, slr])
 conv => whnf
 refine Br.oe h (fun p24 h => ?_) (fun p24 h => ?_)
 ·conv => whnf
  refine CallQ.o (Ba true) (by first | rfl | simp only [Aa, V.fz, fzL, V.up, upL, Ab, Ac, Ad, slr, List.cons_append, List.nil_append] | simp [Aa, V.fz, fzL, V.up, upL, Ab, Ac, Ad, slr]) h (fun r h => Bc h) (fun r25 h => ?_)
  conv => whnf
  refine CallQ.o (Ba true) (by first | rfl | simp only [Aa, V.fz, fzL, V.up, upL, Ab, Ac, Ad, slr, List.cons_append, List.nil_append] | simp [Aa, V.fz, fzL, V.up, upL, Ab, Ac, Ad, slr]) h (fun r h => Bc h) (fun r26 h => ?_)
  conv => whnf
  refine BslQ.o (Ba true) ([r25, r26]) (by exact fun _ => ⟨rfl, rfl⟩) (by first | rfl | simp only [Aa, V.fz, fzL, V.up, upL, Ab, Ac, Ad, slr, List.cons_append, List.nil_append] | simp [Aa, V.fz, fzL, V.up, upL, Ab, Ac, Ad, slr]) ?_
  conv => whnf
  refine SetKids.lit rfl ?_
  conv => whnf
  cases h; exact (by first | rfl | simp only [Ah, Aa, V.fz, fzL, V.up, upL, Ab, Ac, Ad, slr] | simp [Ah, Aa, V.fz, fzL, V.up, upL, Ab, Ac, Ad, slr])
 conv => whnf
 refine Br.oe h (fun p27 h => ?_) (fun p27 h => ?_)
 ·conv => whnf
  refine CallQ.o (Ba true) (by first | rfl | simp only [Aa, V.fz, fzL, V.up, upL, Ab, Ac, Ad, slr, List.cons_append, List.nil_append] | simp [Aa, V.fz, fzL, V.up, upL, Ab, Ac, Ad, slr]) h (fun r h => Bc h) (fun r28 h => ?_)
  conv => whnf
  refine BslQ.o (Ba true) [r28] (by exact fun _ => ⟨rfl, rfl⟩) (by first | rfl | simp only [Aa, V.fz, fzL, V.up, upL, Ab, Ac, Ad, slr, List.cons_append, List.nil_append] | simp [Aa, V.fz, fzL, V.up, upL, Ab, Ac, Ad, slr]) ?_
  conv => whnf
  refine SetKids.lit rfl ?_
  conv => whnf
  cases h; exact (by first | rfl | simp only [Ah, Aa, V.fz, fzL, V.up, upL, Ab, Ac, Ad, slr] | simp [Ah, Aa, V.fz, fzL, V.up, upL, Ab, Ac, Ad, slr])
 conv => whnf
 refine Br.oe h (fun p29 h => ?_) (fun p29 h => ?_)
 ·conv => whnf
  refine BslQ.o Ae ([(0 : Int), (0 : Int), (1 : Int)]) (by exact fun _ => ⟨rfl, rfl⟩) (by first | rfl | simp only [Aa, V.fz, fzL, V.up, upL, Ab, Ac, Ad, slr, List.cons_append, List.nil_append] | simp [Aa, V.fz, fzL, V.up, upL, Ab, Ac, Ad, slr]) ?_
  conv => whnf
  refine BslQ.o Ae ([(2 : Int)]) (by exact fun _ => ⟨rfl, rfl⟩) (by first | rfl | simp only [Aa, V.fz, fzL, V.up, upL, Ab, Ac, Ad, slr, List.cons_append, List.nil_append] | simp [Aa, V.fz, fzL, V.up, upL, Ab, Ac, Ad, slr]) ?_
  conv => whnf
  refine BslQ.o (Ba true) ([{ Arity := (1 : Int), Table := [(0 : Int), (0 : Int), (1 : Int)] }, { Arity := (0 : Int), Table := [(2 : Int)] }]) (by exact fun _ => ⟨rfl, rfl⟩) (by first | rfl | simp only [Aa, V.fz, fzL, V.up, upL, Ab, Ac, Ad, slr, List.cons_append, List.nil_append] | simp [Aa, V.fz, fzL, V.up, upL, Ab, Ac, Ad, slr]) ?_
  conv => whnf
  refine SetKids.lit rfl ?_
  conv => whnf
  cases h; exact (by first | rfl | simp only [Ah, Aa, V.fz, fzL, V.up, upL, Ab, Ac, Ad, slr] | simp [Ah, Aa, V.fz, fzL, V.up, upL, Ab, Ac, Ad, slr])
 conv => whnf
 refine Br.oe h (fun p30 h => ?_) (fun p30 h => ?_)
 ·conv => whnf
  refine CallQ.o (Ba true) (by first | rfl | simp only [Aa, V.fz, fzL, V.up, upL, Ab, Ac, Ad, slr, List.cons_append, List.nil_append] | simp [Aa, V.fz, fzL, V.up, upL, Ab, Ac, Ad, slr]) h (fun r h => Bc h) (fun r31 h => ?_)
  conv => whnf
  refine BslQ.o (Ba true) [r31] (by exact fun _ => ⟨rfl, rfl⟩) (by first | rfl | simp only [Aa, V.fz, fzL, V.up, upL, Ab, Ac, Ad, slr, List.cons_append, List.nil_append] | simp [Aa, V.fz, fzL, V.up, upL, Ab, Ac, Ad, slr]) ?_
  conv => whnf
  refine SetKids.lit rfl ?_
  conv => whnf
  cases h; exact (by first | rfl | simp only [Ah, Aa, V.fz, fzL, V.up, upL, Ab, Ac, Ad, slr] | simp [Ah, Aa, V.fz, fzL, V.up, upL, Ab, Ac, Ad, slr])
 conv => whnf
 refine Br.oe h (fun p32 h => ?_) (fun p32 h => ?_)
 ·conv => whnf
  refine CallQ.o (Ba true) (by first | rfl | simp only [Aa, V.fz, fzL, V.up, upL, Ab, Ac, Ad, slr, List.cons_append, List.nil_append] | simp [Aa, V.fz, fzL, V.up, upL, Ab, Ac, Ad, slr]) h (fun r h => Od h) (fun r33 h => ?_)
  conv => whnf
  refine BslQ.o (Ba true) [r33] (by exact fun _ => ⟨rfl, rfl⟩) (by first | rfl | simp only [Aa, V.fz, fzL, V.up, upL, Ab, Ac, Ad, slr, List.cons_append, List.nil_append] | simp [Aa, V.fz, fzL, V.up, upL, Ab, Ac, Ad, slr]) ?_
  conv => whnf
  refine SetKids.lit rfl ?_
  conv => whnf
  cases h; exact (by first | rfl | simp only [Ah, Aa, V.fz, fzL, V.up, upL, Ab, Ac, Ad, slr] | simp [Ah, Aa, V.fz, fzL, V.up, upL, Ab, Ac, Ad, slr])
 conv => whnf
 refine SetKids.lit rfl ?_
 conv => whnf
 cases h; exact (by first | rfl | simp only [Ah, Aa, V.fz, fzL, V.up, upL, Ab, Ac, Ad, slr] | simp [Ah, Aa, V.fz, fzL, V.up, upL, Ab, Ac, Ad, slr])
noncomputable def Jd (f0 : SOp) (n0 : Int) : Option Bool :=
 if f0.Arity ≥ (0 : Int) then
 if f0.Arity ≤ (3 : Int) then
 (F9 (n0) (f0.Arity)).bind fun r3 =>
 if (↑f0.Table.length : Int) = r3 then
 (Fr (f0.Table) (n0)).bind fun r5 =>
 some r5
 else
 some false
 else
 some false
 else
 some false
theorem Aem {f0 : SOp} {n0 : Int} {v : Bool} (h : Jd f0 n0 = some v) : Ret Try.prog Pu [(Ba false) f0, Ae n0] (V.bool v) := by
 refine Bf Afw (Nat.le_of_ble_eq_true rfl) ?_
 unfold Jd at h
 conv => whnf
 refine Cells.lit rfl rfl ?_
 conv => whnf
 refine Br.od h (fun p1 h => ?_) (fun p1 h => ?_)
 ·conv => whnf
  refine Br.yes ?_
  conv => whnf
  refine Cells.lit rfl rfl ?_
  conv => whnf
  refine Br.yes ?_
  conv => whnf
  refine Br.yes ?_
  conv => whnf
  refine Br.od h (fun p2 h => ?_) (fun p2 h => ?_)
  ·conv => whnf
   refine Br.yes ?_
   conv => whnf
   refine Cells.lit rfl rfl ?_
   conv => whnf
   refine Br.yes ?_
   conv => whnf
   refine Len.map ?_
   conv => whnf
   refine Br.yes ?_
   conv => whnf
   refine Br.yes ?_
   conv => whnf
   refine Br.yes ?_
   conv => whnf
   refine Cells.lit rfl rfl ?_
   conv => whnf
   refine Br.yes ?_
   conv => whnf
   refine CallP.o Ae (by first | rfl | simp only [Aa, V.fz, fzL, V.up, upL, Ab, Ac, Ad, slr, List.cons_append, List.nil_append] | simp [Aa, V.fz, fzL, V.up, upL, Ab, Ac, Ad, slr]) h (fun r h => Acg h) (fun r3 h => ?_)
   conv => whnf
   refine Br.yes ?_
   conv => whnf
   refine Br.yes ?_
   conv => whnf
   refine Br.oe h (fun p4 h => ?_) (fun p4 h => ?_)
   ·conv => whnf
    refine Br.yes ?_
    conv => whnf
    refine Cells.lit rfl rfl ?_
    conv => whnf
    refine Br.yes ?_
    conv => whnf
    refine Br.yes ?_
    conv => whnf
    refine CallQ.o V.bool (by first | rfl | simp only [Aa, V.fz, fzL, V.up, upL, Ab, Ac, Ad, slr, List.cons_append, List.nil_append] | simp [Aa, V.fz, fzL, V.up, upL, Ab, Ac, Ad, slr]) h (fun r h => Q0 h) (fun r5 h => ?_)
    conv => whnf
    refine Br.yes ?_
    conv => whnf
    cases h; exact (by first | rfl | simp only [Ah, Aa, V.fz, fzL, V.up, upL, Ab, Ac, Ad, slr] | simp [Ah, Aa, V.fz, fzL, V.up, upL, Ab, Ac, Ad, slr])
   conv => whnf
   refine Br.no ?_
   conv => whnf
   refine Br.no ?_
   conv => whnf
   refine Br.no ?_
   conv => whnf
   refine Br.no ?_
   conv => whnf
   cases h; exact (by first | rfl | simp only [Ah, Aa, V.fz, fzL, V.up, upL, Ab, Ac, Ad, slr] | simp [Ah, Aa, V.fz, fzL, V.up, upL, Ab, Ac, Ad, slr])
  conv => whnf
  refine Br.no ?_
  conv => whnf
  refine Br.no ?_
  conv => whnf
  refine Br.no ?_
  conv => whnf
  refine Br.no ?_
  conv => whnf
  refine Br.no ?_
  conv => whnf
  refine Br.no ?_
  conv => whnf
  refine Br.no ?_
  conv => whnf
  refine Br.no ?_
  conv => whnf
  refine Br.no ?_
  conv => whnf
  refine Br.no ?_
  conv => whnf
  refine Br.no ?_
  conv => whnf
  refine Br.no ?_
  conv => whnf
  refine Br.no ?_
  conv => whnf
  cases h; exact (by first | rfl | simp only [Ah, Aa, V.fz, fzL, V.up, upL, Ab, Ac, Ad, slr] | simp [Ah, Aa, V.fz, fzL, V.up, upL, Ab, Ac, Ad, slr])
 conv => whnf
 refine Br.no ?_
 conv => whnf
 refine Br.no ?_
 conv => whnf
 refine Br.no ?_
 conv => whnf
 refine Br.no ?_
 conv => whnf
 refine Br.no ?_
 conv => whnf
 refine Br.no ?_
 conv => whnf
 refine Br.no ?_
 conv => whnf
 refine Br.no ?_
 conv => whnf
 refine Br.no ?_
 conv => whnf
 refine Br.no ?_
 conv => whnf
 refine Br.no ?_
 conv => whnf
 refine Br.no ?_
 conv => whnf
 refine Br.no ?_
 conv => whnf
 refine Br.no ?_
 conv => whnf
 refine Br.no ?_
 conv => whnf
 refine Br.no ?_
 conv => whnf
 refine Br.no ?_
 conv => whnf
 cases h; exact (by first | rfl | simp only [Ah, Aa, V.fz, fzL, V.up, upL, Ab, Ac, Ad, slr] | simp [Ah, Aa, V.fz, fzL, V.up, upL, Ab, Ac, Ad, slr])
end Go.Proofs.Ytjinhobffbppbaa.Ax
