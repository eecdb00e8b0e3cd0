/-
 What the functions compute, as functions on plain data, and that the program does compute it; written by program.
-/
import Derived.Test.YtcpgnfohmeineaaCode
import Derived.Test.YtcpgnfohmeineaaG1
import Derived.Test.YtcpgnfohmeineaaG2
namespace Go.Proofs.Ytcpgnfohmeineaa.Ax
open Go
set_option maxRecDepth 100000
set_option maxHeartbeats 4000000
noncomputable def Cd (n0 : Int) (r0 : SRelation) : Int → Option (Int ⊕ (Unit ⊕ Unit)) := fun x18 =>
 if x18 < (↑r0.Tuples.length : Int) then
 ask ((0 : Int) ≤ x18 ∧ x18 < (↑r0.Tuples.length : Int)) <|
 if (↑(nth r0.Tuples x18.toNat).length : Int) ≠ r0.Arity then
 some (.inr (.inl ()))
 else
 (Es (nth r0.Tuples x18.toNat) (n0)).bind fun r7 =>
 if (r7) = true then
 if x18 > (0 : Int) then
 ask (InI (x18 - (1 : Int))) <|
 ask ((0 : Int) ≤ x18 - (1 : Int) ∧ x18 - (1 : Int) < (↑r0.Tuples.length : Int)) <|
 (Dy (nth r0.Tuples (x18 - (1 : Int)).toNat) (nth r0.Tuples x18.toNat)).bind fun r12 =>
 if r12 ≥ (0 : Int) then
 some (.inr (.inl ()))
 else
 ask (InI (x18 + (1 : Int))) <|
 some (.inl (x18 + (1 : Int)))
 else
 ask (InI (x18 + (1 : Int))) <|
 some (.inl (x18 + (1 : Int)))
 else
 some (.inr (.inl ()))
 else
 some (.inr (.inr ()))
def F0 (n0 : Int) (r0 : SRelation) : Int → St := fun s => [(18, A.val (Af s)), (17, A.val (Af ((↑r0.Tuples.length : Int)))), (16, A.val ((slr false 1 (slr false 1 Af)) (r0.Tuples))), (3, A.val ((rP true (Am false)) (r0))), (0, A.val (Af (n0)))]
def J6 (_n0 : Int) (_r0 : SRelation) : (Unit ⊕ Unit) → Tgt
 | (.inl _s) => (Ex.ret, [4], [(4, A.val (V.bool (false)))])
 | (.inr _s) => ((Ex.exit 0), [], [])
theorem Ru {n0 : Int} {r0 : SRelation} (x18 : Int) (o : Int ⊕ (Unit ⊕ Unit)) (h : Cd n0 r0 x18 = some o) : vc Try.prog Kr (Dx [18, 17, 16, 3, 0] (F0 n0 r0) (J6 n0 r0) o) (F0 n0 r0 x18) := by
 unfold Cd at h
 try dsimp only at h
 conv => whnf
 refine Br.od h (fun p4 h => ?_) (fun p4 h => ?_)
 ·conv => whnf
  refine Len.map ?_
  conv => whnf
  refine Ask.o h fun p5 h => ?_
  conv => whnf
  refine Elem.o (by first | omega | (simp [A4] at *; omega)) ?_
  conv => whnf
  refine Len.map ?_
  conv => whnf
  refine Cells.lit rfl rfl ?_
  conv => whnf
  refine Br.on h (fun p6 h => ?_) (fun p6 h => ?_)
  ·conv => whnf
   refine Br.yes ?_
   conv => whnf
   refine Br.yes ?_
   conv => whnf
   refine Br.yes ?_
   conv => whnf
   refine Br.yes ?_
   conv => whnf
   refine Br.yes ?_
   conv => whnf
   refine Br.yes ?_
   conv => whnf
   refine Br.yes ?_
   conv => whnf
   refine Br.yes ?_
   conv => whnf
   refine Br.yes ?_
   conv => whnf
   refine Br.yes ?_
   conv => whnf
   cases h; exact ⟨rfl, rfl⟩
  conv => whnf
  refine Br.no ?_
  conv => whnf
  refine Br.no ?_
  conv => whnf
  refine CallQ.o V.bool (by first | rfl | simp only [Aa, V.fz, fzL, V.up, upL, Ab, Ac, Ad, slr, List.cons_append, List.nil_append] | simp [Aa, V.fz, fzL, V.up, upL, Ab, Ac, Ad, slr]) h (fun r h => Ob h) (fun r7 h => ?_)
  conv => whnf
  refine Br.no ?_
  conv => whnf
  refine Br.no ?_
  conv => whnf
  refine Br.flip ?_
  conv => whnf
  refine Br.ob h (fun p8 h => ?_) (fun p8 h => ?_)
  ·conv => whnf
   refine Br.no ?_
   conv => whnf
   refine Br.no ?_
   conv => whnf
   refine Br.od h (fun p9 h => ?_) (fun p9 h => ?_)
   ·conv => whnf
    refine Br.yes ?_
    conv => whnf
    refine Cells.lit rfl rfl ?_
    conv => whnf
    refine Br.yes ?_
    conv => whnf
    refine Br.yes ?_
    conv => whnf
    refine Ask.o h fun p10 h => ?_
    conv => whnf
    refine Br.yes ?_
    conv => whnf
    refine Len.map ?_
    conv => whnf
    refine Ask.o h fun p11 h => ?_
    conv => whnf
    refine Elem.o (by first | omega | (simp [A4] at *; omega)) ?_
    conv => whnf
    refine Br.yes ?_
    conv => whnf
    refine Br.yes ?_
    conv => whnf
    refine Br.yes ?_
    conv => whnf
    refine CallQ.o Af (by first | rfl | simp only [Aa, V.fz, fzL, V.up, upL, Ab, Ac, Ad, slr, List.cons_append, List.nil_append] | simp [Aa, V.fz, fzL, V.up, upL, Ab, Ac, Ad, slr]) h (fun r h => S3 h) (fun r12 h => ?_)
    conv => whnf
    refine Br.yes ?_
    conv => whnf
    refine Br.no ?_
    conv => whnf
    refine Br.yes ?_
    conv => whnf
    refine Br.no ?_
    conv => whnf
    refine Br.od h (fun p13 h => ?_) (fun p13 h => ?_)
    ·conv => whnf
     cases h; exact ⟨rfl, rfl⟩
    conv => whnf
    refine Ask.o h fun p14 h => ?_
    conv => whnf
    cases h; exact ⟨rfl, rfl⟩
   conv => whnf
   refine Br.no ?_
   conv => whnf
   refine Br.no ?_
   conv => whnf
   refine Br.no ?_
   conv => whnf
   refine Br.no ?_
   conv => whnf
   refine Br.no ?_
   conv => whnf
   refine Br.no ?_
   conv => whnf
   refine Br.no ?_
   conv => whnf
   refine Br.no ?_
   conv => whnf
   refine Br.no ?_
   conv => whnf
   refine Br.no ?_
   conv => whnf
   refine Br.no ?_
   conv => whnf
   refine Br.no ?_
   conv => whnf
   refine Ask.o h fun p15 h => ?_
   conv => whnf
   cases h; exact ⟨rfl, rfl⟩
  conv => whnf
  refine Br.yes ?_
  conv => whnf
  refine Br.yes ?_
  conv => whnf
  refine Br.yes ?_
  conv => whnf
  refine Br.yes ?_
  conv => whnf
  refine Br.yes ?_
  conv => whnf
  cases h; exact ⟨rfl, rfl⟩
 conv => whnf
 cases h; exact ⟨rfl, rfl⟩
noncomputable def Em (n0 : Int) (r0 : SRelation) : Option Bool :=
 ((if r0.Arity < (1 : Int) then
 some (.inl ())
 else
 if r0.Arity > (3 : Int) then
 some (.inl ())
 else
 some (.inr ()) : Option (Unit ⊕ Unit))).bind fun t => match t with
 | (.inl _) => (some false)
 | (.inr _) => ((Ap (Cd n0 r0) (0 : Int)).bind fun t => match t with
 | (.inl _) => (some false)
 | (.inr _) => (some true))
theorem Vq {n0 : Int} {r0 : SRelation} {v : Bool} (h : Em n0 r0 = some v) : Ret Try.prog Im [Af n0, (Am false) r0] (V.bool v) := by
 refine A5 Vp (Nat.le_of_ble_eq_true rfl) ?_
 unfold Em at h
 conv => whnf
 refine CutQ.o (fun t : (Unit ⊕ Unit) => match t with | (.inl s) => (Ex.ret, [4], [(4, A.val (V.bool (false)))]) | (.inr s) => (Ex.normal, [3, 0], [(3, A.val ((rP true (Am false)) (r0))), (0, A.val (Af (n0)))])) h ?_ ?_
 ·intro t h
  conv => whnf
  refine Cells.lit rfl rfl ?_
  conv => whnf
  refine Br.od h (fun p1 h => ?_) (fun p1 h => ?_)
  ·conv => whnf
   refine Br.yes ?_
   conv => whnf
   refine Br.yes ?_
   conv => whnf
   refine Br.yes ?_
   conv => whnf
   refine Br.yes ?_
   conv => whnf
   cases h; exact ⟨rfl, rfl⟩
  conv => whnf
  refine Br.no ?_
  conv => whnf
  refine Cells.lit rfl rfl ?_
  conv => whnf
  refine Br.no ?_
  conv => whnf
  refine Br.no ?_
  conv => whnf
  refine Br.od h (fun p2 h => ?_) (fun p2 h => ?_)
  ·conv => whnf
   cases h; exact ⟨rfl, rfl⟩
  conv => whnf
  cases h; exact ⟨rfl, rfl⟩
 rintro (⟨⟩ | ⟨⟩) h
 ·try dsimp only at h
  conv => whnf
  cases h; exact (by first | rfl | simp only [Ah, Aa, V.fz, fzL, V.up, upL, Ab, Ac, Ad, slr] | simp [Ah, Aa, V.fz, fzL, V.up, upL, Ab, Ac, Ad, slr])
 try dsimp only at h
 conv => whnf
 refine Cells.lit rfl rfl ?_
 conv => whnf
 refine Len.map ?_
 conv => whnf
 refine LoopQ.o [18, 17, 16, 3, 0] (F0 n0 r0) (J6 n0 r0) h (fun s o h => Ru s o h) (by first | rfl | simp [restrict, look, Aa, V.fz, fzL, V.up, upL, Ab, Ac, Ad, slr]) (by rintro (_ | _) <;> rfl) ?_
 rintro (⟨⟩ | ⟨⟩) h
 ·try dsimp only at h
  conv => whnf
  cases h; exact (by first | rfl | simp only [Ah, Aa, V.fz, fzL, V.up, upL, Ab, Ac, Ad, slr] | simp [Ah, Aa, V.fz, fzL, V.up, upL, Ab, Ac, Ad, slr])
 try dsimp only at h
 conv => whnf
 cases h; exact (by first | rfl | simp only [Ah, Aa, V.fz, fzL, V.up, upL, Ab, Ac, Ad, slr] | simp [Ah, Aa, V.fz, fzL, V.up, upL, Ab, Ac, Ad, slr])
noncomputable def F4 (k0 : Int) : Option SAlgebra :=
 if k0 = (0 : Int) then
 (A1 ({ data := #[(48 : UInt8), (48 : UInt8), (48 : UInt8), (49 : UInt8)] })).bind fun r2 =>
 some ({ Size := (2 : Int), Ops := [r2] })
 else
 if k0 = (1 : Int) then
 (A1 ({ data := #[(48 : UInt8), (48 : UInt8), (48 : UInt8), (49 : UInt8)] })).bind fun r4 =>
 (A1 ({ data := #[(48 : UInt8), (49 : UInt8), (49 : UInt8), (49 : UInt8)] })).bind fun r5 =>
 some ({ Size := (2 : Int), Ops := [r4, r5] })
 else
 if k0 = (2 : Int) then
 (A1 ({ data := #[(48 : UInt8), (48 : UInt8), (48 : UInt8), (49 : UInt8)] })).bind fun r7 =>
 (A1 ({ data := #[(48 : UInt8), (49 : UInt8), (49 : UInt8), (49 : UInt8)] })).bind fun r8 =>
 some ({ Size := (2 : Int), Ops := [r7, r8, { Arity := (1 : Int), Table := [(1 : Int), (0 : Int)] }] })
 else
 if k0 = (3 : Int) then
 (Eh ((2 : Int))).bind fun r10 =>
 some ({ Size := (2 : Int), Ops := [r10] })
 else
 if k0 = (4 : Int) then
 (A1 ({ data := #[(48 : UInt8), (49 : UInt8), (50 : UInt8), (49 : UInt8), (50 : UInt8), (48 : UInt8), (50 : UInt8), (48 : UInt8), (49 : UInt8)] })).bind fun r12 =>
 some ({ Size := (3 : Int), Ops := [r12] })
 else
 if k0 = (5 : Int) then
 (A1 ({ data := #[(48 : UInt8), (49 : UInt8), (48 : UInt8), (49 : UInt8), (49 : UInt8), (50 : UInt8), (48 : UInt8), (50 : UInt8), (50 : UInt8)] })).bind fun r14 =>
 some ({ Size := (3 : Int), Ops := [r14] })
 else
 if k0 = (6 : Int) then
 (A1 ({ data := #[(48 : UInt8), (49 : UInt8), (50 : UInt8), (51 : UInt8), (49 : UInt8), (48 : UInt8), (51 : UInt8), (50 : UInt8), (50 : UInt8), (51 : UInt8), (48 : UInt8), (49 : UInt8), (51 : UInt8), (50 : UInt8), (49 : UInt8), (48 : UInt8)] })).bind fun r16 =>
 some ({ Size := (4 : Int), Ops := [r16] })
 else
 if k0 = (7 : Int) then
 (A1 ({ data := #[(48 : UInt8), (48 : UInt8), (48 : UInt8), (48 : UInt8), (49 : UInt8), (49 : UInt8), (48 : UInt8), (49 : UInt8), (50 : UInt8)] })).bind fun r18 =>
 (A1 ({ data := #[(48 : UInt8), (49 : UInt8), (50 : UInt8), (49 : UInt8), (49 : UInt8), (50 : UInt8), (50 : UInt8), (50 : UInt8), (50 : UInt8)] })).bind fun r19 =>
 some ({ Size := (3 : Int), Ops := [r18, r19] })
 else
 if k0 = (8 : Int) then
 some ({ Size := (4 : Int), Ops := [{ Arity := (1 : Int), Table := [(1 : Int), (2 : Int), (3 : Int), (0 : Int)] }] })
 else
 if k0 = (9 : Int) then
 some ({ Size := (2 : Int), Ops := [{ Arity := (3 : Int), Table := [(0 : Int), (0 : Int), (0 : Int), (1 : Int), (0 : Int), (1 : Int), (1 : Int), (1 : Int)] }] })
 else
 if k0 = (10 : Int) then
 (A1 ({ data := #[(48 : UInt8), (48 : UInt8), (48 : UInt8), (49 : UInt8), (49 : UInt8), (49 : UInt8), (50 : UInt8), (50 : UInt8), (50 : UInt8)] })).bind fun r23 =>
 some ({ Size := (3 : Int), Ops := [r23] })
 else
 if k0 = (11 : Int) then
 (A1 ({ data := #[(48 : UInt8), (48 : UInt8), (48 : UInt8), (48 : UInt8), (48 : UInt8), (48 : UInt8), (49 : UInt8), (48 : UInt8), (48 : UInt8), (49 : UInt8), (48 : UInt8), (48 : UInt8), (50 : UInt8), (48 : UInt8), (50 : UInt8), (48 : UInt8), (48 : UInt8), (48 : UInt8), (51 : UInt8), (51 : UInt8), (48 : UInt8), (49 : UInt8), (50 : UInt8), (51 : UInt8), (52 : UInt8)] })).bind fun r25 =>
 (A1 ({ data := #[(48 : UInt8), (49 : UInt8), (50 : UInt8), (51 : UInt8), (52 : UInt8), (49 : UInt8), (49 : UInt8), (52 : UInt8), (52 : UInt8), (52 : UInt8), (50 : UInt8), (52 : UInt8), (50 : UInt8), (52 : UInt8), (52 : UInt8), (51 : UInt8), (52 : UInt8), (52 : UInt8), (51 : UInt8), (52 : UInt8), (52 : UInt8), (52 : UInt8), (52 : UInt8), (52 : UInt8), (52 : UInt8)] })).bind fun r26 =>
 some ({ Size := (5 : Int), Ops := [r25, r26] })
 else
 if k0 = (12 : Int) then
 (A1 ({ data := #[(48 : UInt8), (49 : UInt8), (50 : UInt8), (51 : UInt8), (49 : UInt8), (50 : UInt8), (51 : UInt8), (48 : UInt8), (50 : UInt8), (51 : UInt8), (48 : UInt8), (49 : UInt8), (51 : UInt8), (48 : UInt8), (49 : UInt8), (50 : UInt8)] })).bind fun r28 =>
 some ({ Size := (4 : Int), Ops := [r28] })
 else
 if k0 = (13 : Int) then
 some ({ Size := (3 : Int), Ops := [{ Arity := (1 : Int), Table := [(0 : Int), (0 : Int), (1 : Int)] }, { Arity := (0 : Int), Table := [(2 : Int)] }] })
 else
 if k0 = (14 : Int) then
 (A1 ({ data := #[(48 : UInt8)] })).bind fun r31 =>
 some ({ Size := (1 : Int), Ops := [r31] })
 else
 if k0 = (15 : Int) then
 (Eh ((3 : Int))).bind fun r33 =>
 some ({ Size := (3 : Int), Ops := [r33] })
 else
 some ({ Size := (2 : Int), Ops := Bl SOp })
theorem Aam {k0 : Int} {v : SAlgebra} (h : F4 k0 = some v) : Ret Try.prog L4 [Af k0] ((Ai true) v) := by
 refine A5 Aba (Nat.le_of_ble_eq_true rfl) ?_
 unfold F4 at h
 conv => whnf
 refine Br.oe h (fun p1 h => ?_) (fun p1 h => ?_)
 ·conv => whnf
  refine CallQ.o (Aj true) (by first | rfl | simp only [Aa, V.fz, fzL, V.up, upL, Ab, Ac, Ad, slr, List.cons_append, List.nil_append] | simp [Aa, V.fz, fzL, V.up, upL, Ab, Ac, Ad, slr]) h (fun r h => Bb h) (fun r2 h => ?_)
  conv => whnf
  refine BslQ.o (Aj true) [r2] (by exact fun _ => ⟨rfl, rfl⟩) (by first | rfl | simp only [Aa, V.fz, fzL, V.up, upL, Ab, Ac, Ad, slr, List.cons_append, List.nil_append] | simp [Aa, V.fz, fzL, V.up, upL, Ab, Ac, Ad, slr]) ?_
  conv => whnf
  refine SetKids.lit rfl ?_
  conv => whnf
  cases h; exact (by first | rfl | simp only [Ah, Aa, V.fz, fzL, V.up, upL, Ab, Ac, Ad, slr] | simp [Ah, Aa, V.fz, fzL, V.up, upL, Ab, Ac, Ad, slr])
 conv => whnf
 refine Br.oe h (fun p3 h => ?_) (fun p3 h => ?_)
 ·conv => whnf
  refine CallQ.o (Aj true) (by first | rfl | simp only [Aa, V.fz, fzL, V.up, upL, Ab, Ac, Ad, slr, List.cons_append, List.nil_append] | simp [Aa, V.fz, fzL, V.up, upL, Ab, Ac, Ad, slr]) h (fun r h => Bb h) (fun r4 h => ?_)
  conv => whnf
  refine CallQ.o (Aj true) (by first | rfl | simp only [Aa, V.fz, fzL, V.up, upL, Ab, Ac, Ad, slr, List.cons_append, List.nil_append] | simp [Aa, V.fz, fzL, V.up, upL, Ab, Ac, Ad, slr]) h (fun r h => Bb h) (fun r5 h => ?_)
  conv => whnf
  refine BslQ.o (Aj true) ([r4, r5]) (by exact fun _ => ⟨rfl, rfl⟩) (by first | rfl | simp only [Aa, V.fz, fzL, V.up, upL, Ab, Ac, Ad, slr, List.cons_append, List.nil_append] | simp [Aa, V.fz, fzL, V.up, upL, Ab, Ac, Ad, slr]) ?_
  conv => whnf
  refine SetKids.lit rfl ?_
  conv => whnf
  cases h; exact (by first | rfl | simp only [Ah, Aa, V.fz, fzL, V.up, upL, Ab, Ac, Ad, slr] | simp [Ah, Aa, V.fz, fzL, V.up, upL, Ab, Ac, Ad, slr])
 conv => whnf
 refine Br.oe h (fun p6 h => ?_) (fun p6 h => ?_)
 ·conv => whnf
  refine CallQ.o (Aj true) (by first | rfl | simp only [Aa, V.fz, fzL, V.up, upL, Ab, Ac, Ad, slr, List.cons_append, List.nil_append] | simp [Aa, V.fz, fzL, V.up, upL, Ab, Ac, Ad, slr]) h (fun r h => Bb h) (fun r7 h => ?_)
  conv => whnf
  refine CallQ.o (Aj true) (by first | rfl | simp only [Aa, V.fz, fzL, V.up, upL, Ab, Ac, Ad, slr, List.cons_append, List.nil_append] | simp [Aa, V.fz, fzL, V.up, upL, Ab, Ac, Ad, slr]) h (fun r h => Bb h) (fun r8 h => ?_)
  conv => whnf
  refine BslQ.o Af ([(1 : Int), (0 : Int)]) (by exact fun _ => ⟨rfl, rfl⟩) (by first | rfl | simp only [Aa, V.fz, fzL, V.up, upL, Ab, Ac, Ad, slr, List.cons_append, List.nil_append] | simp [Aa, V.fz, fzL, V.up, upL, Ab, Ac, Ad, slr]) ?_
  conv => whnf
  refine BslQ.o (Aj true) ([r7, r8, { Arity := (1 : Int), Table := [(1 : Int), (0 : Int)] }]) (by exact fun _ => ⟨rfl, rfl⟩) (by first | rfl | simp only [Aa, V.fz, fzL, V.up, upL, Ab, Ac, Ad, slr, List.cons_append, List.nil_append] | simp [Aa, V.fz, fzL, V.up, upL, Ab, Ac, Ad, slr]) ?_
  conv => whnf
  refine SetKids.lit rfl ?_
  conv => whnf
  cases h; exact (by first | rfl | simp only [Ah, Aa, V.fz, fzL, V.up, upL, Ab, Ac, Ad, slr] | simp [Ah, Aa, V.fz, fzL, V.up, upL, Ab, Ac, Ad, slr])
 conv => whnf
 refine Br.oe h (fun p9 h => ?_) (fun p9 h => ?_)
 ·conv => whnf
  refine CallQ.o (Aj true) (by first | rfl | simp only [Aa, V.fz, fzL, V.up, upL, Ab, Ac, Ad, slr, List.cons_append, List.nil_append] | simp [Aa, V.fz, fzL, V.up, upL, Ab, Ac, Ad, slr]) h (fun r h => Qj h) (fun r10 h => ?_)
  conv => whnf
  refine BslQ.o (Aj true) [r10] (by exact fun _ => ⟨rfl, rfl⟩) (by first | rfl | simp only [Aa, V.fz, fzL, V.up, upL, Ab, Ac, Ad, slr, List.cons_append, List.nil_append] | simp [Aa, V.fz, fzL, V.up, upL, Ab, Ac, Ad, slr]) ?_
  conv => whnf
  refine SetKids.lit rfl ?_
  conv => whnf
  cases h; exact (by first | rfl | simp only [Ah, Aa, V.fz, fzL, V.up, upL, Ab, Ac, Ad, slr] | simp [Ah, Aa, V.fz, fzL, V.up, upL, Ab, Ac, Ad, slr])
 conv => whnf
 refine Br.oe h (fun p11 h => ?_) (fun p11 h => ?_)
 ·conv => whnf
  refine CallQ.o (Aj true) (by first | rfl | simp only [Aa, V.fz, fzL, V.up, upL, Ab, Ac, Ad, slr, List.cons_append, List.nil_append] | simp [Aa, V.fz, fzL, V.up, upL, Ab, Ac, Ad, slr]) h (fun r h => Bb h) (fun r12 h => ?_)
  conv => whnf
  refine BslQ.o (Aj true) [r12] (by exact fun _ => ⟨rfl, rfl⟩) (by first | rfl | simp only [Aa, V.fz, fzL, V.up, upL, Ab, Ac, Ad, slr, List.cons_append, List.nil_append] | simp [Aa, V.fz, fzL, V.up, upL, Ab, Ac, Ad, slr]) ?_
  conv => whnf
  refine SetKids.lit rfl ?_
  conv => whnf
  cases h; exact (by first | rfl | simp only [Ah, Aa, V.fz, fzL, V.up, upL, Ab, Ac, Ad, slr] | simp [Ah, Aa, V.fz, fzL, V.up, upL, Ab, Ac, Ad, slr])
 conv => whnf
 refine Br.oe h (fun p13 h => ?_) (fun p13 h => ?_)
 ·conv => whnf
  refine CallQ.o (Aj true) (by first | rfl | simp only [Aa, V.fz, fzL, V.up, upL, Ab, Ac, Ad, slr, List.cons_append, List.nil_append] | simp [Aa, V.fz, fzL, V.up, upL, Ab, Ac, Ad, slr]) h (fun r h => Bb h) (fun r14 h => ?_)
  conv => whnf
  refine BslQ.o (Aj true) [r14] (by exact fun _ => ⟨rfl, rfl⟩) (by first | rfl | simp only [Aa, V.fz, fzL, V.up, upL, Ab, Ac, Ad, slr, List.cons_append, List.nil_append] | simp [Aa, V.fz, fzL, V.up, upL, Ab, Ac, Ad, slr]) ?_
  conv => whnf
  refine SetKids.lit rfl ?_
  conv => whnf
  cases h; exact (by first | rfl | simp only [Ah, Aa, V.fz, fzL, V.up, upL, Ab, Ac, Ad, slr] | simp [Ah, Aa, V.fz, fzL, V.up, upL, Ab, Ac, Ad, slr])
 conv => whnf
 refine Br.oe h (fun p15 h => ?_) (fun p15 h => ?_)
 ·conv => whnf
  refine CallQ.o (Aj true) (by first | rfl | simp only [Aa, V.fz, fzL, V.up, upL, Ab, Ac, Ad, slr, List.cons_append, List.nil_append] | simp [Aa, V.fz, fzL, V.up, upL, Ab, Ac, Ad, slr]) h (fun r h => Bb h) (fun r16 h => ?_)
  conv => whnf
  refine BslQ.o (Aj true) [r16] (by exact fun _ => ⟨rfl, rfl⟩) (by first | rfl | simp only [Aa, V.fz, fzL, V.up, upL, Ab, Ac, Ad, slr, List.cons_append, List.nil_append] | simp [Aa, V.fz, fzL, V.up, upL, Ab, Ac, Ad, slr]) ?_
  conv => whnf
  refine SetKids.lit rfl ?_
  conv => whnf
  cases h; exact (by first | rfl | simp only [Ah, Aa, V.fz, fzL, V.up, upL, Ab, Ac, Ad, slr] | simp [Ah, Aa, V.fz, fzL, V.up, upL, Ab, Ac, Ad, slr])
 conv => whnf
 refine Br.oe h (fun p17 h => ?_) (fun p17 h => ?_)
 ·conv => whnf
  refine CallQ.o (Aj true) (by first | rfl | simp only [Aa, V.fz, fzL, V.up, upL, Ab, Ac, Ad, slr, List.cons_append, List.nil_append] | simp [Aa, V.fz, fzL, V.up, upL, Ab, Ac, Ad, slr]) h (fun r h => Bb h) (fun r18 h => ?_)
  conv => whnf
  refine CallQ.o (Aj true) (by first | rfl | simp only [Aa, V.fz, fzL, V.up, upL, Ab, Ac, Ad, slr, List.cons_append, List.nil_append] | simp [Aa, V.fz, fzL, V.up, upL, Ab, Ac, Ad, slr]) h (fun r h => Bb h) (fun r19 h => ?_)
  conv => whnf
  refine BslQ.o (Aj true) ([r18, r19]) (by exact fun _ => ⟨rfl, rfl⟩) (by first | rfl | simp only [Aa, V.fz, fzL, V.up, upL, Ab, Ac, Ad, slr, List.cons_append, List.nil_append] | simp [Aa, V.fz, fzL, V.up, upL, Ab, Ac, Ad, slr]) ?_
  conv => whnf
  refine SetKids.lit rfl ?_
  conv => whnf
  cases h; exact (by first | rfl | simp only [Ah, Aa, V.fz, fzL, V.up, upL, Ab, Ac, Ad, slr] | simp [Ah, Aa, V.fz, fzL, V.up, upL, Ab, Ac, Ad, slr])
 conv => whnf
 refine Br.oe h (fun p20 h => ?_) (fun p20 h => ?_)
 ·conv => whnf
  refine BslQ.o Af ([(1 : Int), (2 : Int), (3 : Int), (0 : Int)]) (by exact fun _ => ⟨rfl, rfl⟩) (by first | rfl | simp only [Aa, V.fz, fzL, V.up, upL, Ab, Ac, Ad, slr, List.cons_append, List.nil_append] | simp [Aa, V.fz, fzL, V.up, upL, Ab, Ac, Ad, slr]) ?_
  conv => whnf
  refine BslQ.o (Aj true) ([{ Arity := (1 : Int), Table := [(1 : Int), (2 : Int), (3 : Int), (0 : Int)] }]) (by exact fun _ => ⟨rfl, rfl⟩) (by first | rfl | simp only [Aa, V.fz, fzL, V.up, upL, Ab, Ac, Ad, slr, List.cons_append, List.nil_append] | simp [Aa, V.fz, fzL, V.up, upL, Ab, Ac, Ad, slr]) ?_
  conv => whnf
  refine SetKids.lit rfl ?_
  conv => whnf
  cases h; exact (by first | rfl | simp only [Ah, Aa, V.fz, fzL, V.up, upL, Ab, Ac, Ad, slr] | simp [Ah, Aa, V.fz, fzL, V.up, upL, Ab, Ac, Ad, slr])
 conv => whnf
 refine Br.oe h (fun p21 h => ?_) (fun p21 h => ?_)
 ·conv => whnf
  refine BslQ.o Af ([(0 : Int), (0 : Int), (0 : Int), (1 : Int), (0 : Int), (1 : Int), (1 : Int), (1 : Int)]) (by exact fun _ => ⟨rfl, rfl⟩) (by first | rfl | simp only [Aa, V.fz, fzL, V.up, upL, Ab, Ac, Ad, slr, List.cons_append, List.nil_append] | simp [Aa, V.fz, fzL, V.up, upL, Ab, Ac, Ad, slr]) ?_
  conv => whnf
  refine BslQ.o (Aj true) ([{ Arity := (3 : Int), Table := [(0 : Int), (0 : Int), (0 : Int), (1 : Int), (0 : Int), (1 : Int), (1 : Int), (1 : Int)] }]) (by exact fun _ => ⟨rfl, rfl⟩) (by first | rfl | simp only [Aa, V.fz, fzL, V.up, upL, Ab, Ac, Ad, slr, List.cons_append, List.nil_append] | simp [Aa, V.fz, fzL, V.up, upL, Ab, Ac, Ad, slr]) ?_
  conv => whnf
  refine SetKids.lit rfl ?_
  conv => whnf
  cases h; exact (by first | rfl | simp only [Ah, Aa, V.fz, fzL, V.up, upL, Ab, Ac, Ad, slr] | simp [Ah, Aa, V.fz, fzL, V.up, upL, Ab, Ac, Ad, slr])
 conv => whnf
 refine Br.oe h (fun p22 h => ?_) (fun p22 h => ?_)
 ·conv => whnf
  refine CallQ.o (Aj true) (by first | rfl | simp only [Aa, V.fz, fzL, V.up, upL, Ab, Ac, Ad, slr, List.cons_append, List.nil_append] | simp [Aa, V.fz, fzL, V.up, upL, Ab, Ac, Ad, slr]) h (fun r h => Bb h) (fun r23 h => ?_)
  conv => whnf
  refine BslQ.o (Aj true) [r23] (by exact fun _ => ⟨rfl, rfl⟩) (by first | rfl | simp only [Aa, V.fz, fzL, V.up, upL, Ab, Ac, Ad, slr, List.cons_append, List.nil_append] | simp [Aa, V.fz, fzL, V.up, upL, Ab, Ac, Ad, slr]) ?_
  conv => whnf
  refine SetKids.lit rfl ?_
  conv => whnf
  cases h; exact (by first | rfl | simp only [Ah, Aa, V.fz, fzL, V.up, upL, Ab, Ac, Ad, slr] | simp [Ah, Aa, V.fz, fzL, V.up, upL, Ab, Ac, Ad, slr])
 conv => whnf
 refine Br.oe h (fun p24 h => ?_) (fun p24 h => ?_)
 ·conv => whnf
  refine CallQ.o (Aj true) (by first | rfl | simp only [Aa, V.fz, fzL, V.up, upL, Ab, Ac, Ad, slr, List.cons_append, List.nil_append] | simp [Aa, V.fz, fzL, V.up, upL, Ab, Ac, Ad, slr]) h (fun r h => Bb h) (fun r25 h => ?_)
  conv => whnf
  refine CallQ.o (Aj true) (by first | rfl | simp only [Aa, V.fz, fzL, V.up, upL, Ab, Ac, Ad, slr, List.cons_append, List.nil_append] | simp [Aa, V.fz, fzL, V.up, upL, Ab, Ac, Ad, slr]) h (fun r h => Bb h) (fun r26 h => ?_)
  conv => whnf
  refine BslQ.o (Aj true) ([r25, r26]) (by exact fun _ => ⟨rfl, rfl⟩) (by first | rfl | simp only [Aa, V.fz, fzL, V.up, upL, Ab, Ac, Ad, slr, List.cons_append, List.nil_append] | simp [Aa, V.fz, fzL, V.up, upL, Ab, Ac, Ad, slr]) ?_
  conv => whnf
  refine SetKids.lit rfl ?_
  conv => whnf
  cases h; exact (by first | rfl | simp only [Ah, Aa, V.fz, fzL, V.up, upL, Ab, Ac, Ad, slr] | simp [Ah, Aa, V.fz, fzL, V.up, upL, Ab, Ac, Ad, slr])
 conv => whnf
 refine Br.oe h (fun p27 h => ?_) (fun p27 h => ?_)
 ·conv => whnf
  refine CallQ.o (Aj true) (by first | rfl | simp only [Aa, V.fz, fzL, V.up, upL, Ab, Ac, Ad, slr, List.cons_append, List.nil_append] | simp [Aa, V.fz, fzL, V.up, upL, Ab, Ac, Ad, slr]) h (fun r h => Bb h) (fun r28 h => ?_)
  conv => whnf
  refine BslQ.o (Aj true) [r28] (by exact fun _ => ⟨rfl, rfl⟩) (by first | rfl | simp only [Aa, V.fz, fzL, V.up, upL, Ab, Ac, Ad, slr, List.cons_append, List.nil_append] | simp [Aa, V.fz, fzL, V.up, upL, Ab, Ac, Ad, slr]) ?_
  conv => whnf
  refine SetKids.lit rfl ?_
  conv => whnf
  cases h; exact (by first | rfl | simp only [Ah, Aa, V.fz, fzL, V.up, upL, Ab, Ac, Ad, slr] | simp [Ah, Aa, V.fz, fzL, V.up, upL, Ab, Ac, Ad, slr])
 conv => whnf
 refine Br.oe h (fun p29 h => ?_) (fun p29 h => ?_)
 ·conv => whnf
  refine BslQ.o Af ([(0 : Int), (0 : Int), (1 : Int)]) (by exact fun _ => ⟨rfl, rfl⟩) (by first | rfl | simp only [Aa, V.fz, fzL, V.up, upL, Ab, Ac, Ad, slr, List.cons_append, List.nil_append] | simp [Aa, V.fz, fzL, V.up, upL, Ab, Ac, Ad, slr]) ?_
  conv => whnf
  refine BslQ.o Af ([(2 : Int)]) (by exact fun _ => ⟨rfl, rfl⟩) (by first | rfl | simp only [Aa, V.fz, fzL, V.up, upL, Ab, Ac, Ad, slr, List.cons_append, List.nil_append] | simp [Aa, V.fz, fzL, V.up, upL, Ab, Ac, Ad, slr]) ?_
  conv => whnf
  refine BslQ.o (Aj true) ([{ Arity := (1 : Int), Table := [(0 : Int), (0 : Int), (1 : Int)] }, { Arity := (0 : Int), Table := [(2 : Int)] }]) (by exact fun _ => ⟨rfl, rfl⟩) (by first | rfl | simp only [Aa, V.fz, fzL, V.up, upL, Ab, Ac, Ad, slr, List.cons_append, List.nil_append] | simp [Aa, V.fz, fzL, V.up, upL, Ab, Ac, Ad, slr]) ?_
  conv => whnf
  refine SetKids.lit rfl ?_
  conv => whnf
  cases h; exact (by first | rfl | simp only [Ah, Aa, V.fz, fzL, V.up, upL, Ab, Ac, Ad, slr] | simp [Ah, Aa, V.fz, fzL, V.up, upL, Ab, Ac, Ad, slr])
 conv => whnf
 refine Br.oe h (fun p30 h => ?_) (fun p30 h => ?_)
 ·conv => whnf
  refine CallQ.o (Aj true) (by first | rfl | simp only [Aa, V.fz, fzL, V.up, upL, Ab, Ac, Ad, slr, List.cons_append, List.nil_append] | simp [Aa, V.fz, fzL, V.up, upL, Ab, Ac, Ad, slr]) h (fun r h => Bb h) (fun r31 h => ?_)
  conv => whnf
  refine BslQ.o (Aj true) [r31] (by exact fun _ => ⟨rfl, rfl⟩) (by first | rfl | simp only [Aa, V.fz, fzL, V.up, upL, Ab, Ac, Ad, slr, List.cons_append, List.nil_append] | simp [Aa, V.fz, fzL, V.up, upL, Ab, Ac, Ad, slr]) ?_
  conv => whnf
  refine SetKids.lit rfl ?_
  conv => whnf
  cases h; exact (by first | rfl | simp only [Ah, Aa, V.fz, fzL, V.up, upL, Ab, Ac, Ad, slr] | simp [Ah, Aa, V.fz, fzL, V.up, upL, Ab, Ac, Ad, slr])
 conv => whnf
 refine Br.oe h (fun p32 h => ?_) (fun p32 h => ?_)
 ·conv => whnf
  refine CallQ.o (Aj true) (by first | rfl | simp only [Aa, V.fz, fzL, V.up, upL, Ab, Ac, Ad, slr, List.cons_append, List.nil_append] | simp [Aa, V.fz, fzL, V.up, upL, Ab, Ac, Ad, slr]) h (fun r h => Qj h) (fun r33 h => ?_)
  conv => whnf
  refine BslQ.o (Aj true) [r33] (by exact fun _ => ⟨rfl, rfl⟩) (by first | rfl | simp only [Aa, V.fz, fzL, V.up, upL, Ab, Ac, Ad, slr, List.cons_append, List.nil_append] | simp [Aa, V.fz, fzL, V.up, upL, Ab, Ac, Ad, slr]) ?_
  conv => whnf
  refine SetKids.lit rfl ?_
  conv => whnf
  cases h; exact (by first | rfl | simp only [Ah, Aa, V.fz, fzL, V.up, upL, Ab, Ac, Ad, slr] | simp [Ah, Aa, V.fz, fzL, V.up, upL, Ab, Ac, Ad, slr])
 conv => whnf
 refine SetKids.lit rfl ?_
 conv => whnf
 cases h; exact (by first | rfl | simp only [Ah, Aa, V.fz, fzL, V.up, upL, Ab, Ac, Ad, slr] | simp [Ah, Aa, V.fz, fzL, V.up, upL, Ab, Ac, Ad, slr])
noncomputable def Ij (a0 : SAlgebra) (b0 : SAlgebra) (f0 : (List Int)) : Option Bool :=
 if (↑f0.length : Int) = a0.Size then
 (Es (f0) (b0.Size)).bind fun r2 =>
 some r2
 else
 some false
theorem Afg {a0 : SAlgebra} {b0 : SAlgebra} {f0 : (List Int)} {v : Bool} (h : Ij a0 b0 f0 = some v) : Ret Try.prog P6 [(Ai false) a0, (Ai false) b0, (slr false 1 Af) f0] (V.bool v) := by
 refine A5 Agp (Nat.le_of_ble_eq_true rfl) ?_
 unfold Ij at h
 conv => whnf
 refine Len.map ?_
 conv => whnf
 refine Cells.lit rfl rfl ?_
 conv => whnf
 refine Br.oe h (fun p1 h => ?_) (fun p1 h => ?_)
 ·conv => whnf
  refine Br.yes ?_
  conv => whnf
  refine Br.yes ?_
  conv => whnf
  refine Cells.lit rfl rfl ?_
  conv => whnf
  refine Br.yes ?_
  conv => whnf
  refine CallQ.o V.bool (by first | rfl | simp only [Aa, V.fz, fzL, V.up, upL, Ab, Ac, Ad, slr, List.cons_append, List.nil_append] | simp [Aa, V.fz, fzL, V.up, upL, Ab, Ac, Ad, slr]) h (fun r h => Ob h) (fun r2 h => ?_)
  conv => whnf
  refine Br.yes ?_
  conv => whnf
  cases h; exact (by first | rfl | simp only [Ah, Aa, V.fz, fzL, V.up, upL, Ab, Ac, Ad, slr] | simp [Ah, Aa, V.fz, fzL, V.up, upL, Ab, Ac, Ad, slr])
 conv => whnf
 refine Br.no ?_
 conv => whnf
 refine Br.no ?_
 conv => whnf
 refine Br.no ?_
 conv => whnf
 refine Br.no ?_
 conv => whnf
 cases h; exact (by first | rfl | simp only [Ah, Aa, V.fz, fzL, V.up, upL, Ab, Ac, Ad, slr] | simp [Ah, Aa, V.fz, fzL, V.up, upL, Ab, Ac, Ad, slr])
noncomputable def Dq (a0 : SAlgebra) (b0 : SAlgebra) (f0 : List Int) (x15 : Int) : Int → Option (Int ⊕ (Int ⊕ Unit)) := fun x23 =>
 if x23 < (↑(nth a0.Ops x15.toNat).Table.length : Int) then
 ask ((0 : Int) ≤ x23 ∧ x23 < (↑(nth a0.Ops x15.toNat).Table.length : Int)) <|
 ask ((0 : Int) ≤ nth (nth a0.Ops x15.toNat).Table x23.toNat ∧ nth (nth a0.Ops x15.toNat).Table x23.toNat < (↑f0.length : Int)) <|
 ask ((0 : Int) ≤ x15 ∧ x15 < (↑b0.Ops.length : Int)) <|
 (Ej (x23) ((nth a0.Ops x15.toNat).Arity) (a0) (b0) (f0)).bind fun r7 =>
 ask ((0 : Int) ≤ r7 ∧ r7 < (↑(nth b0.Ops x15.toNat).Table.length : Int)) <|
 if nth f0 (nth (nth a0.Ops x15.toNat).Table x23.toNat).toNat ≠ nth (nth b0.Ops x15.toNat).Table r7.toNat then
 some (.inr (.inl x23))
 else
 ask (InI (x23 + (1 : Int))) <|
 some (.inl (x23 + (1 : Int)))
 else
 some (.inr (.inr ()))
def Ig (a0 : SAlgebra) (b0 : SAlgebra) (f0 : List Int) (x15 : Int) : Int → St := fun s => [(23, A.val (Af s)), (22, A.val (Af ((↑(nth a0.Ops x15.toNat).Table.length : Int)))), (21, A.val ((slr false 1 Af) ((nth a0.Ops x15.toNat).Table))), (8, A.val (Af (x15))), (9, A.val ((rP true (Aj false)) (nth a0.Ops x15.toNat))), (15, A.val (Af (x15))), (14, A.val (Af ((↑a0.Ops.length : Int)))), (13, A.val ((slr false 2 (Aj false)) (a0.Ops))), (4, A.val ((rP true (Ai false)) (b0))), (3, A.val ((rP true (Ai false)) (a0))), (2, A.val ((slr false 1 Af) (f0)))]
def Nj (a0 : SAlgebra) (b0 : SAlgebra) (f0 : List Int) (x15 : Int) : (Int ⊕ Unit) → Tgt
 | (.inl s) => (Ex.ret, [7, 6], [(7, A.val (Af s)), (6, A.val (Af (x15)))])
 | (.inr _s) => ((Ex.exit 2), [15, 14, 13, 4, 3, 2], [(15, A.val (Af (x15))), (14, A.val (Af ((↑a0.Ops.length : Int)))), (13, A.val ((slr false 2 (Aj false)) (a0.Ops))), (4, A.val ((rP true (Ai false)) (b0))), (3, A.val ((rP true (Ai false)) (a0))), (2, A.val ((slr false 1 Af) (f0)))])
theorem Ur {a0 : SAlgebra} {b0 : SAlgebra} {f0 : List Int} {x15 : Int} (x23 : Int) (o : Int ⊕ (Int ⊕ Unit)) (h : Dq a0 b0 f0 x15 x23 = some o) : vc Try.prog N2 (Dx [23, 22, 21, 8, 9, 15, 14, 13, 4, 3, 2] (Ig a0 b0 f0 x15) (Nj a0 b0 f0 x15) o) (Ig a0 b0 f0 x15 x23) := by
 unfold Dq at h
 try dsimp only at h
 conv => whnf
 refine Br.od h (fun p3 h => ?_) (fun p3 h => ?_)
 ·conv => whnf
  refine Len.map ?_
  conv => whnf
  refine Ask.o h fun p4 h => ?_
  conv => whnf
  refine Elem.o (by first | omega | (simp [A4] at *; omega)) ?_
  conv => whnf
  refine Len.map ?_
  conv => whnf
  refine Ask.o h fun p5 h => ?_
  conv => whnf
  refine Elem.o (by first | omega | (simp [A4] at *; omega)) ?_
  conv => whnf
  refine Cells.lit rfl rfl ?_
  conv => whnf
  refine Len.map ?_
  conv => whnf
  refine Ask.o h fun p6 h => ?_
  conv => whnf
  refine Elem.o (by first | omega | (simp [A4] at *; omega)) ?_
  conv => whnf
  refine Cells.lit rfl rfl ?_
  conv => whnf
  refine Cells.lit rfl rfl ?_
  conv => whnf
  refine Cells.lit rfl rfl ?_
  conv => whnf
  refine CallP.o Af (by first | rfl | simp only [Aa, V.fz, fzL, V.up, upL, Ab, Ac, Ad, slr, List.cons_append, List.nil_append] | simp [Aa, V.fz, fzL, V.up, upL, Ab, Ac, Ad, slr]) h (fun r h => Vc h) (fun r7 h => ?_)
  conv => whnf
  refine Len.map ?_
  conv => whnf
  refine Ask.o h fun p8 h => ?_
  conv => whnf
  refine Elem.o (by first | omega | (simp [A4] at *; omega)) ?_
  conv => whnf
  refine Br.on h (fun p9 h => ?_) (fun p9 h => ?_)
  ·conv => whnf
   cases h; exact ⟨rfl, rfl⟩
  conv => whnf
  refine Ask.o h fun p10 h => ?_
  conv => whnf
  cases h; exact ⟨rfl, rfl⟩
 conv => whnf
 cases h; exact ⟨rfl, rfl⟩
noncomputable def Dp (a0 : SAlgebra) (b0 : SAlgebra) (f0 : List Int) : Int → Option (Int ⊕ ((Int × Int) ⊕ Unit)) := fun x15 =>
 if x15 < (↑a0.Ops.length : Int) then
 ask ((0 : Int) ≤ x15 ∧ x15 < (↑a0.Ops.length : Int)) <|
 (Ap (Dq a0 b0 f0 x15) (0 : Int)).bind fun t => match t with
 | (.inl q11_7) => (some (.inr (.inl (q11_7, x15))))
 | (.inr _) => (ask (InI (x15 + (1 : Int))) <|
 some (.inl (x15 + (1 : Int))))
 else
 some (.inr (.inr ()))
def Ip (a0 : SAlgebra) (b0 : SAlgebra) (f0 : List Int) : Int → St := fun s => [(15, A.val (Af s)), (14, A.val (Af ((↑a0.Ops.length : Int)))), (13, A.val ((slr false 2 (Aj false)) (a0.Ops))), (4, A.val ((rP true (Ai false)) (b0))), (3, A.val ((rP true (Ai false)) (a0))), (2, A.val ((slr false 1 Af) (f0)))]
def M6 (_a0 : SAlgebra) (_b0 : SAlgebra) (_f0 : List Int) : ((Int × Int) ⊕ Unit) → Tgt
 | (.inl s) => (Ex.ret, [7, 6], [(7, A.val (Af s.1)), (6, A.val (Af s.2))])
 | (.inr _s) => ((Ex.exit 0), [], [])
theorem Uw {a0 : SAlgebra} {b0 : SAlgebra} {f0 : List Int} (x15 : Int) (o : Int ⊕ ((Int × Int) ⊕ Unit)) (h : Dp a0 b0 f0 x15 = some o) : vc Try.prog Nb (Dx [15, 14, 13, 4, 3, 2] (Ip a0 b0 f0) (M6 a0 b0 f0) o) (Ip a0 b0 f0 x15) := by
 unfold Dp at h
 try dsimp only at h
 conv => whnf
 refine Br.od h (fun p1 h => ?_) (fun p1 h => ?_)
 ·conv => whnf
  refine Len.map ?_
  conv => whnf
  refine Ask.o h fun p2 h => ?_
  conv => whnf
  refine Elem.o (by first | omega | (simp [A4] at *; omega)) ?_
  conv => whnf
  refine SetKids.lit rfl ?_
  conv => whnf
  refine Cells.lit rfl rfl ?_
  conv => whnf
  refine Len.map ?_
  conv => whnf
  refine LoopQ.o [23, 22, 21, 8, 9, 15, 14, 13, 4, 3, 2] (Ig a0 b0 f0 x15) (Nj a0 b0 f0 x15) h (fun s o h => Ur s o h) (by first | rfl | simp [restrict, look, Aa, V.fz, fzL, V.up, upL, Ab, Ac, Ad, slr]) (by rintro (_ | _) <;> rfl) ?_
  rintro (q11_7 | ⟨⟩) h
  ·try dsimp only at h
   conv => whnf
   cases h; exact ⟨rfl, rfl⟩
  try dsimp only at h
  conv => whnf
  refine Ask.o h fun p12 h => ?_
  conv => whnf
  cases h; exact ⟨rfl, rfl⟩
 conv => whnf
 cases h; exact ⟨rfl, rfl⟩
noncomputable def E4 (a0 : SAlgebra) (b0 : SAlgebra) (f0 : (List Int)) : Option (Int × Int) :=
 (Ap (Dp a0 b0 f0) (0 : Int)).bind fun t => match t with
 | (.inl (q13_7, q13_6)) => (some (q13_6, q13_7))
 | (.inr _) => (some ((-1 : Int), (0 : Int)))
theorem Zs {a0 : SAlgebra} {b0 : SAlgebra} {f0 : (List Int)} {v : (Int × Int)} (h : E4 a0 b0 f0 = some v) : Ret Try.prog Md [(Ai false) a0, (Ai false) b0, (slr false 1 Af) f0] ((fun r => V.tup [Af r.1, Af r.2]) v) := by
 refine A5 Zl (Nat.le_of_ble_eq_true rfl) ?_
 unfold E4 at h
 conv => whnf
 refine Cells.lit rfl rfl ?_
 conv => whnf
 refine Len.map ?_
 conv => whnf
 refine LoopQ.o [15, 14, 13, 4, 3, 2] (Ip a0 b0 f0) (M6 a0 b0 f0) h (fun s o h => Uw s o h) (by first | rfl | simp [restrict, look, Aa, V.fz, fzL, V.up, upL, Ab, Ac, Ad, slr]) (by rintro (_ | _) <;> rfl) ?_
 rintro (⟨q13_7, q13_6⟩ | ⟨⟩) h
 ·try dsimp only at h
  conv => whnf
  cases h; exact (by first | rfl | simp only [Ah, Aa, V.fz, fzL, V.up, upL, Ab, Ac, Ad, slr] | simp [Ah, Aa, V.fz, fzL, V.up, upL, Ab, Ac, Ad, slr])
 try dsimp only at h
 conv => whnf
 cases h; exact (by first | rfl | simp only [Ah, Aa, V.fz, fzL, V.up, upL, Ab, Ac, Ad, slr] | simp [Ah, Aa, V.fz, fzL, V.up, upL, Ab, Ac, Ad, slr])
end Go.Proofs.Ytcpgnfohmeineaa.Ax
