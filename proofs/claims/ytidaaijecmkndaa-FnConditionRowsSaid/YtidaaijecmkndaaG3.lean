/-
 What the functions compute, as functions on plain data, and that the program does compute it; written by program.
-/
import Derived.Test.YtidaaijecmkndaaCode
import Derived.Test.YtidaaijecmkndaaG1
import Derived.Test.YtidaaijecmkndaaG2
namespace Go.Proofs.Ytidaaijecmkndaa.Ax
open Go
set_option maxRecDepth 100000
set_option maxHeartbeats 4000000
noncomputable def Am (c0 : Sl1Cur) (n0 : Int) : Option (Int × Sl1Cur) :=
 if n0 ≤ (1 : Int) then
 some ((0 : Int), c0)
 else
 (Do (c0)).bind fun (r2, u3) =>
 if n0 > (200 : Int) then
 ask (InI (r2 * (256 : Int))) <|
 (Do (u3)).bind fun (r6, u7) =>
 ask (InI (r2 * (256 : Int) + r6)) <|
 ask (n0 ≠ (0 : Int)) <|
 some ((r2 * (256 : Int) + r6).tmod n0, u7)
 else
 ask (n0 ≠ (0 : Int)) <|
 some (r2.tmod n0, u3)
theorem Aq {c0 : Sl1Cur} {n0 : Int} {v : (Int × Sl1Cur)} (h : Am c0 n0 = some v) : Tc Try.prog Ap [(rP true (Aj false)) c0, Ae n0] (Ae v.1) 0 ((rP true (Aj false)) v.2) := by
 refine Mz Ur (Nat.le_of_ble_eq_true rfl) ?_
 unfold Am at h
 conv => whnf
 refine Br.od h (fun p1 h => ?_) (fun p1 h => ?_)
 ·conv => whnf
  cases h; exact ⟨(by first | rfl | simp only [Ah, Aa, V.fz, fzL, V.up, upL, Ab, Ac, Ad, slr] | simp [Ah, Aa, V.fz, fzL, V.up, upL, Ab, Ac, Ad, slr]), (by first | rfl | simp only [Ah, Aa, V.fz, fzL, V.up, upL, Ab, Ac, Ad, slr] | simp [Ah, Aa, V.fz, fzL, V.up, upL, Ab, Ac, Ad, slr])⟩
 conv => whnf
 refine CallQ.io Ae (rP true (Aj false)) (by first | rfl | simp only [Aa, V.fz, fzL, V.up, upL, Ab, Ac, Ad, slr, List.cons_append, List.nil_append] | simp [Aa, V.fz, fzL, V.up, upL, Ab, Ac, Ad, slr]) rfl (fun _ => rfl) (fun _ => ⟨rfl, rfl⟩) rfl h (fun r h => Mx h) (fun r2 u3 h => ?_)
 conv => whnf
 refine Br.od h (fun p4 h => ?_) (fun p4 h => ?_)
 ·conv => whnf
  refine Ask.o h fun p5 h => ?_
  conv => whnf
  refine CallQ.io Ae (rP true (Aj false)) (by first | rfl | simp only [Aa, V.fz, fzL, V.up, upL, Ab, Ac, Ad, slr, List.cons_append, List.nil_append] | simp [Aa, V.fz, fzL, V.up, upL, Ab, Ac, Ad, slr]) rfl (fun _ => rfl) (fun _ => ⟨rfl, rfl⟩) rfl h (fun r h => Mx h) (fun r6 u7 h => ?_)
  conv => whnf
  refine Ask.o h fun p8 h => ?_
  conv => whnf
  refine Ask.o h fun p9 h => ?_
  conv => whnf
  cases h; exact ⟨(by first | rfl | simp only [Ah, Aa, V.fz, fzL, V.up, upL, Ab, Ac, Ad, slr] | simp [Ah, Aa, V.fz, fzL, V.up, upL, Ab, Ac, Ad, slr]), (by first | rfl | simp only [Ah, Aa, V.fz, fzL, V.up, upL, Ab, Ac, Ad, slr] | simp [Ah, Aa, V.fz, fzL, V.up, upL, Ab, Ac, Ad, slr])⟩
 conv => whnf
 refine Ask.o h fun p10 h => ?_
 conv => whnf
 cases h; exact ⟨(by first | rfl | simp only [Ah, Aa, V.fz, fzL, V.up, upL, Ab, Ac, Ad, slr] | simp [Ah, Aa, V.fz, fzL, V.up, upL, Ab, Ac, Ad, slr]), (by first | rfl | simp only [Ah, Aa, V.fz, fzL, V.up, upL, Ab, Ac, Ad, slr] | simp [Ah, Aa, V.fz, fzL, V.up, upL, Ab, Ac, Ad, slr])⟩
noncomputable def Fn (k0 : Int) : Option SAlgebra :=
 if k0 = (0 : Int) then
 (A2 ({ data := #[(48 : UInt8), (48 : UInt8), (48 : UInt8), (49 : UInt8)] })).bind fun r2 =>
 some ({ Size := (2 : Int), Ops := [r2] })
 else
 if k0 = (1 : Int) then
 (A2 ({ data := #[(48 : UInt8), (48 : UInt8), (48 : UInt8), (49 : UInt8)] })).bind fun r4 =>
 (A2 ({ data := #[(48 : UInt8), (49 : UInt8), (49 : UInt8), (49 : UInt8)] })).bind fun r5 =>
 some ({ Size := (2 : Int), Ops := [r4, r5] })
 else
 if k0 = (2 : Int) then
 (A2 ({ data := #[(48 : UInt8), (48 : UInt8), (48 : UInt8), (49 : UInt8)] })).bind fun r7 =>
 (A2 ({ data := #[(48 : UInt8), (49 : UInt8), (49 : UInt8), (49 : UInt8)] })).bind fun r8 =>
 some ({ Size := (2 : Int), Ops := [r7, r8, { Arity := (1 : Int), Table := [(1 : Int), (0 : Int)] }] })
 else
 if k0 = (3 : Int) then
 (E2 ((2 : Int))).bind fun r10 =>
 some ({ Size := (2 : Int), Ops := [r10] })
 else
 if k0 = (4 : Int) then
 (A2 ({ data := #[(48 : UInt8), (49 : UInt8), (50 : UInt8), (49 : UInt8), (50 : UInt8), (48 : UInt8), (50 : UInt8), (48 : UInt8), (49 : UInt8)] })).bind fun r12 =>
 some ({ Size := (3 : Int), Ops := [r12] })
 else
 if k0 = (5 : Int) then
 (A2 ({ data := #[(48 : UInt8), (49 : UInt8), (48 : UInt8), (49 : UInt8), (49 : UInt8), (50 : UInt8), (48 : UInt8), (50 : UInt8), (50 : UInt8)] })).bind fun r14 =>
 some ({ Size := (3 : Int), Ops := [r14] })
 else
 if k0 = (6 : Int) then
 (A2 ({ data := #[(48 : UInt8), (49 : UInt8), (50 : UInt8), (51 : UInt8), (49 : UInt8), (48 : UInt8), (51 : UInt8), (50 : UInt8), (50 : UInt8), (51 : UInt8), (48 : UInt8), (49 : UInt8), (51 : UInt8), (50 : UInt8), (49 : UInt8), (48 : UInt8)] })).bind fun r16 =>
 some ({ Size := (4 : Int), Ops := [r16] })
 else
 if k0 = (7 : Int) then
 (A2 ({ data := #[(48 : UInt8), (48 : UInt8), (48 : UInt8), (48 : UInt8), (49 : UInt8), (49 : UInt8), (48 : UInt8), (49 : UInt8), (50 : UInt8)] })).bind fun r18 =>
 (A2 ({ data := #[(48 : UInt8), (49 : UInt8), (50 : UInt8), (49 : UInt8), (49 : UInt8), (50 : UInt8), (50 : UInt8), (50 : UInt8), (50 : UInt8)] })).bind fun r19 =>
 some ({ Size := (3 : Int), Ops := [r18, r19] })
 else
 if k0 = (8 : Int) then
 some ({ Size := (4 : Int), Ops := [{ Arity := (1 : Int), Table := [(1 : Int), (2 : Int), (3 : Int), (0 : Int)] }] })
 else
 if k0 = (9 : Int) then
 some ({ Size := (2 : Int), Ops := [{ Arity := (3 : Int), Table := [(0 : Int), (0 : Int), (0 : Int), (1 : Int), (0 : Int), (1 : Int), (1 : Int), (1 : Int)] }] })
 else
 if k0 = (10 : Int) then
 (A2 ({ data := #[(48 : UInt8), (48 : UInt8), (48 : UInt8), (49 : UInt8), (49 : UInt8), (49 : UInt8), (50 : UInt8), (50 : UInt8), (50 : UInt8)] })).bind fun r23 =>
 some ({ Size := (3 : Int), Ops := [r23] })
 else
 if k0 = (11 : Int) then
 (A2 ({ data := #[(48 : UInt8), (48 : UInt8), (48 : UInt8), (48 : UInt8), (48 : UInt8), (48 : UInt8), (49 : UInt8), (48 : UInt8), (48 : UInt8), (49 : UInt8), (48 : UInt8), (48 : UInt8), (50 : UInt8), (48 : UInt8), (50 : UInt8), (48 : UInt8), (48 : UInt8), (48 : UInt8), (51 : UInt8), (51 : UInt8), (48 : UInt8), (49 : UInt8), (50 : UInt8), (51 : UInt8), (52 : UInt8)] })).bind fun r25 =>
 (A2 ({ data := #[(48 : UInt8), (49 : UInt8), (50 : UInt8), (51 : UInt8), (52 : UInt8), (49 : UInt8), (49 : UInt8), (52 : UInt8), (52 : UInt8), (52 : UInt8), (50 : UInt8), (52 : UInt8), (50 : UInt8), (52 : UInt8), (52 : UInt8), (51 : UInt8), (52 : UInt8), (52 : UInt8), (51 : UInt8), (52 : UInt8), (52 : UInt8), (52 : UInt8), (52 : UInt8), (52 : UInt8), (52 : UInt8)] })).bind fun r26 =>
 some ({ Size := (5 : Int), Ops := [r25, r26] })
 else
 if k0 = (12 : Int) then
 (A2 ({ data := #[(48 : UInt8), (49 : UInt8), (50 : UInt8), (51 : UInt8), (49 : UInt8), (50 : UInt8), (51 : UInt8), (48 : UInt8), (50 : UInt8), (51 : UInt8), (48 : UInt8), (49 : UInt8), (51 : UInt8), (48 : UInt8), (49 : UInt8), (50 : UInt8)] })).bind fun r28 =>
 some ({ Size := (4 : Int), Ops := [r28] })
 else
 if k0 = (13 : Int) then
 some ({ Size := (3 : Int), Ops := [{ Arity := (1 : Int), Table := [(0 : Int), (0 : Int), (1 : Int)] }, { Arity := (0 : Int), Table := [(2 : Int)] }] })
 else
 if k0 = (14 : Int) then
 (A2 ({ data := #[(48 : UInt8)] })).bind fun r31 =>
 some ({ Size := (1 : Int), Ops := [r31] })
 else
 if k0 = (15 : Int) then
 (E2 ((3 : Int))).bind fun r33 =>
 some ({ Size := (3 : Int), Ops := [r33] })
 else
 some ({ Size := (2 : Int), Ops := Ba SOp })
theorem Ra {k0 : Int} {v : SAlgebra} (h : Fn k0 = some v) : Ret Try.prog In [Ae k0] ((Az true) v) := by
 refine Bg Zl (Nat.le_of_ble_eq_true rfl) ?_
 unfold Fn at h
 conv => whnf
 refine Br.oe h (fun p1 h => ?_) (fun p1 h => ?_)
 ·conv => whnf
  refine CallQ.o (Al true) (by first | rfl | simp only [Aa, V.fz, fzL, V.up, upL, Ab, Ac, Ad, slr, List.cons_append, List.nil_append] | simp [Aa, V.fz, fzL, V.up, upL, Ab, Ac, Ad, slr]) h (fun r h => A9 h) (fun r2 h => ?_)
  conv => whnf
  refine BslQ.o (Al true) [r2] (by exact fun _ => ⟨rfl, rfl⟩) (by first | rfl | simp only [Aa, V.fz, fzL, V.up, upL, Ab, Ac, Ad, slr, List.cons_append, List.nil_append] | simp [Aa, V.fz, fzL, V.up, upL, Ab, Ac, Ad, slr]) ?_
  conv => whnf
  refine SetKids.lit rfl ?_
  conv => whnf
  cases h; exact (by first | rfl | simp only [Ah, Aa, V.fz, fzL, V.up, upL, Ab, Ac, Ad, slr] | simp [Ah, Aa, V.fz, fzL, V.up, upL, Ab, Ac, Ad, slr])
 conv => whnf
 refine Br.oe h (fun p3 h => ?_) (fun p3 h => ?_)
 ·conv => whnf
  refine CallQ.o (Al true) (by first | rfl | simp only [Aa, V.fz, fzL, V.up, upL, Ab, Ac, Ad, slr, List.cons_append, List.nil_append] | simp [Aa, V.fz, fzL, V.up, upL, Ab, Ac, Ad, slr]) h (fun r h => A9 h) (fun r4 h => ?_)
  conv => whnf
  refine CallQ.o (Al true) (by first | rfl | simp only [Aa, V.fz, fzL, V.up, upL, Ab, Ac, Ad, slr, List.cons_append, List.nil_append] | simp [Aa, V.fz, fzL, V.up, upL, Ab, Ac, Ad, slr]) h (fun r h => A9 h) (fun r5 h => ?_)
  conv => whnf
  refine BslQ.o (Al true) ([r4, r5]) (by exact fun _ => ⟨rfl, rfl⟩) (by first | rfl | simp only [Aa, V.fz, fzL, V.up, upL, Ab, Ac, Ad, slr, List.cons_append, List.nil_append] | simp [Aa, V.fz, fzL, V.up, upL, Ab, Ac, Ad, slr]) ?_
  conv => whnf
  refine SetKids.lit rfl ?_
  conv => whnf
  cases h; exact (by first | rfl | simp only [Ah, Aa, V.fz, fzL, V.up, upL, Ab, Ac, Ad, slr] | simp [Ah, Aa, V.fz, fzL, V.up, upL, Ab, Ac, Ad, slr])
 conv => whnf
 refine Br.oe h (fun p6 h => ?_) (fun p6 h => ?_)
 ·conv => whnf
  refine CallQ.o (Al true) (by first | rfl | simp only [Aa, V.fz, fzL, V.up, upL, Ab, Ac, Ad, slr, List.cons_append, List.nil_append] | simp [Aa, V.fz, fzL, V.up, upL, Ab, Ac, Ad, slr]) h (fun r h => A9 h) (fun r7 h => ?_)
  conv => whnf
  refine CallQ.o (Al true) (by first | rfl | simp only [Aa, V.fz, fzL, V.up, upL, Ab, Ac, Ad, slr, List.cons_append, List.nil_append] | simp [Aa, V.fz, fzL, V.up, upL, Ab, Ac, Ad, slr]) h (fun r h => A9 h) (fun r8 h => ?_)
  conv => whnf
  refine BslQ.o Ae ([(1 : Int), (0 : Int)]) (by exact fun _ => ⟨rfl, rfl⟩) (by first | rfl | simp only [Aa, V.fz, fzL, V.up, upL, Ab, Ac, Ad, slr, List.cons_append, List.nil_append] | simp [Aa, V.fz, fzL, V.up, upL, Ab, Ac, Ad, slr]) ?_
  conv => whnf
  refine BslQ.o (Al true) ([r7, r8, { Arity := (1 : Int), Table := [(1 : Int), (0 : Int)] }]) (by exact fun _ => ⟨rfl, rfl⟩) (by first | rfl | simp only [Aa, V.fz, fzL, V.up, upL, Ab, Ac, Ad, slr, List.cons_append, List.nil_append] | simp [Aa, V.fz, fzL, V.up, upL, Ab, Ac, Ad, slr]) ?_
  conv => whnf
  refine SetKids.lit rfl ?_
  conv => whnf
  cases h; exact (by first | rfl | simp only [Ah, Aa, V.fz, fzL, V.up, upL, Ab, Ac, Ad, slr] | simp [Ah, Aa, V.fz, fzL, V.up, upL, Ab, Ac, Ad, slr])
 conv => whnf
 refine Br.oe h (fun p9 h => ?_) (fun p9 h => ?_)
 ·conv => whnf
  refine CallQ.o (Al true) (by first | rfl | simp only [Aa, V.fz, fzL, V.up, upL, Ab, Ac, Ad, slr, List.cons_append, List.nil_append] | simp [Aa, V.fz, fzL, V.up, upL, Ab, Ac, Ad, slr]) h (fun r h => Pv h) (fun r10 h => ?_)
  conv => whnf
  refine BslQ.o (Al true) [r10] (by exact fun _ => ⟨rfl, rfl⟩) (by first | rfl | simp only [Aa, V.fz, fzL, V.up, upL, Ab, Ac, Ad, slr, List.cons_append, List.nil_append] | simp [Aa, V.fz, fzL, V.up, upL, Ab, Ac, Ad, slr]) ?_
  conv => whnf
  refine SetKids.lit rfl ?_
  conv => whnf
  cases h; exact (by first | rfl | simp only [Ah, Aa, V.fz, fzL, V.up, upL, Ab, Ac, Ad, slr] | simp [Ah, Aa, V.fz, fzL, V.up, upL, Ab, Ac, Ad, slr])
 conv => whnf
 refine Br.oe h (fun p11 h => ?_) (fun p11 h => ?_)
 ·conv => whnf
  refine CallQ.o (Al true) (by first | rfl | simp only [Aa, V.fz, fzL, V.up, upL, Ab, Ac, Ad, slr, List.cons_append, List.nil_append] | simp [Aa, V.fz, fzL, V.up, upL, Ab, Ac, Ad, slr]) h (fun r h => A9 h) (fun r12 h => ?_)
  conv => whnf
  refine BslQ.o (Al true) [r12] (by exact fun _ => ⟨rfl, rfl⟩) (by first | rfl | simp only [Aa, V.fz, fzL, V.up, upL, Ab, Ac, Ad, slr, List.cons_append, List.nil_append] | simp [Aa, V.fz, fzL, V.up, upL, Ab, Ac, Ad, slr]) ?_
  conv => whnf
  refine SetKids.lit rfl ?_
  conv => whnf
  cases h; exact (by first | rfl | simp only [Ah, Aa, V.fz, fzL, V.up, upL, Ab, Ac, Ad, slr] | simp [Ah, Aa, V.fz, fzL, V.up, upL, Ab, Ac, Ad, slr])
 conv => whnf
 refine Br.oe h (fun p13 h => ?_) (fun p13 h => ?_)
 ·conv => whnf
  refine CallQ.o (Al true) (by first | rfl | simp only [Aa, V.fz, fzL, V.up, upL, Ab, Ac, Ad, slr, List.cons_append, List.nil_append] | simp [Aa, V.fz, fzL, V.up, upL, Ab, Ac, Ad, slr]) h (fun r h => A9 h) (fun r14 h => ?_)
  conv => whnf
  refine BslQ.o (Al true) [r14] (by exact fun _ => ⟨rfl, rfl⟩) (by first | rfl | simp only [Aa, V.fz, fzL, V.up, upL, Ab, Ac, Ad, slr, List.cons_append, List.nil_append] | simp [Aa, V.fz, fzL, V.up, upL, Ab, Ac, Ad, slr]) ?_
  conv => whnf
  refine SetKids.lit rfl ?_
  conv => whnf
  cases h; exact (by first | rfl | simp only [Ah, Aa, V.fz, fzL, V.up, upL, Ab, Ac, Ad, slr] | simp [Ah, Aa, V.fz, fzL, V.up, upL, Ab, Ac, Ad, slr])
 conv => whnf
 refine Br.oe h (fun p15 h => ?_) (fun p15 h => ?_)
 ·conv => whnf
  refine CallQ.o (Al true) (by first | rfl | simp only [Aa, V.fz, fzL, V.up, upL, Ab, Ac, Ad, slr, List.cons_append, List.nil_append] | simp [Aa, V.fz, fzL, V.up, upL, Ab, Ac, Ad, slr]) h (fun r h => A9 h) (fun r16 h => ?_)
  conv => whnf
  refine BslQ.o (Al true) [r16] (by exact fun _ => ⟨rfl, rfl⟩) (by first | rfl | simp only [Aa, V.fz, fzL, V.up, upL, Ab, Ac, Ad, slr, List.cons_append, List.nil_append] | simp [Aa, V.fz, fzL, V.up, upL, Ab, Ac, Ad, slr]) ?_
  conv => whnf
  refine SetKids.lit rfl ?_
  conv => whnf
  cases h; exact (by first | rfl | simp only [Ah, Aa, V.fz, fzL, V.up, upL, Ab, Ac, Ad, slr] | simp [Ah, Aa, V.fz, fzL, V.up, upL, Ab, Ac, Ad, slr])
 conv => whnf
 refine Br.oe h (fun p17 h => ?_) (fun p17 h => ?_)
 ·conv => whnf
  refine CallQ.o (Al true) (by first | rfl | simp only [Aa, V.fz, fzL, V.up, upL, Ab, Ac, Ad, slr, List.cons_append, List.nil_append] | simp [Aa, V.fz, fzL, V.up, upL, Ab, Ac, Ad, slr]) h (fun r h => A9 h) (fun r18 h => ?_)
  conv => whnf
  refine CallQ.o (Al true) (by first | rfl | simp only [Aa, V.fz, fzL, V.up, upL, Ab, Ac, Ad, slr, List.cons_append, List.nil_append] | simp [Aa, V.fz, fzL, V.up, upL, Ab, Ac, Ad, slr]) h (fun r h => A9 h) (fun r19 h => ?_)
  conv => whnf
  refine BslQ.o (Al true) ([r18, r19]) (by exact fun _ => ⟨rfl, rfl⟩) (by first | rfl | simp only [Aa, V.fz, fzL, V.up, upL, Ab, Ac, Ad, slr, List.cons_append, List.nil_append] | simp [Aa, V.fz, fzL, V.up, upL, Ab, Ac, Ad, slr]) ?_
  conv => whnf
  refine SetKids.lit rfl ?_
  conv => whnf
  cases h; exact (by first | rfl | simp only [Ah, Aa, V.fz, fzL, V.up, upL, Ab, Ac, Ad, slr] | simp [Ah, Aa, V.fz, fzL, V.up, upL, Ab, Ac, Ad, slr])
 conv => whnf
 refine Br.oe h (fun p20 h => ?_) (fun p20 h => ?_)
 ·conv => whnf
  refine BslQ.o Ae ([(1 : Int), (2 : Int), (3 : Int), (0 : Int)]) (by exact fun _ => ⟨rfl, rfl⟩) (by first | rfl | simp only [Aa, V.fz, fzL, V.up, upL, Ab, Ac, Ad, slr, List.cons_append, List.nil_append] | simp [Aa, V.fz, fzL, V.up, upL, Ab, Ac, Ad, slr]) ?_
  conv => whnf
  refine BslQ.o (Al true) ([{ Arity := (1 : Int), Table := [(1 : Int), (2 : Int), (3 : Int), (0 : Int)] }]) (by exact fun _ => ⟨rfl, rfl⟩) (by first | rfl | simp only [Aa, V.fz, fzL, V.up, upL, Ab, Ac, Ad, slr, List.cons_append, List.nil_append] | simp [Aa, V.fz, fzL, V.up, upL, Ab, Ac, Ad, slr]) ?_
  conv => whnf
  refine SetKids.lit rfl ?_
  conv => whnf
  cases h; exact (by first | rfl | simp only [Ah, Aa, V.fz, fzL, V.up, upL, Ab, Ac, Ad, slr] | simp [Ah, Aa, V.fz, fzL, V.up, upL, Ab, Ac, Ad, slr])
 conv => whnf
 refine Br.oe h (fun p21 h => ?_) (fun p21 h => ?_)
 ·conv => whnf
  refine BslQ.o Ae ([(0 : Int), (0 : Int), (0 : Int), (1 : Int), (0 : Int), (1 : Int), (1 : Int), (1 : Int)]) (by exact fun _ => ⟨rfl, rfl⟩) (by first | rfl | simp only [Aa, V.fz, fzL, V.up, upL, Ab, Ac, Ad, slr, List.cons_append, List.nil_append] | simp [Aa, V.fz, fzL, V.up, upL, Ab, Ac, Ad, slr]) ?_
  conv => whnf
  refine BslQ.o (Al true) ([{ Arity := (3 : Int), Table := [(0 : Int), (0 : Int), (0 : Int), (1 : Int), (0 : Int), (1 : Int), (1 : Int), (1 : Int)] }]) (by exact fun _ => ⟨rfl, rfl⟩) (by first | rfl | simp only [Aa, V.fz, fzL, V.up, upL, Ab, Ac, Ad, slr, List.cons_append, List.nil_append] | simp [Aa, V.fz, fzL, V.up, upL, Ab, Ac, Ad, slr]) ?_
  conv => whnf
  refine SetKids.lit rfl ?_
  conv => whnf
  cases h; exact (by first | rfl | simp only [Ah, Aa, V.fz, fzL, V.up, upL, Ab, Ac, Ad, slr] | simp [Ah, Aa, V.fz, fzL, V.up, upL, Ab, Ac, Ad, slr])
 conv => whnf
 refine Br.oe h (fun p22 h => ?_) (fun p22 h => ?_)
 ·conv => whnf
  refine CallQ.o (Al true) (by first | rfl | simp only [Aa, V.fz, fzL, V.up, upL, Ab, Ac, Ad, slr, List.cons_append, List.nil_append] | simp [Aa, V.fz, fzL, V.up, upL, Ab, Ac, Ad, slr]) h (fun r h => A9 h) (fun r23 h => ?_)
  conv => whnf
  refine BslQ.o (Al true) [r23] (by exact fun _ => ⟨rfl, rfl⟩) (by first | rfl | simp only [Aa, V.fz, fzL, V.up, upL, Ab, Ac, Ad, slr, List.cons_append, List.nil_append] | simp [Aa, V.fz, fzL, V.up, upL, Ab, Ac, Ad, slr]) ?_
  conv => whnf
  refine SetKids.lit rfl ?_
  conv => whnf
  cases h; exact (by first | rfl | simp only [Ah, Aa, V.fz, fzL, V.up, upL, Ab, Ac, Ad, slr] | simp [Ah, Aa, V.fz, fzL, V.up, upL, Ab, Ac, Ad, slr])
 conv => whnf
 refine Br.oe h (fun p24 h => ?_) (fun p24 h => ?_)
 ·conv => whnf
  refine CallQ.o (Al true) (by first | rfl | simp only [Aa, V.fz, fzL, V.up, upL, Ab, Ac, Ad, slr, List.cons_append, List.nil_append] | simp [Aa, V.fz, fzL, V.up, upL, Ab, Ac, Ad, slr]) h (fun r h => A9 h) (fun r25 h => ?_)
  conv => whnf
  refine CallQ.o (Al true) (by first | rfl | simp only [Aa, V.fz, fzL, V.up, upL, Ab, Ac, Ad, slr, List.cons_append, List.nil_append] | simp [Aa, V.fz, fzL, V.up, upL, Ab, Ac, Ad, slr]) h (fun r h => A9 h) (fun r26 h => ?_)
  conv => whnf
  refine BslQ.o (Al true) ([r25, r26]) (by exact fun _ => ⟨rfl, rfl⟩) (by first | rfl | simp only [Aa, V.fz, fzL, V.up, upL, Ab, Ac, Ad, slr, List.cons_append, List.nil_append] | simp [Aa, V.fz, fzL, V.up, upL, Ab, Ac, Ad, slr]) ?_
  conv => whnf
  refine SetKids.lit rfl ?_
  conv => whnf
  cases h; exact (by first | rfl | simp only [Ah, Aa, V.fz, fzL, V.up, upL, Ab, Ac, Ad, slr] | simp [Ah, Aa, V.fz, fzL, V.up, upL, Ab, Ac, Ad, slr])
 conv => whnf
 refine Br.oe h (fun p27 h => ?_) (fun p27 h => ?_)
 ·conv => whnf
  refine CallQ.o (Al true) (by first | rfl | simp only [Aa, V.fz, fzL, V.up, upL, Ab, Ac, Ad, slr, List.cons_append, List.nil_append] | simp [Aa, V.fz, fzL, V.up, upL, Ab, Ac, Ad, slr]) h (fun r h => A9 h) (fun r28 h => ?_)
  conv => whnf
  refine BslQ.o (Al true) [r28] (by exact fun _ => ⟨rfl, rfl⟩) (by first | rfl | simp only [Aa, V.fz, fzL, V.up, upL, Ab, Ac, Ad, slr, List.cons_append, List.nil_append] | simp [Aa, V.fz, fzL, V.up, upL, Ab, Ac, Ad, slr]) ?_
  conv => whnf
  refine SetKids.lit rfl ?_
  conv => whnf
  cases h; exact (by first | rfl | simp only [Ah, Aa, V.fz, fzL, V.up, upL, Ab, Ac, Ad, slr] | simp [Ah, Aa, V.fz, fzL, V.up, upL, Ab, Ac, Ad, slr])
 conv => whnf
 refine Br.oe h (fun p29 h => ?_) (fun p29 h => ?_)
 ·conv => whnf
  refine BslQ.o Ae ([(0 : Int), (0 : Int), (1 : Int)]) (by exact fun _ => ⟨rfl, rfl⟩) (by first | rfl | simp only [Aa, V.fz, fzL, V.up, upL, Ab, Ac, Ad, slr, List.cons_append, List.nil_append] | simp [Aa, V.fz, fzL, V.up, upL, Ab, Ac, Ad, slr]) ?_
  conv => whnf
  refine BslQ.o Ae ([(2 : Int)]) (by exact fun _ => ⟨rfl, rfl⟩) (by first | rfl | simp only [Aa, V.fz, fzL, V.up, upL, Ab, Ac, Ad, slr, List.cons_append, List.nil_append] | simp [Aa, V.fz, fzL, V.up, upL, Ab, Ac, Ad, slr]) ?_
  conv => whnf
  refine BslQ.o (Al true) ([{ Arity := (1 : Int), Table := [(0 : Int), (0 : Int), (1 : Int)] }, { Arity := (0 : Int), Table := [(2 : Int)] }]) (by exact fun _ => ⟨rfl, rfl⟩) (by first | rfl | simp only [Aa, V.fz, fzL, V.up, upL, Ab, Ac, Ad, slr, List.cons_append, List.nil_append] | simp [Aa, V.fz, fzL, V.up, upL, Ab, Ac, Ad, slr]) ?_
  conv => whnf
  refine SetKids.lit rfl ?_
  conv => whnf
  cases h; exact (by first | rfl | simp only [Ah, Aa, V.fz, fzL, V.up, upL, Ab, Ac, Ad, slr] | simp [Ah, Aa, V.fz, fzL, V.up, upL, Ab, Ac, Ad, slr])
 conv => whnf
 refine Br.oe h (fun p30 h => ?_) (fun p30 h => ?_)
 ·conv => whnf
  refine CallQ.o (Al true) (by first | rfl | simp only [Aa, V.fz, fzL, V.up, upL, Ab, Ac, Ad, slr, List.cons_append, List.nil_append] | simp [Aa, V.fz, fzL, V.up, upL, Ab, Ac, Ad, slr]) h (fun r h => A9 h) (fun r31 h => ?_)
  conv => whnf
  refine BslQ.o (Al true) [r31] (by exact fun _ => ⟨rfl, rfl⟩) (by first | rfl | simp only [Aa, V.fz, fzL, V.up, upL, Ab, Ac, Ad, slr, List.cons_append, List.nil_append] | simp [Aa, V.fz, fzL, V.up, upL, Ab, Ac, Ad, slr]) ?_
  conv => whnf
  refine SetKids.lit rfl ?_
  conv => whnf
  cases h; exact (by first | rfl | simp only [Ah, Aa, V.fz, fzL, V.up, upL, Ab, Ac, Ad, slr] | simp [Ah, Aa, V.fz, fzL, V.up, upL, Ab, Ac, Ad, slr])
 conv => whnf
 refine Br.oe h (fun p32 h => ?_) (fun p32 h => ?_)
 ·conv => whnf
  refine CallQ.o (Al true) (by first | rfl | simp only [Aa, V.fz, fzL, V.up, upL, Ab, Ac, Ad, slr, List.cons_append, List.nil_append] | simp [Aa, V.fz, fzL, V.up, upL, Ab, Ac, Ad, slr]) h (fun r h => Pv h) (fun r33 h => ?_)
  conv => whnf
  refine BslQ.o (Al true) [r33] (by exact fun _ => ⟨rfl, rfl⟩) (by first | rfl | simp only [Aa, V.fz, fzL, V.up, upL, Ab, Ac, Ad, slr, List.cons_append, List.nil_append] | simp [Aa, V.fz, fzL, V.up, upL, Ab, Ac, Ad, slr]) ?_
  conv => whnf
  refine SetKids.lit rfl ?_
  conv => whnf
  cases h; exact (by first | rfl | simp only [Ah, Aa, V.fz, fzL, V.up, upL, Ab, Ac, Ad, slr] | simp [Ah, Aa, V.fz, fzL, V.up, upL, Ab, Ac, Ad, slr])
 conv => whnf
 refine SetKids.lit rfl ?_
 conv => whnf
 cases h; exact (by first | rfl | simp only [Ah, Aa, V.fz, fzL, V.up, upL, Ab, Ac, Ad, slr] | simp [Ah, Aa, V.fz, fzL, V.up, upL, Ab, Ac, Ad, slr])
noncomputable def J9 (f0 : SOp) (n0 : Int) : Option Bool :=
 if f0.Arity ≥ (0 : Int) then
 if f0.Arity ≤ (3 : Int) then
 (Gu (n0) (f0.Arity)).bind fun r3 =>
 if (↑f0.Table.length : Int) = r3 then
 (Fe (f0.Table) (n0)).bind fun r5 =>
 some r5
 else
 some false
 else
 some false
 else
 some false
theorem Agc {f0 : SOp} {n0 : Int} {v : Bool} (h : J9 f0 n0 = some v) : Ret Try.prog Qn [(Al false) f0, Ae n0] (V.bool v) := by
 refine Bg Afc (Nat.le_of_ble_eq_true rfl) ?_
 unfold J9 at h
 conv => whnf
 refine Cells.lit rfl rfl ?_
 conv => whnf
 refine Br.od h (fun p1 h => ?_) (fun p1 h => ?_)
 ·conv => whnf
  refine Br.yes ?_
  conv => whnf
  refine Cells.lit rfl rfl ?_
  conv => whnf
  refine Br.yes ?_
  conv => whnf
  refine Br.yes ?_
  conv => whnf
  refine Br.od h (fun p2 h => ?_) (fun p2 h => ?_)
  ·conv => whnf
   refine Br.yes ?_
   conv => whnf
   refine Cells.lit rfl rfl ?_
   conv => whnf
   refine Br.yes ?_
   conv => whnf
   refine Len.map ?_
   conv => whnf
   refine Br.yes ?_
   conv => whnf
   refine Br.yes ?_
   conv => whnf
   refine Br.yes ?_
   conv => whnf
   refine Cells.lit rfl rfl ?_
   conv => whnf
   refine Br.yes ?_
   conv => whnf
   refine CallP.o Ae (by first | rfl | simp only [Aa, V.fz, fzL, V.up, upL, Ab, Ac, Ad, slr, List.cons_append, List.nil_append] | simp [Aa, V.fz, fzL, V.up, upL, Ab, Ac, Ad, slr]) h (fun r h => Add h) (fun r3 h => ?_)
   conv => whnf
   refine Br.yes ?_
   conv => whnf
   refine Br.yes ?_
   conv => whnf
   refine Br.oe h (fun p4 h => ?_) (fun p4 h => ?_)
   ·conv => whnf
    refine Br.yes ?_
    conv => whnf
    refine Cells.lit rfl rfl ?_
    conv => whnf
    refine Br.yes ?_
    conv => whnf
    refine Br.yes ?_
    conv => whnf
    refine CallQ.o V.bool (by first | rfl | simp only [Aa, V.fz, fzL, V.up, upL, Ab, Ac, Ad, slr, List.cons_append, List.nil_append] | simp [Aa, V.fz, fzL, V.up, upL, Ab, Ac, Ad, slr]) h (fun r h => Nm h) (fun r5 h => ?_)
    conv => whnf
    refine Br.yes ?_
    conv => whnf
    cases h; exact (by first | rfl | simp only [Ah, Aa, V.fz, fzL, V.up, upL, Ab, Ac, Ad, slr] | simp [Ah, Aa, V.fz, fzL, V.up, upL, Ab, Ac, Ad, slr])
   conv => whnf
   refine Br.no ?_
   conv => whnf
   refine Br.no ?_
   conv => whnf
   refine Br.no ?_
   conv => whnf
   refine Br.no ?_
   conv => whnf
   cases h; exact (by first | rfl | simp only [Ah, Aa, V.fz, fzL, V.up, upL, Ab, Ac, Ad, slr] | simp [Ah, Aa, V.fz, fzL, V.up, upL, Ab, Ac, Ad, slr])
  conv => whnf
  refine Br.no ?_
  conv => whnf
  refine Br.no ?_
  conv => whnf
  refine Br.no ?_
  conv => whnf
  refine Br.no ?_
  conv => whnf
  refine Br.no ?_
  conv => whnf
  refine Br.no ?_
  conv => whnf
  refine Br.no ?_
  conv => whnf
  refine Br.no ?_
  conv => whnf
  refine Br.no ?_
  conv => whnf
  refine Br.no ?_
  conv => whnf
  refine Br.no ?_
  conv => whnf
  refine Br.no ?_
  conv => whnf
  refine Br.no ?_
  conv => whnf
  cases h; exact (by first | rfl | simp only [Ah, Aa, V.fz, fzL, V.up, upL, Ab, Ac, Ad, slr] | simp [Ah, Aa, V.fz, fzL, V.up, upL, Ab, Ac, Ad, slr])
 conv => whnf
 refine Br.no ?_
 conv => whnf
 refine Br.no ?_
 conv => whnf
 refine Br.no ?_
 conv => whnf
 refine Br.no ?_
 conv => whnf
 refine Br.no ?_
 conv => whnf
 refine Br.no ?_
 conv => whnf
 refine Br.no ?_
 conv => whnf
 refine Br.no ?_
 conv => whnf
 refine Br.no ?_
 conv => whnf
 refine Br.no ?_
 conv => whnf
 refine Br.no ?_
 conv => whnf
 refine Br.no ?_
 conv => whnf
 refine Br.no ?_
 conv => whnf
 refine Br.no ?_
 conv => whnf
 refine Br.no ?_
 conv => whnf
 refine Br.no ?_
 conv => whnf
 refine Br.no ?_
 conv => whnf
 cases h; exact (by first | rfl | simp only [Ah, Aa, V.fz, fzL, V.up, upL, Ab, Ac, Ad, slr] | simp [Ah, Aa, V.fz, fzL, V.up, upL, Ab, Ac, Ad, slr])
noncomputable def Bm (list0 : List (List Int)) (p0 : List Int) : Int → Option (Int ⊕ (Int ⊕ Unit)) := fun x9 =>
 if x9 < (↑list0.length : Int) then
 ask ((0 : Int) ≤ x9 ∧ x9 < (↑list0.length : Int)) <|
 (F0 (p0) (nth list0 x9.toNat)).bind fun r3 =>
 if (r3) = true then
 some (.inr (.inl x9))
 else
 ask (InI (x9 + (1 : Int))) <|
 some (.inl (x9 + (1 : Int)))
 else
 some (.inr (.inr ()))
def Hd (list0 : List (List Int)) (p0 : List Int) : Int → St := fun s => [(9, A.val (Ae s)), (8, A.val (Ae ((↑list0.length : Int)))), (7, A.val ((slr false 1 (slr false 1 Ae)) (list0))), (1, A.val ((slr false 1 Ae) (p0)))]
def K3 (_list0 : List (List Int)) (_p0 : List Int) : (Int ⊕ Unit) → Tgt
 | (.inl s) => (Ex.ret, [4], [(4, A.val (Ae s))])
 | (.inr _s) => ((Ex.exit 0), [], [])
theorem Sa {list0 : List (List Int)} {p0 : List Int} (x9 : Int) (o : Int ⊕ (Int ⊕ Unit)) (h : Bm list0 p0 x9 = some o) : vc Try.prog K2 (Er [9, 8, 7, 1] (Hd list0 p0) (K3 list0 p0) o) (Hd list0 p0 x9) := by
 unfold Bm at h
 try dsimp only at h
 conv => whnf
 refine Br.od h (fun p1 h => ?_) (fun p1 h => ?_)
 ·conv => whnf
  refine Len.map ?_
  conv => whnf
  refine Ask.o h fun p2 h => ?_
  conv => whnf
  refine Elem.o (by first | omega | (simp [A1] at *; omega)) ?_
  conv => whnf
  refine CallQ.o V.bool (by first | rfl | simp only [Aa, V.fz, fzL, V.up, upL, Ab, Ac, Ad, slr, List.cons_append, List.nil_append] | simp [Aa, V.fz, fzL, V.up, upL, Ab, Ac, Ad, slr]) h (fun r h => Yb h) (fun r3 h => ?_)
  conv => whnf
  refine Br.ob h (fun p4 h => ?_) (fun p4 h => ?_)
  ·conv => whnf
   cases h; exact ⟨rfl, rfl⟩
  conv => whnf
  refine Ask.o h fun p5 h => ?_
  conv => whnf
  cases h; exact ⟨rfl, rfl⟩
 conv => whnf
 cases h; exact ⟨rfl, rfl⟩
noncomputable def Ck (list0 : (List (List Int))) (p0 : (List Int)) : Option Int :=
 (Aw (Bm list0 p0) (0 : Int)).bind fun t => match t with
 | (.inl q6_4) => (some q6_4)
 | (.inr _) => (some (-1 : Int))
theorem Jm {list0 : (List (List Int))} {p0 : (List Int)} {v : Int} (h : Ck list0 p0 = some v) : Ret Try.prog Fg [(slr false 1 (slr false 1 Ae)) list0, (slr false 1 Ae) p0] (Ae v) := by
 refine Bg Wm (Nat.le_of_ble_eq_true rfl) ?_
 unfold Ck at h
 conv => whnf
 refine Len.map ?_
 conv => whnf
 refine LoopQ.o [9, 8, 7, 1] (Hd list0 p0) (K3 list0 p0) h (fun s o h => Sa s o h) (by first | rfl | simp [restrict, look, Aa, V.fz, fzL, V.up, upL, Ab, Ac, Ad, slr]) (by rintro (_ | _) <;> rfl) ?_
 rintro (q6_4 | ⟨⟩) h
 ·try dsimp only at h
  conv => whnf
  cases h; exact (by first | rfl | simp only [Ah, Aa, V.fz, fzL, V.up, upL, Ab, Ac, Ad, slr] | simp [Ah, Aa, V.fz, fzL, V.up, upL, Ab, Ac, Ad, slr])
 try dsimp only at h
 conv => whnf
 cases h; exact (by first | rfl | simp only [Ah, Aa, V.fz, fzL, V.up, upL, Ab, Ac, Ad, slr] | simp [Ah, Aa, V.fz, fzL, V.up, upL, Ab, Ac, Ad, slr])
noncomputable def Ef (n0 : Int) (op0 : SOp) : Int → Option (Int ⊕ (Unit ⊕ Unit)) := fun x5 =>
 if x5 < (↑op0.Table.length : Int) then
 ask ((0 : Int) ≤ x5 ∧ x5 < (↑op0.Table.length : Int)) <|
 ask (InI (n0 - (1 : Int))) <|
 (Cm (nth op0.Table x5.toNat) ((0 : Int)) (n0 - (1 : Int))).bind fun r9 =>
 if (r9) = true then
 ask (InI (x5 + (1 : Int))) <|
 some (.inl (x5 + (1 : Int)))
 else
 some (.inr (.inl ()))
 else
 some (.inr (.inr ()))
def L0 (n0 : Int) (op0 : SOp) : Int → St := fun s => [(5, A.val (Ae s)), (3, A.val ((rP true (Al false)) (op0))), (0, A.val (Ae (n0)))]
def Qm (_n0 : Int) (_op0 : SOp) : (Unit ⊕ Unit) → Tgt
 | (.inl _s) => (Ex.ret, [4], [(4, A.val (V.bool (false)))])
 | (.inr _s) => ((Ex.exit 0), [], [])
theorem Zu {n0 : Int} {op0 : SOp} (x5 : Int) (o : Int ⊕ (Unit ⊕ Unit)) (h : Ef n0 op0 x5 = some o) : vc Try.prog Q0 (Er [5, 3, 0] (L0 n0 op0) (Qm n0 op0) o) (L0 n0 op0 x5) := by
 unfold Ef at h
 try dsimp only at h
 conv => whnf
 refine Cells.lit rfl rfl ?_
 conv => whnf
 refine Len.map ?_
 conv => whnf
 refine Br.od h (fun p6 h => ?_) (fun p6 h => ?_)
 ·conv => whnf
  refine Cells.lit rfl rfl ?_
  conv => whnf
  refine Len.map ?_
  conv => whnf
  refine Ask.o h fun p7 h => ?_
  conv => whnf
  refine Elem.o (by first | omega | (simp [A1] at *; omega)) ?_
  conv => whnf
  refine Ask.o h fun p8 h => ?_
  conv => whnf
  refine CallQ.o V.bool (by first | rfl | simp only [Aa, V.fz, fzL, V.up, upL, Ab, Ac, Ad, slr, List.cons_append, List.nil_append] | simp [Aa, V.fz, fzL, V.up, upL, Ab, Ac, Ad, slr]) h (fun r h => E8 h) (fun r9 h => ?_)
  conv => whnf
  refine Br.flip ?_
  conv => whnf
  refine Br.ob h (fun p10 h => ?_) (fun p10 h => ?_)
  ·conv => whnf
   refine Ask.o h fun p11 h => ?_
   conv => whnf
   cases h; exact ⟨rfl, rfl⟩
  conv => whnf
  cases h; exact ⟨rfl, rfl⟩
 conv => whnf
 cases h; exact ⟨rfl, rfl⟩
noncomputable def Ke (n0 : Int) (op0 : SOp) : Option Bool :=
 (((Cm (op0.Arity) ((0 : Int)) ((3 : Int))).bind fun r1 =>
 if (r1) = true then
 (Fb (n0) (op0.Arity)).bind fun r3 =>
 if (↑op0.Table.length : Int) ≠ r3 then
 some (.inl ())
 else
 some (.inr ())
 else
 some (.inl ()) : Option (Unit ⊕ Unit))).bind fun t => match t with
 | (.inl _) => (some false)
 | (.inr _) => ((Aw (Ef n0 op0) (0 : Int)).bind fun t => match t with
 | (.inl _) => (some false)
 | (.inr _) => (some true))
theorem Aex {n0 : Int} {op0 : SOp} {v : Bool} (h : Ke n0 op0 = some v) : Ret Try.prog Q5 [Ae n0, (Al false) op0] (V.bool v) := by
 refine Bg Ae5 (Nat.le_of_ble_eq_true rfl) ?_
 unfold Ke at h
 conv => whnf
 refine CutQ.o (fun t : (Unit ⊕ Unit) => match t with | (.inl s) => (Ex.ret, [4], [(4, A.val (V.bool (false)))]) | (.inr s) => (Ex.normal, [3, 0], [(3, A.val ((rP true (Al false)) (op0))), (0, A.val (Ae (n0)))])) h ?_ ?_
 ·intro t h
  conv => whnf
  refine Cells.lit rfl rfl ?_
  conv => whnf
  refine CallP.o V.bool (by first | rfl | simp only [Aa, V.fz, fzL, V.up, upL, Ab, Ac, Ad, slr, List.cons_append, List.nil_append] | simp [Aa, V.fz, fzL, V.up, upL, Ab, Ac, Ad, slr]) h (fun r h => E8 h) (fun r1 h => ?_)
  conv => whnf
  refine Br.flip ?_
  conv => whnf
  refine Br.ob h (fun p2 h => ?_) (fun p2 h => ?_)
  ·conv => whnf
   refine Br.no ?_
   conv => whnf
   refine Cells.lit rfl rfl ?_
   conv => whnf
   refine Br.no ?_
   conv => whnf
   refine Len.map ?_
   conv => whnf
   refine Br.no ?_
   conv => whnf
   refine Br.no ?_
   conv => whnf
   refine Br.no ?_
   conv => whnf
   refine Cells.lit rfl rfl ?_
   conv => whnf
   refine Br.no ?_
   conv => whnf
   refine CallP.o Ae (by first | rfl | simp only [Aa, V.fz, fzL, V.up, upL, Ab, Ac, Ad, slr, List.cons_append, List.nil_append] | simp [Aa, V.fz, fzL, V.up, upL, Ab, Ac, Ad, slr]) h (fun r h => O8 h) (fun r3 h => ?_)
   conv => whnf
   refine Br.no ?_
   conv => whnf
   refine Br.no ?_
   conv => whnf
   refine Br.on h (fun p4 h => ?_) (fun p4 h => ?_)
   ·conv => whnf
    cases h; exact ⟨rfl, rfl⟩
   conv => whnf
   cases h; exact ⟨rfl, rfl⟩
  conv => whnf
  refine Br.yes ?_
  conv => whnf
  refine Br.yes ?_
  conv => whnf
  refine Br.yes ?_
  conv => whnf
  refine Br.yes ?_
  conv => whnf
  refine Br.yes ?_
  conv => whnf
  refine Br.yes ?_
  conv => whnf
  refine Br.yes ?_
  conv => whnf
  refine Br.yes ?_
  conv => whnf
  refine Br.yes ?_
  conv => whnf
  cases h; exact ⟨rfl, rfl⟩
 rintro (⟨⟩ | ⟨⟩) h
 ·try dsimp only at h
  conv => whnf
  cases h; exact (by first | rfl | simp only [Ah, Aa, V.fz, fzL, V.up, upL, Ab, Ac, Ad, slr] | simp [Ah, Aa, V.fz, fzL, V.up, upL, Ab, Ac, Ad, slr])
 try dsimp only at h
 conv => whnf
 refine LoopQ.o [5, 3, 0] (L0 n0 op0) (Qm n0 op0) h (fun s o h => Zu s o h) (by first | rfl | simp [restrict, look, Aa, V.fz, fzL, V.up, upL, Ab, Ac, Ad, slr]) (by rintro (_ | _) <;> rfl) ?_
 rintro (⟨⟩ | ⟨⟩) h
 ·try dsimp only at h
  conv => whnf
  cases h; exact (by first | rfl | simp only [Ah, Aa, V.fz, fzL, V.up, upL, Ab, Ac, Ad, slr] | simp [Ah, Aa, V.fz, fzL, V.up, upL, Ab, Ac, Ad, slr])
 try dsimp only at h
 conv => whnf
 cases h; exact (by first | rfl | simp only [Ah, Aa, V.fz, fzL, V.up, upL, Ab, Ac, Ad, slr] | simp [Ah, Aa, V.fz, fzL, V.up, upL, Ab, Ac, Ad, slr])
end Go.Proofs.Ytidaaijecmkndaa.Ax
