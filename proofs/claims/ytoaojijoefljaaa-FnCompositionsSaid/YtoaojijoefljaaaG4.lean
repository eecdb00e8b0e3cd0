/-
 What the functions compute, as functions on plain data, and that the program does compute it; written by program.
-/
import Derived.Test.YtoaojijoefljaaaCode
import Derived.Test.YtoaojijoefljaaaG2
namespace Go.Proofs.Ytoaojijoefljaaa.Ax
open Go
set_option maxRecDepth 100000
set_option maxHeartbeats 4000000
noncomputable def Jb (k0 : Int) : Option SAlgebra :=
 if k0 = (0 : Int) then
 (Ba ({ data := #[(48 : UInt8), (48 : UInt8), (48 : UInt8), (49 : UInt8)] })).bind fun r2 =>
 some ({ Size := (2 : Int), Ops := [r2] })
 else
 if k0 = (1 : Int) then
 (Ba ({ data := #[(48 : UInt8), (48 : UInt8), (48 : UInt8), (49 : UInt8)] })).bind fun r4 =>
 (Ba ({ data := #[(48 : UInt8), (49 : UInt8), (49 : UInt8), (49 : UInt8)] })).bind fun r5 =>
 some ({ Size := (2 : Int), Ops := [r4, r5] })
 else
 if k0 = (2 : Int) then
 (Ba ({ data := #[(48 : UInt8), (48 : UInt8), (48 : UInt8), (49 : UInt8)] })).bind fun r7 =>
 (Ba ({ data := #[(48 : UInt8), (49 : UInt8), (49 : UInt8), (49 : UInt8)] })).bind fun r8 =>
 some ({ Size := (2 : Int), Ops := [r7, r8, { Arity := (1 : Int), Table := [(1 : Int), (0 : Int)] }] })
 else
 if k0 = (3 : Int) then
 (Gf ((2 : Int))).bind fun r10 =>
 some ({ Size := (2 : Int), Ops := [r10] })
 else
 if k0 = (4 : Int) then
 (Ba ({ data := #[(48 : UInt8), (49 : UInt8), (50 : UInt8), (49 : UInt8), (50 : UInt8), (48 : UInt8), (50 : UInt8), (48 : UInt8), (49 : UInt8)] })).bind fun r12 =>
 some ({ Size := (3 : Int), Ops := [r12] })
 else
 if k0 = (5 : Int) then
 (Ba ({ data := #[(48 : UInt8), (49 : UInt8), (48 : UInt8), (49 : UInt8), (49 : UInt8), (50 : UInt8), (48 : UInt8), (50 : UInt8), (50 : UInt8)] })).bind fun r14 =>
 some ({ Size := (3 : Int), Ops := [r14] })
 else
 if k0 = (6 : Int) then
 (Ba ({ data := #[(48 : UInt8), (49 : UInt8), (50 : UInt8), (51 : UInt8), (49 : UInt8), (48 : UInt8), (51 : UInt8), (50 : UInt8), (50 : UInt8), (51 : UInt8), (48 : UInt8), (49 : UInt8), (51 : UInt8), (50 : UInt8), (49 : UInt8), (48 : UInt8)] })).bind fun r16 =>
 some ({ Size := (4 : Int), Ops := [r16] })
 else
 if k0 = (7 : Int) then
 (Ba ({ data := #[(48 : UInt8), (48 : UInt8), (48 : UInt8), (48 : UInt8), (49 : UInt8), (49 : UInt8), (48 : UInt8), (49 : UInt8), (50 : UInt8)] })).bind fun r18 =>
 (Ba ({ data := #[(48 : UInt8), (49 : UInt8), (50 : UInt8), (49 : UInt8), (49 : UInt8), (50 : UInt8), (50 : UInt8), (50 : UInt8), (50 : UInt8)] })).bind fun r19 =>
 some ({ Size := (3 : Int), Ops := [r18, r19] })
 else
 if k0 = (8 : Int) then
 some ({ Size := (4 : Int), Ops := [{ Arity := (1 : Int), Table := [(1 : Int), (2 : Int), (3 : Int), (0 : Int)] }] })
 else
 if k0 = (9 : Int) then
 some ({ Size := (2 : Int), Ops := [{ Arity := (3 : Int), Table := [(0 : Int), (0 : Int), (0 : Int), (1 : Int), (0 : Int), (1 : Int), (1 : Int), (1 : Int)] }] })
 else
 if k0 = (10 : Int) then
 (Ba ({ data := #[(48 : UInt8), (48 : UInt8), (48 : UInt8), (49 : UInt8), (49 : UInt8), (49 : UInt8), (50 : UInt8), (50 : UInt8), (50 : UInt8)] })).bind fun r23 =>
 some ({ Size := (3 : Int), Ops := [r23] })
 else
 if k0 = (11 : Int) then
 (Ba ({ data := #[(48 : UInt8), (48 : UInt8), (48 : UInt8), (48 : UInt8), (48 : UInt8), (48 : UInt8), (49 : UInt8), (48 : UInt8), (48 : UInt8), (49 : UInt8), (48 : UInt8), (48 : UInt8), (50 : UInt8), (48 : UInt8), (50 : UInt8), (48 : UInt8), (48 : UInt8), (48 : UInt8), (51 : UInt8), (51 : UInt8), (48 : UInt8), (49 : UInt8), (50 : UInt8), (51 : UInt8), (52 : UInt8)] })).bind fun r25 =>
 (Ba ({ data := #[(48 : UInt8), (49 : UInt8), (50 : UInt8), (51 : UInt8), (52 : UInt8), (49 : UInt8), (49 : UInt8), (52 : UInt8), (52 : UInt8), (52 : UInt8), (50 : UInt8), (52 : UInt8), (50 : UInt8), (52 : UInt8), (52 : UInt8), (51 : UInt8), (52 : UInt8), (52 : UInt8), (51 : UInt8), (52 : UInt8), (52 : UInt8), (52 : UInt8), (52 : UInt8), (52 : UInt8), (52 : UInt8)] })).bind fun r26 =>
 some ({ Size := (5 : Int), Ops := [r25, r26] })
 else
 if k0 = (12 : Int) then
 (Ba ({ data := #[(48 : UInt8), (49 : UInt8), (50 : UInt8), (51 : UInt8), (49 : UInt8), (50 : UInt8), (51 : UInt8), (48 : UInt8), (50 : UInt8), (51 : UInt8), (48 : UInt8), (49 : UInt8), (51 : UInt8), (48 : UInt8), (49 : UInt8), (50 : UInt8)] })).bind fun r28 =>
 some ({ Size := (4 : Int), Ops := [r28] })
 else
 if k0 = (13 : Int) then
 some ({ Size := (3 : Int), Ops := [{ Arity := (1 : Int), Table := [(0 : Int), (0 : Int), (1 : Int)] }, { Arity := (0 : Int), Table := [(2 : Int)] }] })
 else
 if k0 = (14 : Int) then
 (Ba ({ data := #[(48 : UInt8)] })).bind fun r31 =>
 some ({ Size := (1 : Int), Ops := [r31] })
 else
 if k0 = (15 : Int) then
 (Gf ((3 : Int))).bind fun r33 =>
 some ({ Size := (3 : Int), Ops := [r33] })
 else
 some ({ Size := (2 : Int), Ops := Ao SOp })
theorem Agq {k0 : Int} {v : SAlgebra} (h : Jb k0 = some v) : Ret Try.prog P6 [Ae k0] ((Al true) v) := by
 refine Bg Ahu (Nat.le_of_ble_eq_true rfl) ?_
 unfold Jb at h
 conv => whnf
 refine Br.oe h (fun p1 h => ?_) (fun p1 h => ?_)
 ·conv => whnf
  refine CallQ.o (Ai true) (by rfl) h (fun r h => Bo h) (fun r2 h => ?_)
  conv => whnf
  refine BslQ.o (Ai true) [r2] (by exact fun _ => ⟨rfl, rfl⟩) (by rfl) ?_
  conv => whnf
  refine SetKids.lit rfl ?_
  conv => whnf
  cases h; exact (by rfl)
 conv => whnf
 refine Br.oe h (fun p3 h => ?_) (fun p3 h => ?_)
 ·conv => whnf
  refine CallQ.o (Ai true) (by rfl) h (fun r h => Bo h) (fun r4 h => ?_)
  conv => whnf
  refine CallQ.o (Ai true) (by rfl) h (fun r h => Bo h) (fun r5 h => ?_)
  conv => whnf
  refine BslQ.o (Ai true) ([r4, r5]) (by exact fun _ => ⟨rfl, rfl⟩) (by rfl) ?_
  conv => whnf
  refine SetKids.lit rfl ?_
  conv => whnf
  cases h; exact (by rfl)
 conv => whnf
 refine Br.oe h (fun p6 h => ?_) (fun p6 h => ?_)
 ·conv => whnf
  refine CallQ.o (Ai true) (by rfl) h (fun r h => Bo h) (fun r7 h => ?_)
  conv => whnf
  refine CallQ.o (Ai true) (by rfl) h (fun r h => Bo h) (fun r8 h => ?_)
  conv => whnf
  refine BslQ.o Ae ([(1 : Int), (0 : Int)]) (by exact fun _ => ⟨rfl, rfl⟩) (by rfl) ?_
  conv => whnf
  refine BslQ.o (Ai true) ([r7, r8, { Arity := (1 : Int), Table := [(1 : Int), (0 : Int)] }]) (by exact fun _ => ⟨rfl, rfl⟩) (by rfl) ?_
  conv => whnf
  refine SetKids.lit rfl ?_
  conv => whnf
  cases h; exact (by rfl)
 conv => whnf
 refine Br.oe h (fun p9 h => ?_) (fun p9 h => ?_)
 ·conv => whnf
  refine CallQ.o (Ai true) (by rfl) h (fun r h => Ve h) (fun r10 h => ?_)
  conv => whnf
  refine BslQ.o (Ai true) [r10] (by exact fun _ => ⟨rfl, rfl⟩) (by rfl) ?_
  conv => whnf
  refine SetKids.lit rfl ?_
  conv => whnf
  cases h; exact (by rfl)
 conv => whnf
 refine Br.oe h (fun p11 h => ?_) (fun p11 h => ?_)
 ·conv => whnf
  refine CallQ.o (Ai true) (by rfl) h (fun r h => Bo h) (fun r12 h => ?_)
  conv => whnf
  refine BslQ.o (Ai true) [r12] (by exact fun _ => ⟨rfl, rfl⟩) (by rfl) ?_
  conv => whnf
  refine SetKids.lit rfl ?_
  conv => whnf
  cases h; exact (by rfl)
 conv => whnf
 refine Br.oe h (fun p13 h => ?_) (fun p13 h => ?_)
 ·conv => whnf
  refine CallQ.o (Ai true) (by rfl) h (fun r h => Bo h) (fun r14 h => ?_)
  conv => whnf
  refine BslQ.o (Ai true) [r14] (by exact fun _ => ⟨rfl, rfl⟩) (by rfl) ?_
  conv => whnf
  refine SetKids.lit rfl ?_
  conv => whnf
  cases h; exact (by rfl)
 conv => whnf
 refine Br.oe h (fun p15 h => ?_) (fun p15 h => ?_)
 ·conv => whnf
  refine CallQ.o (Ai true) (by rfl) h (fun r h => Bo h) (fun r16 h => ?_)
  conv => whnf
  refine BslQ.o (Ai true) [r16] (by exact fun _ => ⟨rfl, rfl⟩) (by rfl) ?_
  conv => whnf
  refine SetKids.lit rfl ?_
  conv => whnf
  cases h; exact (by rfl)
 conv => whnf
 refine Br.oe h (fun p17 h => ?_) (fun p17 h => ?_)
 ·conv => whnf
  refine CallQ.o (Ai true) (by rfl) h (fun r h => Bo h) (fun r18 h => ?_)
  conv => whnf
  refine CallQ.o (Ai true) (by rfl) h (fun r h => Bo h) (fun r19 h => ?_)
  conv => whnf
  refine BslQ.o (Ai true) ([r18, r19]) (by exact fun _ => ⟨rfl, rfl⟩) (by rfl) ?_
  conv => whnf
  refine SetKids.lit rfl ?_
  conv => whnf
  cases h; exact (by rfl)
 conv => whnf
 refine Br.oe h (fun p20 h => ?_) (fun p20 h => ?_)
 ·conv => whnf
  refine BslQ.o Ae ([(1 : Int), (2 : Int), (3 : Int), (0 : Int)]) (by exact fun _ => ⟨rfl, rfl⟩) (by rfl) ?_
  conv => whnf
  refine BslQ.o (Ai true) ([{ Arity := (1 : Int), Table := [(1 : Int), (2 : Int), (3 : Int), (0 : Int)] }]) (by exact fun _ => ⟨rfl, rfl⟩) (by rfl) ?_
  conv => whnf
  refine SetKids.lit rfl ?_
  conv => whnf
  cases h; exact (by rfl)
 conv => whnf
 refine Br.oe h (fun p21 h => ?_) (fun p21 h => ?_)
 ·conv => whnf
  refine BslQ.o Ae ([(0 : Int), (0 : Int), (0 : Int), (1 : Int), (0 : Int), (1 : Int), (1 : Int), (1 : Int)]) (by exact fun _ => ⟨rfl, rfl⟩) (by rfl) ?_
  conv => whnf
  refine BslQ.o (Ai true) ([{ Arity := (3 : Int), Table := [(0 : Int), (0 : Int), (0 : Int), (1 : Int), (0 : Int), (1 : Int), (1 : Int), (1 : Int)] }]) (by exact fun _ => ⟨rfl, rfl⟩) (by rfl) ?_
  conv => whnf
  refine SetKids.lit rfl ?_
  conv => whnf
  cases h; exact (by rfl)
 conv => whnf
 refine Br.oe h (fun p22 h => ?_) (fun p22 h => ?_)
 ·conv => whnf
  refine CallQ.o (Ai true) (by rfl) h (fun r h => Bo h) (fun r23 h => ?_)
  conv => whnf
  refine BslQ.o (Ai true) [r23] (by exact fun _ => ⟨rfl, rfl⟩) (by rfl) ?_
  conv => whnf
  refine SetKids.lit rfl ?_
  conv => whnf
  cases h; exact (by rfl)
 conv => whnf
 refine Br.oe h (fun p24 h => ?_) (fun p24 h => ?_)
 ·conv => whnf
  refine CallQ.o (Ai true) (by rfl) h (fun r h => Bo h) (fun r25 h => ?_)
  conv => whnf
  refine CallQ.o (Ai true) (by rfl) h (fun r h => Bo h) (fun r26 h => ?_)
  conv => whnf
  refine BslQ.o (Ai true) ([r25, r26]) (by exact fun _ => ⟨rfl, rfl⟩) (by rfl) ?_
  conv => whnf
  refine SetKids.lit rfl ?_
  conv => whnf
  cases h; exact (by rfl)
 conv => whnf
 refine Br.oe h (fun p27 h => ?_) (fun p27 h => ?_)
 ·conv => whnf
  refine CallQ.o (Ai true) (by rfl) h (fun r h => Bo h) (fun r28 h => ?_)
  conv => whnf
  refine BslQ.o (Ai true) [r28] (by exact fun _ => ⟨rfl, rfl⟩) (by rfl) ?_
  conv => whnf
  refine SetKids.lit rfl ?_
  conv => whnf
  cases h; exact (by rfl)
 conv => whnf
 refine Br.oe h (fun p29 h => ?_) (fun p29 h => ?_)
 ·conv => whnf
  refine BslQ.o Ae ([(0 : Int), (0 : Int), (1 : Int)]) (by exact fun _ => ⟨rfl, rfl⟩) (by rfl) ?_
  conv => whnf
  refine BslQ.o Ae ([(2 : Int)]) (by exact fun _ => ⟨rfl, rfl⟩) (by rfl) ?_
  conv => whnf
  refine BslQ.o (Ai true) ([{ Arity := (1 : Int), Table := [(0 : Int), (0 : Int), (1 : Int)] }, { Arity := (0 : Int), Table := [(2 : Int)] }]) (by exact fun _ => ⟨rfl, rfl⟩) (by rfl) ?_
  conv => whnf
  refine SetKids.lit rfl ?_
  conv => whnf
  cases h; exact (by rfl)
 conv => whnf
 refine Br.oe h (fun p30 h => ?_) (fun p30 h => ?_)
 ·conv => whnf
  refine CallQ.o (Ai true) (by rfl) h (fun r h => Bo h) (fun r31 h => ?_)
  conv => whnf
  refine BslQ.o (Ai true) [r31] (by exact fun _ => ⟨rfl, rfl⟩) (by rfl) ?_
  conv => whnf
  refine SetKids.lit rfl ?_
  conv => whnf
  cases h; exact (by rfl)
 conv => whnf
 refine Br.oe h (fun p32 h => ?_) (fun p32 h => ?_)
 ·conv => whnf
  refine CallQ.o (Ai true) (by rfl) h (fun r h => Ve h) (fun r33 h => ?_)
  conv => whnf
  refine BslQ.o (Ai true) [r33] (by exact fun _ => ⟨rfl, rfl⟩) (by rfl) ?_
  conv => whnf
  refine SetKids.lit rfl ?_
  conv => whnf
  cases h; exact (by rfl)
 conv => whnf
 refine SetKids.lit rfl ?_
 conv => whnf
 cases h; exact (by rfl)
end Go.Proofs.Ytoaojijoefljaaa.Ax
