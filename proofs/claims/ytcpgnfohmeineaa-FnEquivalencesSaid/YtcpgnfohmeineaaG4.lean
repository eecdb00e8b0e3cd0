/-
 What the functions compute, as functions on plain data, and that the program does compute it; written by program.
-/
import Derived.Test.YtcpgnfohmeineaaCode
import Derived.Test.YtcpgnfohmeineaaG1
import Derived.Test.YtcpgnfohmeineaaG2
namespace Go.Proofs.Ytcpgnfohmeineaa.Ax
open Go
set_option maxRecDepth 100000
set_option maxHeartbeats 4000000
noncomputable def Ep (a0 : List (List Int)) (b0 : List (List Int)) : Int → Option (Int ⊕ (Unit ⊕ Unit)) := fun x5 =>
 if x5 < (↑a0.length : Int) then
 ask ((0 : Int) ≤ x5 ∧ x5 < (↑a0.length : Int)) <|
 ask ((0 : Int) ≤ x5 ∧ x5 < (↑b0.length : Int)) <|
 (Gy (nth a0 x5.toNat) (nth b0 x5.toNat)).bind fun r5 =>
 if (r5) = true then
 ask (InI (x5 + (1 : Int))) <|
 some (.inl (x5 + (1 : Int)))
 else
 some (.inr (.inl ()))
 else
 some (.inr (.inr ()))
def Oa (a0 : List (List Int)) (b0 : List (List Int)) : Int → St := fun s => [(5, A.val (Af s)), (0, A.val ((slr false 1 (slr false 1 Af)) (a0))), (1, A.val ((slr false 1 (slr false 1 Af)) (b0)))]
def Vu (_a0 : List (List Int)) (_b0 : List (List Int)) : (Unit ⊕ Unit) → Tgt
 | (.inl _s) => (Ex.ret, [4], [(4, A.val (V.bool (false)))])
 | (.inr _s) => ((Ex.exit 0), [], [])
theorem Ae4 {a0 : List (List Int)} {b0 : List (List Int)} (x5 : Int) (o : Int ⊕ (Unit ⊕ Unit)) (h : Ep a0 b0 x5 = some o) : vc Try.prog Ur (Cu [5, 0, 1] (Oa a0 b0) (Vu a0 b0) o) (Oa a0 b0 x5) := by
 unfold Ep at h
 try dsimp only at h
 conv => whnf
 refine Len.map ?_
 conv => whnf
 refine Br.od h (fun p2 h => ?_) (fun p2 h => ?_)
 ·conv => whnf
  refine Len.map ?_
  conv => whnf
  refine Ask.o h fun p3 h => ?_
  conv => whnf
  refine Elem.o (by first | omega | (simp [Ap] at *; omega)) ?_
  conv => whnf
  refine Len.map ?_
  conv => whnf
  refine Ask.o h fun p4 h => ?_
  conv => whnf
  refine Elem.o (by first | omega | (simp [Ap] at *; omega)) ?_
  conv => whnf
  refine CallQ.o V.bool (by rfl) h (fun r h => Qp h) (fun r5 h => ?_)
  conv => whnf
  refine Br.flip ?_
  conv => whnf
  refine Br.ob h (fun p6 h => ?_) (fun p6 h => ?_)
  ·conv => whnf
   refine Ask.o h fun p7 h => ?_
   conv => whnf
   cases h; exact ⟨rfl, rfl⟩
  conv => whnf
  cases h; exact ⟨rfl, rfl⟩
 conv => whnf
 cases h; exact ⟨rfl, rfl⟩
noncomputable def Kw (a0 : (List (List Int))) (b0 : (List (List Int))) : Option Bool :=
 if (↑a0.length : Int) ≠ (↑b0.length : Int) then
 some false
 else
 (Al (Ep a0 b0) (0 : Int)).bind fun t => match t with
 | (.inl _) => (some false)
 | (.inr _) => (some true)
theorem Akg {a0 : (List (List Int))} {b0 : (List (List Int))} {v : Bool} (h : Kw a0 b0 = some v) : Ret Try.prog Tl [(slr false 1 (slr false 1 Af)) a0, (slr false 1 (slr false 1 Af)) b0] (V.bool v) := by
 refine A8 Akj (Nat.le_of_ble_eq_true rfl) ?_
 unfold Kw at h
 conv => whnf
 refine Len.map ?_
 conv => whnf
 refine Len.map ?_
 conv => whnf
 refine Br.on h (fun p1 h => ?_) (fun p1 h => ?_)
 ·conv => whnf
  cases h; exact (by rfl)
 conv => whnf
 refine LoopQ.o [5, 0, 1] (Oa a0 b0) (Vu a0 b0) h (fun s o h => Ae4 s o h) (by rfl) (by rintro (_ | _) <;> rfl) ?_
 rintro (⟨⟩ | ⟨⟩) h
 ·try dsimp only at h
  conv => whnf
  cases h; exact (by rfl)
 try dsimp only at h
 conv => whnf
 cases h; exact (by rfl)
noncomputable def E4 (n0 : Int) (r0 : SRelation) : Int → Option (Int ⊕ (Unit ⊕ Unit)) := fun x18 =>
 if x18 < (↑r0.Tuples.length : Int) then
 ask ((0 : Int) ≤ x18 ∧ x18 < (↑r0.Tuples.length : Int)) <|
 if (↑(nth r0.Tuples x18.toNat).length : Int) ≠ r0.Arity then
 some (.inr (.inl ()))
 else
 (Ir (nth r0.Tuples x18.toNat) (n0)).bind fun r7 =>
 if (r7) = true then
 if x18 > (0 : Int) then
 ask (InI (x18 - (1 : Int))) <|
 ask ((0 : Int) ≤ x18 - (1 : Int) ∧ x18 - (1 : Int) < (↑r0.Tuples.length : Int)) <|
 (Fk (nth r0.Tuples (x18 - (1 : Int)).toNat) (nth r0.Tuples x18.toNat)).bind fun r12 =>
 if r12 ≥ (0 : Int) then
 some (.inr (.inl ()))
 else
 ask (InI (x18 + (1 : Int))) <|
 some (.inl (x18 + (1 : Int)))
 else
 ask (InI (x18 + (1 : Int))) <|
 some (.inl (x18 + (1 : Int)))
 else
 some (.inr (.inl ()))
 else
 some (.inr (.inr ()))
def Jt (n0 : Int) (r0 : SRelation) : Int → St := fun s => [(18, A.val (Af s)), (17, A.val (Af ((↑r0.Tuples.length : Int)))), (16, A.val ((slr false 1 (slr false 1 Af)) (r0.Tuples))), (3, A.val ((rP true (Ai false)) (r0))), (0, A.val (Af (n0)))]
def O8 (_n0 : Int) (_r0 : SRelation) : (Unit ⊕ Unit) → Tgt
 | (.inl _s) => (Ex.ret, [4], [(4, A.val (V.bool (false)))])
 | (.inr _s) => ((Ex.exit 0), [], [])
theorem Yw {n0 : Int} {r0 : SRelation} (x18 : Int) (o : Int ⊕ (Unit ⊕ Unit)) (h : E4 n0 r0 x18 = some o) : vc Try.prog Pu (Cu [18, 17, 16, 3, 0] (Jt n0 r0) (O8 n0 r0) o) (Jt n0 r0 x18) := by
 unfold E4 at h
 try dsimp only at h
 conv => whnf
 refine Br.od h (fun p4 h => ?_) (fun p4 h => ?_)
 ·conv => whnf
  refine Len.map ?_
  conv => whnf
  refine Ask.o h fun p5 h => ?_
  conv => whnf
  refine Elem.o (by first | omega | (simp [Ap] at *; omega)) ?_
  conv => whnf
  refine Len.map ?_
  conv => whnf
  refine Cells.lit rfl rfl ?_
  conv => whnf
  refine Br.on h (fun p6 h => ?_) (fun p6 h => ?_)
  ·conv => whnf
   refine Br.yes ?_
   conv => whnf
   refine Br.yes ?_
   conv => whnf
   refine Br.yes ?_
   conv => whnf
   refine Br.yes ?_
   conv => whnf
   refine Br.yes ?_
   conv => whnf
   refine Br.yes ?_
   conv => whnf
   refine Br.yes ?_
   conv => whnf
   refine Br.yes ?_
   conv => whnf
   refine Br.yes ?_
   conv => whnf
   refine Br.yes ?_
   conv => whnf
   cases h; exact ⟨rfl, rfl⟩
  conv => whnf
  refine Br.no ?_
  conv => whnf
  refine Br.no ?_
  conv => whnf
  refine CallQ.o V.bool (by rfl) h (fun r h => Aaa h) (fun r7 h => ?_)
  conv => whnf
  refine Br.no ?_
  conv => whnf
  refine Br.no ?_
  conv => whnf
  refine Br.flip ?_
  conv => whnf
  refine Br.ob h (fun p8 h => ?_) (fun p8 h => ?_)
  ·conv => whnf
   refine Br.no ?_
   conv => whnf
   refine Br.no ?_
   conv => whnf
   refine Br.od h (fun p9 h => ?_) (fun p9 h => ?_)
   ·conv => whnf
    refine Br.yes ?_
    conv => whnf
    refine Cells.lit rfl rfl ?_
    conv => whnf
    refine Br.yes ?_
    conv => whnf
    refine Br.yes ?_
    conv => whnf
    refine Ask.o h fun p10 h => ?_
    conv => whnf
    refine Br.yes ?_
    conv => whnf
    refine Len.map ?_
    conv => whnf
    refine Ask.o h fun p11 h => ?_
    conv => whnf
    refine Elem.o (by first | omega | (simp [Ap] at *; omega)) ?_
    conv => whnf
    refine Br.yes ?_
    conv => whnf
    refine Br.yes ?_
    conv => whnf
    refine Br.yes ?_
    conv => whnf
    refine CallQ.o Af (by rfl) h (fun r h => Z4 h) (fun r12 h => ?_)
    conv => whnf
    refine Br.yes ?_
    conv => whnf
    refine Br.no ?_
    conv => whnf
    refine Br.yes ?_
    conv => whnf
    refine Br.no ?_
    conv => whnf
    refine Br.od h (fun p13 h => ?_) (fun p13 h => ?_)
    ·conv => whnf
     cases h; exact ⟨rfl, rfl⟩
    conv => whnf
    refine Ask.o h fun p14 h => ?_
    conv => whnf
    cases h; exact ⟨rfl, rfl⟩
   conv => whnf
   refine Br.no ?_
   conv => whnf
   refine Br.no ?_
   conv => whnf
   refine Br.no ?_
   conv => whnf
   refine Br.no ?_
   conv => whnf
   refine Br.no ?_
   conv => whnf
   refine Br.no ?_
   conv => whnf
   refine Br.no ?_
   conv => whnf
   refine Br.no ?_
   conv => whnf
   refine Br.no ?_
   conv => whnf
   refine Br.no ?_
   conv => whnf
   refine Br.no ?_
   conv => whnf
   refine Br.no ?_
   conv => whnf
   refine Ask.o h fun p15 h => ?_
   conv => whnf
   cases h; exact ⟨rfl, rfl⟩
  conv => whnf
  refine Br.yes ?_
  conv => whnf
  refine Br.yes ?_
  conv => whnf
  refine Br.yes ?_
  conv => whnf
  refine Br.yes ?_
  conv => whnf
  refine Br.yes ?_
  conv => whnf
  cases h; exact ⟨rfl, rfl⟩
 conv => whnf
 cases h; exact ⟨rfl, rfl⟩
noncomputable def Fc (n0 : Int) (r0 : SRelation) : Option Bool :=
 ((if r0.Arity < (1 : Int) then
 some (.inl ())
 else
 if r0.Arity > (3 : Int) then
 some (.inl ())
 else
 some (.inr ()) : Option (Unit ⊕ Unit))).bind fun t => match t with
 | (.inl _) => (some false)
 | (.inr _) => ((Al (E4 n0 r0) (0 : Int)).bind fun t => match t with
 | (.inl _) => (some false)
 | (.inr _) => (some true))
theorem Su {n0 : Int} {r0 : SRelation} {v : Bool} (h : Fc n0 r0 = some v) : Ret Try.prog I4 [Af n0, (Ai false) r0] (V.bool v) := by
 refine A8 Adi (Nat.le_of_ble_eq_true rfl) ?_
 unfold Fc at h
 conv => whnf
 refine CutQ.o (fun t : (Unit ⊕ Unit) => match t with | (.inl s) => (Ex.ret, [4], [(4, A.val (V.bool (false)))]) | (.inr s) => (Ex.normal, [3, 0], [(3, A.val ((rP true (Ai false)) (r0))), (0, A.val (Af (n0)))])) h ?_ ?_
 ·intro t h
  conv => whnf
  refine Cells.lit rfl rfl ?_
  conv => whnf
  refine Br.od h (fun p1 h => ?_) (fun p1 h => ?_)
  ·conv => whnf
   refine Br.yes ?_
   conv => whnf
   refine Br.yes ?_
   conv => whnf
   refine Br.yes ?_
   conv => whnf
   refine Br.yes ?_
   conv => whnf
   cases h; exact ⟨rfl, rfl⟩
  conv => whnf
  refine Br.no ?_
  conv => whnf
  refine Cells.lit rfl rfl ?_
  conv => whnf
  refine Br.no ?_
  conv => whnf
  refine Br.no ?_
  conv => whnf
  refine Br.od h (fun p2 h => ?_) (fun p2 h => ?_)
  ·conv => whnf
   cases h; exact ⟨rfl, rfl⟩
  conv => whnf
  cases h; exact ⟨rfl, rfl⟩
 rintro (⟨⟩ | ⟨⟩) h
 ·try dsimp only at h
  conv => whnf
  cases h; exact (by rfl)
 try dsimp only at h
 conv => whnf
 refine Cells.lit rfl rfl ?_
 conv => whnf
 refine Len.map ?_
 conv => whnf
 refine LoopQ.o [18, 17, 16, 3, 0] (Jt n0 r0) (O8 n0 r0) h (fun s o h => Yw s o h) (by rfl) (by rintro (_ | _) <;> rfl) ?_
 rintro (⟨⟩ | ⟨⟩) h
 ·try dsimp only at h
  conv => whnf
  cases h; exact (by rfl)
 try dsimp only at h
 conv => whnf
 cases h; exact (by rfl)
noncomputable def Jn (k0 : Int) : Option SAlgebra :=
 if k0 = (0 : Int) then
 (A9 ({ data := #[(48 : UInt8), (48 : UInt8), (48 : UInt8), (49 : UInt8)] })).bind fun r2 =>
 some ({ Size := (2 : Int), Ops := [r2] })
 else
 if k0 = (1 : Int) then
 (A9 ({ data := #[(48 : UInt8), (48 : UInt8), (48 : UInt8), (49 : UInt8)] })).bind fun r4 =>
 (A9 ({ data := #[(48 : UInt8), (49 : UInt8), (49 : UInt8), (49 : UInt8)] })).bind fun r5 =>
 some ({ Size := (2 : Int), Ops := [r4, r5] })
 else
 if k0 = (2 : Int) then
 (A9 ({ data := #[(48 : UInt8), (48 : UInt8), (48 : UInt8), (49 : UInt8)] })).bind fun r7 =>
 (A9 ({ data := #[(48 : UInt8), (49 : UInt8), (49 : UInt8), (49 : UInt8)] })).bind fun r8 =>
 some ({ Size := (2 : Int), Ops := [r7, r8, { Arity := (1 : Int), Table := [(1 : Int), (0 : Int)] }] })
 else
 if k0 = (3 : Int) then
 (Gn ((2 : Int))).bind fun r10 =>
 some ({ Size := (2 : Int), Ops := [r10] })
 else
 if k0 = (4 : Int) then
 (A9 ({ data := #[(48 : UInt8), (49 : UInt8), (50 : UInt8), (49 : UInt8), (50 : UInt8), (48 : UInt8), (50 : UInt8), (48 : UInt8), (49 : UInt8)] })).bind fun r12 =>
 some ({ Size := (3 : Int), Ops := [r12] })
 else
 if k0 = (5 : Int) then
 (A9 ({ data := #[(48 : UInt8), (49 : UInt8), (48 : UInt8), (49 : UInt8), (49 : UInt8), (50 : UInt8), (48 : UInt8), (50 : UInt8), (50 : UInt8)] })).bind fun r14 =>
 some ({ Size := (3 : Int), Ops := [r14] })
 else
 if k0 = (6 : Int) then
 (A9 ({ data := #[(48 : UInt8), (49 : UInt8), (50 : UInt8), (51 : UInt8), (49 : UInt8), (48 : UInt8), (51 : UInt8), (50 : UInt8), (50 : UInt8), (51 : UInt8), (48 : UInt8), (49 : UInt8), (51 : UInt8), (50 : UInt8), (49 : UInt8), (48 : UInt8)] })).bind fun r16 =>
 some ({ Size := (4 : Int), Ops := [r16] })
 else
 if k0 = (7 : Int) then
 (A9 ({ data := #[(48 : UInt8), (48 : UInt8), (48 : UInt8), (48 : UInt8), (49 : UInt8), (49 : UInt8), (48 : UInt8), (49 : UInt8), (50 : UInt8)] })).bind fun r18 =>
 (A9 ({ data := #[(48 : UInt8), (49 : UInt8), (50 : UInt8), (49 : UInt8), (49 : UInt8), (50 : UInt8), (50 : UInt8), (50 : UInt8), (50 : UInt8)] })).bind fun r19 =>
 some ({ Size := (3 : Int), Ops := [r18, r19] })
 else
 if k0 = (8 : Int) then
 some ({ Size := (4 : Int), Ops := [{ Arity := (1 : Int), Table := [(1 : Int), (2 : Int), (3 : Int), (0 : Int)] }] })
 else
 if k0 = (9 : Int) then
 some ({ Size := (2 : Int), Ops := [{ Arity := (3 : Int), Table := [(0 : Int), (0 : Int), (0 : Int), (1 : Int), (0 : Int), (1 : Int), (1 : Int), (1 : Int)] }] })
 else
 if k0 = (10 : Int) then
 (A9 ({ data := #[(48 : UInt8), (48 : UInt8), (48 : UInt8), (49 : UInt8), (49 : UInt8), (49 : UInt8), (50 : UInt8), (50 : UInt8), (50 : UInt8)] })).bind fun r23 =>
 some ({ Size := (3 : Int), Ops := [r23] })
 else
 if k0 = (11 : Int) then
 (A9 ({ data := #[(48 : UInt8), (48 : UInt8), (48 : UInt8), (48 : UInt8), (48 : UInt8), (48 : UInt8), (49 : UInt8), (48 : UInt8), (48 : UInt8), (49 : UInt8), (48 : UInt8), (48 : UInt8), (50 : UInt8), (48 : UInt8), (50 : UInt8), (48 : UInt8), (48 : UInt8), (48 : UInt8), (51 : UInt8), (51 : UInt8), (48 : UInt8), (49 : UInt8), (50 : UInt8), (51 : UInt8), (52 : UInt8)] })).bind fun r25 =>
 (A9 ({ data := #[(48 : UInt8), (49 : UInt8), (50 : UInt8), (51 : UInt8), (52 : UInt8), (49 : UInt8), (49 : UInt8), (52 : UInt8), (52 : UInt8), (52 : UInt8), (50 : UInt8), (52 : UInt8), (50 : UInt8), (52 : UInt8), (52 : UInt8), (51 : UInt8), (52 : UInt8), (52 : UInt8), (51 : UInt8), (52 : UInt8), (52 : UInt8), (52 : UInt8), (52 : UInt8), (52 : UInt8), (52 : UInt8)] })).bind fun r26 =>
 some ({ Size := (5 : Int), Ops := [r25, r26] })
 else
 if k0 = (12 : Int) then
 (A9 ({ data := #[(48 : UInt8), (49 : UInt8), (50 : UInt8), (51 : UInt8), (49 : UInt8), (50 : UInt8), (51 : UInt8), (48 : UInt8), (50 : UInt8), (51 : UInt8), (48 : UInt8), (49 : UInt8), (51 : UInt8), (48 : UInt8), (49 : UInt8), (50 : UInt8)] })).bind fun r28 =>
 some ({ Size := (4 : Int), Ops := [r28] })
 else
 if k0 = (13 : Int) then
 some ({ Size := (3 : Int), Ops := [{ Arity := (1 : Int), Table := [(0 : Int), (0 : Int), (1 : Int)] }, { Arity := (0 : Int), Table := [(2 : Int)] }] })
 else
 if k0 = (14 : Int) then
 (A9 ({ data := #[(48 : UInt8)] })).bind fun r31 =>
 some ({ Size := (1 : Int), Ops := [r31] })
 else
 if k0 = (15 : Int) then
 (Gn ((3 : Int))).bind fun r33 =>
 some ({ Size := (3 : Int), Ops := [r33] })
 else
 some ({ Size := (2 : Int), Ops := Av SOp })
theorem Ahv {k0 : Int} {v : SAlgebra} (h : Jn k0 = some v) : Ret Try.prog R6 [Af k0] ((Ak true) v) := by
 refine A8 Aje (Nat.le_of_ble_eq_true rfl) ?_
 unfold Jn at h
 conv => whnf
 refine Br.oe h (fun p1 h => ?_) (fun p1 h => ?_)
 ·conv => whnf
  refine CallQ.o (A7 true) (by rfl) h (fun r h => Bj h) (fun r2 h => ?_)
  conv => whnf
  refine BslQ.o (A7 true) [r2] (by exact fun _ => ⟨rfl, rfl⟩) (by rfl) ?_
  conv => whnf
  refine SetKids.lit rfl ?_
  conv => whnf
  cases h; exact (by rfl)
 conv => whnf
 refine Br.oe h (fun p3 h => ?_) (fun p3 h => ?_)
 ·conv => whnf
  refine CallQ.o (A7 true) (by rfl) h (fun r h => Bj h) (fun r4 h => ?_)
  conv => whnf
  refine CallQ.o (A7 true) (by rfl) h (fun r h => Bj h) (fun r5 h => ?_)
  conv => whnf
  refine BslQ.o (A7 true) ([r4, r5]) (by exact fun _ => ⟨rfl, rfl⟩) (by rfl) ?_
  conv => whnf
  refine SetKids.lit rfl ?_
  conv => whnf
  cases h; exact (by rfl)
 conv => whnf
 refine Br.oe h (fun p6 h => ?_) (fun p6 h => ?_)
 ·conv => whnf
  refine CallQ.o (A7 true) (by rfl) h (fun r h => Bj h) (fun r7 h => ?_)
  conv => whnf
  refine CallQ.o (A7 true) (by rfl) h (fun r h => Bj h) (fun r8 h => ?_)
  conv => whnf
  refine BslQ.o Af ([(1 : Int), (0 : Int)]) (by exact fun _ => ⟨rfl, rfl⟩) (by rfl) ?_
  conv => whnf
  refine BslQ.o (A7 true) ([r7, r8, { Arity := (1 : Int), Table := [(1 : Int), (0 : Int)] }]) (by exact fun _ => ⟨rfl, rfl⟩) (by rfl) ?_
  conv => whnf
  refine SetKids.lit rfl ?_
  conv => whnf
  cases h; exact (by rfl)
 conv => whnf
 refine Br.oe h (fun p9 h => ?_) (fun p9 h => ?_)
 ·conv => whnf
  refine CallQ.o (A7 true) (by rfl) h (fun r h => W2 h) (fun r10 h => ?_)
  conv => whnf
  refine BslQ.o (A7 true) [r10] (by exact fun _ => ⟨rfl, rfl⟩) (by rfl) ?_
  conv => whnf
  refine SetKids.lit rfl ?_
  conv => whnf
  cases h; exact (by rfl)
 conv => whnf
 refine Br.oe h (fun p11 h => ?_) (fun p11 h => ?_)
 ·conv => whnf
  refine CallQ.o (A7 true) (by rfl) h (fun r h => Bj h) (fun r12 h => ?_)
  conv => whnf
  refine BslQ.o (A7 true) [r12] (by exact fun _ => ⟨rfl, rfl⟩) (by rfl) ?_
  conv => whnf
  refine SetKids.lit rfl ?_
  conv => whnf
  cases h; exact (by rfl)
 conv => whnf
 refine Br.oe h (fun p13 h => ?_) (fun p13 h => ?_)
 ·conv => whnf
  refine CallQ.o (A7 true) (by rfl) h (fun r h => Bj h) (fun r14 h => ?_)
  conv => whnf
  refine BslQ.o (A7 true) [r14] (by exact fun _ => ⟨rfl, rfl⟩) (by rfl) ?_
  conv => whnf
  refine SetKids.lit rfl ?_
  conv => whnf
  cases h; exact (by rfl)
 conv => whnf
 refine Br.oe h (fun p15 h => ?_) (fun p15 h => ?_)
 ·conv => whnf
  refine CallQ.o (A7 true) (by rfl) h (fun r h => Bj h) (fun r16 h => ?_)
  conv => whnf
  refine BslQ.o (A7 true) [r16] (by exact fun _ => ⟨rfl, rfl⟩) (by rfl) ?_
  conv => whnf
  refine SetKids.lit rfl ?_
  conv => whnf
  cases h; exact (by rfl)
 conv => whnf
 refine Br.oe h (fun p17 h => ?_) (fun p17 h => ?_)
 ·conv => whnf
  refine CallQ.o (A7 true) (by rfl) h (fun r h => Bj h) (fun r18 h => ?_)
  conv => whnf
  refine CallQ.o (A7 true) (by rfl) h (fun r h => Bj h) (fun r19 h => ?_)
  conv => whnf
  refine BslQ.o (A7 true) ([r18, r19]) (by exact fun _ => ⟨rfl, rfl⟩) (by rfl) ?_
  conv => whnf
  refine SetKids.lit rfl ?_
  conv => whnf
  cases h; exact (by rfl)
 conv => whnf
 refine Br.oe h (fun p20 h => ?_) (fun p20 h => ?_)
 ·conv => whnf
  refine BslQ.o Af ([(1 : Int), (2 : Int), (3 : Int), (0 : Int)]) (by exact fun _ => ⟨rfl, rfl⟩) (by rfl) ?_
  conv => whnf
  refine BslQ.o (A7 true) ([{ Arity := (1 : Int), Table := [(1 : Int), (2 : Int), (3 : Int), (0 : Int)] }]) (by exact fun _ => ⟨rfl, rfl⟩) (by rfl) ?_
  conv => whnf
  refine SetKids.lit rfl ?_
  conv => whnf
  cases h; exact (by rfl)
 conv => whnf
 refine Br.oe h (fun p21 h => ?_) (fun p21 h => ?_)
 ·conv => whnf
  refine BslQ.o Af ([(0 : Int), (0 : Int), (0 : Int), (1 : Int), (0 : Int), (1 : Int), (1 : Int), (1 : Int)]) (by exact fun _ => ⟨rfl, rfl⟩) (by rfl) ?_
  conv => whnf
  refine BslQ.o (A7 true) ([{ Arity := (3 : Int), Table := [(0 : Int), (0 : Int), (0 : Int), (1 : Int), (0 : Int), (1 : Int), (1 : Int), (1 : Int)] }]) (by exact fun _ => ⟨rfl, rfl⟩) (by rfl) ?_
  conv => whnf
  refine SetKids.lit rfl ?_
  conv => whnf
  cases h; exact (by rfl)
 conv => whnf
 refine Br.oe h (fun p22 h => ?_) (fun p22 h => ?_)
 ·conv => whnf
  refine CallQ.o (A7 true) (by rfl) h (fun r h => Bj h) (fun r23 h => ?_)
  conv => whnf
  refine BslQ.o (A7 true) [r23] (by exact fun _ => ⟨rfl, rfl⟩) (by rfl) ?_
  conv => whnf
  refine SetKids.lit rfl ?_
  conv => whnf
  cases h; exact (by rfl)
 conv => whnf
 refine Br.oe h (fun p24 h => ?_) (fun p24 h => ?_)
 ·conv => whnf
  refine CallQ.o (A7 true) (by rfl) h (fun r h => Bj h) (fun r25 h => ?_)
  conv => whnf
  refine CallQ.o (A7 true) (by rfl) h (fun r h => Bj h) (fun r26 h => ?_)
  conv => whnf
  refine BslQ.o (A7 true) ([r25, r26]) (by exact fun _ => ⟨rfl, rfl⟩) (by rfl) ?_
  conv => whnf
  refine SetKids.lit rfl ?_
  conv => whnf
  cases h; exact (by rfl)
 conv => whnf
 refine Br.oe h (fun p27 h => ?_) (fun p27 h => ?_)
 ·conv => whnf
  refine CallQ.o (A7 true) (by rfl) h (fun r h => Bj h) (fun r28 h => ?_)
  conv => whnf
  refine BslQ.o (A7 true) [r28] (by exact fun _ => ⟨rfl, rfl⟩) (by rfl) ?_
  conv => whnf
  refine SetKids.lit rfl ?_
  conv => whnf
  cases h; exact (by rfl)
 conv => whnf
 refine Br.oe h (fun p29 h => ?_) (fun p29 h => ?_)
 ·conv => whnf
  refine BslQ.o Af ([(0 : Int), (0 : Int), (1 : Int)]) (by exact fun _ => ⟨rfl, rfl⟩) (by rfl) ?_
  conv => whnf
  refine BslQ.o Af ([(2 : Int)]) (by exact fun _ => ⟨rfl, rfl⟩) (by rfl) ?_
  conv => whnf
  refine BslQ.o (A7 true) ([{ Arity := (1 : Int), Table := [(0 : Int), (0 : Int), (1 : Int)] }, { Arity := (0 : Int), Table := [(2 : Int)] }]) (by exact fun _ => ⟨rfl, rfl⟩) (by rfl) ?_
  conv => whnf
  refine SetKids.lit rfl ?_
  conv => whnf
  cases h; exact (by rfl)
 conv => whnf
 refine Br.oe h (fun p30 h => ?_) (fun p30 h => ?_)
 ·conv => whnf
  refine CallQ.o (A7 true) (by rfl) h (fun r h => Bj h) (fun r31 h => ?_)
  conv => whnf
  refine BslQ.o (A7 true) [r31] (by exact fun _ => ⟨rfl, rfl⟩) (by rfl) ?_
  conv => whnf
  refine SetKids.lit rfl ?_
  conv => whnf
  cases h; exact (by rfl)
 conv => whnf
 refine Br.oe h (fun p32 h => ?_) (fun p32 h => ?_)
 ·conv => whnf
  refine CallQ.o (A7 true) (by rfl) h (fun r h => W2 h) (fun r33 h => ?_)
  conv => whnf
  refine BslQ.o (A7 true) [r33] (by exact fun _ => ⟨rfl, rfl⟩) (by rfl) ?_
  conv => whnf
  refine SetKids.lit rfl ?_
  conv => whnf
  cases h; exact (by rfl)
 conv => whnf
 refine SetKids.lit rfl ?_
 conv => whnf
 cases h; exact (by rfl)
noncomputable def Gg (r0 : SRelation) : (Int × (List (ByteArray × Bool))) → Option ((Int × (List (ByteArray × Bool))) ⊕ (List (ByteArray × Bool))) := fun (x10, x3) =>
 if x10 < (↑r0.Tuples.length : Int) then
 ask ((0 : Int) ≤ x10 ∧ x10 < (↑r0.Tuples.length : Int)) <|
 (Jz (nth r0.Tuples x10.toNat)).bind fun r3 =>
 ask (InI (x10 + (1 : Int))) <|
 some (.inl (x10 + (1 : Int), Ml x3 r3 true))
 else
 some (.inr x3)
def Ll (r0 : SRelation) : (Int × (List (ByteArray × Bool))) → St := fun s => [(10, A.val (Af s.1)), (9, A.val (Af ((↑r0.Tuples.length : Int)))), (8, A.val ((slr false 1 (slr false 1 Af)) (r0.Tuples))), (3, A.val ((rMp true Lf.bool) s.2))]
def R5 (_r0 : SRelation) : (List (ByteArray × Bool)) → Tgt
 | s => ((Ex.exit 0), [3], [(3, A.val ((rMp true Lf.bool) s))])
theorem Abb {r0 : SRelation} (s : (Int × (List (ByteArray × Bool)))) (o : (Int × (List (ByteArray × Bool))) ⊕ (List (ByteArray × Bool))) (h : Gg r0 s = some o) : vc Try.prog Rl (Cu [10, 9, 8, 3] (Ll r0) (R5 r0) o) (Ll r0 s) := by
 obtain ⟨x10, x3⟩ := s
 unfold Gg at h
 try dsimp only at h
 conv => whnf
 refine Br.od h (fun p1 h => ?_) (fun p1 h => ?_)
 ·conv => whnf
  refine Len.map ?_
  conv => whnf
  refine Ask.o h fun p2 h => ?_
  conv => whnf
  refine Elem.o (by first | omega | (simp [Ap] at *; omega)) ?_
  conv => whnf
  refine CallQ.o V.str (by rfl) h (fun r h => Ab1 h) (fun r3 h => ?_)
  conv => whnf
  refine MsQ.o Lf.bool x3 true (by rfl) rfl ?_
  conv => whnf
  refine Ask.o h fun p4 h => ?_
  conv => whnf
  cases h; exact ⟨rfl, rfl⟩
 conv => whnf
 cases h; exact ⟨rfl, rfl⟩
noncomputable def Ik (r0 : SRelation) : Option (List (ByteArray × Bool)) :=
 (Al (Gg r0) ((0 : Int), Av (ByteArray × Bool))).bind fun q5_3 =>
 some q5_3
theorem Af1 {r0 : SRelation} {v : (List (ByteArray × Bool))} (h : Ik r0 = some v) : Ret Try.prog Px [(Ai false) r0] ((rMp true Lf.bool) v) := by
 refine A8 Agi (Nat.le_of_ble_eq_true rfl) ?_
 unfold Ik at h
 conv => whnf
 refine Cells.lit rfl rfl ?_
 conv => whnf
 refine Len.map ?_
 conv => whnf
 refine LoopQ.o [10, 9, 8, 3] (Ll r0) (R5 r0) h (fun s o h => Abb s o h) (by rfl) (fun _ => rfl) ?_
 rintro q5_3 h
 try dsimp only at h
 conv => whnf
 cases h; exact (by rfl)
end Go.Proofs.Ytcpgnfohmeineaa.Ax
