/-
 What the functions compute, as functions on plain data, and that the program does compute it; written by program.
-/
import Derived.Test.YthagmdhmgailfaaGreatCode
import Derived.Test.YthagmdhmgailfaaGreatG1
import Derived.Test.YthagmdhmgailfaaGreatG2
namespace Go.Proofs.YthagmdhmgailfaaGreat.Ax
open Go
set_option maxRecDepth 100000
set_option maxHeartbeats 4000000
noncomputable def Jd (k0 : Int) : Option SAlgebra :=
 if k0 = (0 : Int) then
 (A7 ({ data := #[(48 : UInt8), (48 : UInt8), (48 : UInt8), (49 : UInt8)] })).bind fun r2 =>
 some ({ Size := (2 : Int), Ops := [r2] })
 else
 if k0 = (1 : Int) then
 (A7 ({ data := #[(48 : UInt8), (48 : UInt8), (48 : UInt8), (49 : UInt8)] })).bind fun r4 =>
 (A7 ({ data := #[(48 : UInt8), (49 : UInt8), (49 : UInt8), (49 : UInt8)] })).bind fun r5 =>
 some ({ Size := (2 : Int), Ops := [r4, r5] })
 else
 if k0 = (2 : Int) then
 (A7 ({ data := #[(48 : UInt8), (48 : UInt8), (48 : UInt8), (49 : UInt8)] })).bind fun r7 =>
 (A7 ({ data := #[(48 : UInt8), (49 : UInt8), (49 : UInt8), (49 : UInt8)] })).bind fun r8 =>
 some ({ Size := (2 : Int), Ops := [r7, r8, { Arity := (1 : Int), Table := [(1 : Int), (0 : Int)] }] })
 else
 if k0 = (3 : Int) then
 (Gu ((2 : Int))).bind fun r10 =>
 some ({ Size := (2 : Int), Ops := [r10] })
 else
 if k0 = (4 : Int) then
 (A7 ({ data := #[(48 : UInt8), (49 : UInt8), (50 : UInt8), (49 : UInt8), (50 : UInt8), (48 : UInt8), (50 : UInt8), (48 : UInt8), (49 : UInt8)] })).bind fun r12 =>
 some ({ Size := (3 : Int), Ops := [r12] })
 else
 if k0 = (5 : Int) then
 (A7 ({ data := #[(48 : UInt8), (49 : UInt8), (48 : UInt8), (49 : UInt8), (49 : UInt8), (50 : UInt8), (48 : UInt8), (50 : UInt8), (50 : UInt8)] })).bind fun r14 =>
 some ({ Size := (3 : Int), Ops := [r14] })
 else
 if k0 = (6 : Int) then
 (A7 ({ data := #[(48 : UInt8), (49 : UInt8), (50 : UInt8), (51 : UInt8), (49 : UInt8), (48 : UInt8), (51 : UInt8), (50 : UInt8), (50 : UInt8), (51 : UInt8), (48 : UInt8), (49 : UInt8), (51 : UInt8), (50 : UInt8), (49 : UInt8), (48 : UInt8)] })).bind fun r16 =>
 some ({ Size := (4 : Int), Ops := [r16] })
 else
 if k0 = (7 : Int) then
 (A7 ({ data := #[(48 : UInt8), (48 : UInt8), (48 : UInt8), (48 : UInt8), (49 : UInt8), (49 : UInt8), (48 : UInt8), (49 : UInt8), (50 : UInt8)] })).bind fun r18 =>
 (A7 ({ data := #[(48 : UInt8), (49 : UInt8), (50 : UInt8), (49 : UInt8), (49 : UInt8), (50 : UInt8), (50 : UInt8), (50 : UInt8), (50 : UInt8)] })).bind fun r19 =>
 some ({ Size := (3 : Int), Ops := [r18, r19] })
 else
 if k0 = (8 : Int) then
 some ({ Size := (4 : Int), Ops := [{ Arity := (1 : Int), Table := [(1 : Int), (2 : Int), (3 : Int), (0 : Int)] }] })
 else
 if k0 = (9 : Int) then
 some ({ Size := (2 : Int), Ops := [{ Arity := (3 : Int), Table := [(0 : Int), (0 : Int), (0 : Int), (1 : Int), (0 : Int), (1 : Int), (1 : Int), (1 : Int)] }] })
 else
 if k0 = (10 : Int) then
 (A7 ({ data := #[(48 : UInt8), (48 : UInt8), (48 : UInt8), (49 : UInt8), (49 : UInt8), (49 : UInt8), (50 : UInt8), (50 : UInt8), (50 : UInt8)] })).bind fun r23 =>
 some ({ Size := (3 : Int), Ops := [r23] })
 else
 if k0 = (11 : Int) then
 (A7 ({ data := #[(48 : UInt8), (48 : UInt8), (48 : UInt8), (48 : UInt8), (48 : UInt8), (48 : UInt8), (49 : UInt8), (48 : UInt8), (48 : UInt8), (49 : UInt8), (48 : UInt8), (48 : UInt8), (50 : UInt8), (48 : UInt8), (50 : UInt8), (48 : UInt8), (48 : UInt8), (48 : UInt8), (51 : UInt8), (51 : UInt8), (48 : UInt8), (49 : UInt8), (50 : UInt8), (51 : UInt8), (52 : UInt8)] })).bind fun r25 =>
 (A7 ({ data := #[(48 : UInt8), (49 : UInt8), (50 : UInt8), (51 : UInt8), (52 : UInt8), (49 : UInt8), (49 : UInt8), (52 : UInt8), (52 : UInt8), (52 : UInt8), (50 : UInt8), (52 : UInt8), (50 : UInt8), (52 : UInt8), (52 : UInt8), (51 : UInt8), (52 : UInt8), (52 : UInt8), (51 : UInt8), (52 : UInt8), (52 : UInt8), (52 : UInt8), (52 : UInt8), (52 : UInt8), (52 : UInt8)] })).bind fun r26 =>
 some ({ Size := (5 : Int), Ops := [r25, r26] })
 else
 if k0 = (12 : Int) then
 (A7 ({ data := #[(48 : UInt8), (49 : UInt8), (50 : UInt8), (51 : UInt8), (49 : UInt8), (50 : UInt8), (51 : UInt8), (48 : UInt8), (50 : UInt8), (51 : UInt8), (48 : UInt8), (49 : UInt8), (51 : UInt8), (48 : UInt8), (49 : UInt8), (50 : UInt8)] })).bind fun r28 =>
 some ({ Size := (4 : Int), Ops := [r28] })
 else
 if k0 = (13 : Int) then
 some ({ Size := (3 : Int), Ops := [{ Arity := (1 : Int), Table := [(0 : Int), (0 : Int), (1 : Int)] }, { Arity := (0 : Int), Table := [(2 : Int)] }] })
 else
 if k0 = (14 : Int) then
 (A7 ({ data := #[(48 : UInt8)] })).bind fun r31 =>
 some ({ Size := (1 : Int), Ops := [r31] })
 else
 if k0 = (15 : Int) then
 (Gu ((3 : Int))).bind fun r33 =>
 some ({ Size := (3 : Int), Ops := [r33] })
 else
 some ({ Size := (2 : Int), Ops := Aq SOp })
theorem Ajm {k0 : Int} {v : SAlgebra} (h : Jd k0 = some v) : Ret Tryz.prog Rk [Af k0] ((Ag true) v) := by
 refine Ay Ais (Nat.le_of_ble_eq_true rfl) ?_
 unfold Jd at h
 refine Br.oe h (fun p1 h => ?_) (fun p1 h => ?_)
 ·refine CallQ.o (Bd true) (by rfl) h (fun r h => Bl h) (fun r2 h => ?_)
  refine BslQ.o (Bd true) [r2] (by exact fun _ => ⟨rfl, rfl⟩) (by rfl) <| SetKids.lit rfl ?_
  cases h; exact (by rfl)
 refine Br.oe h (fun p3 h => ?_) (fun p3 h => ?_)
 ·refine CallQ.o (Bd true) (by rfl) h (fun r h => Bl h) (fun r4 h => ?_)
  refine CallQ.o (Bd true) (by rfl) h (fun r h => Bl h) (fun r5 h => ?_)
  refine BslQ.o (Bd true) ([r4, r5]) (by exact fun _ => ⟨rfl, rfl⟩) (by rfl) <| SetKids.lit rfl ?_
  cases h; exact (by rfl)
 refine Br.oe h (fun p6 h => ?_) (fun p6 h => ?_)
 ·refine CallQ.o (Bd true) (by rfl) h (fun r h => Bl h) (fun r7 h => ?_)
  refine CallQ.o (Bd true) (by rfl) h (fun r h => Bl h) (fun r8 h => ?_)
  refine BslQ.o Af ([(1 : Int), (0 : Int)]) (by exact fun _ => ⟨rfl, rfl⟩) (by rfl) <| BslQ.o (Bd true) ([r7, r8, { Arity := (1 : Int), Table := [(1 : Int), (0 : Int)] }]) (by exact fun _ => ⟨rfl, rfl⟩) (by rfl) <| SetKids.lit rfl ?_
  cases h; exact (by rfl)
 refine Br.oe h (fun p9 h => ?_) (fun p9 h => ?_)
 ·refine CallQ.o (Bd true) (by rfl) h (fun r h => Xj h) (fun r10 h => ?_)
  refine BslQ.o (Bd true) [r10] (by exact fun _ => ⟨rfl, rfl⟩) (by rfl) <| SetKids.lit rfl ?_
  cases h; exact (by rfl)
 refine Br.oe h (fun p11 h => ?_) (fun p11 h => ?_)
 ·refine CallQ.o (Bd true) (by rfl) h (fun r h => Bl h) (fun r12 h => ?_)
  refine BslQ.o (Bd true) [r12] (by exact fun _ => ⟨rfl, rfl⟩) (by rfl) <| SetKids.lit rfl ?_
  cases h; exact (by rfl)
 refine Br.oe h (fun p13 h => ?_) (fun p13 h => ?_)
 ·refine CallQ.o (Bd true) (by rfl) h (fun r h => Bl h) (fun r14 h => ?_)
  refine BslQ.o (Bd true) [r14] (by exact fun _ => ⟨rfl, rfl⟩) (by rfl) <| SetKids.lit rfl ?_
  cases h; exact (by rfl)
 refine Br.oe h (fun p15 h => ?_) (fun p15 h => ?_)
 ·refine CallQ.o (Bd true) (by rfl) h (fun r h => Bl h) (fun r16 h => ?_)
  refine BslQ.o (Bd true) [r16] (by exact fun _ => ⟨rfl, rfl⟩) (by rfl) <| SetKids.lit rfl ?_
  cases h; exact (by rfl)
 refine Br.oe h (fun p17 h => ?_) (fun p17 h => ?_)
 ·refine CallQ.o (Bd true) (by rfl) h (fun r h => Bl h) (fun r18 h => ?_)
  refine CallQ.o (Bd true) (by rfl) h (fun r h => Bl h) (fun r19 h => ?_)
  refine BslQ.o (Bd true) ([r18, r19]) (by exact fun _ => ⟨rfl, rfl⟩) (by rfl) <| SetKids.lit rfl ?_
  cases h; exact (by rfl)
 refine Br.oe h (fun p20 h => ?_) (fun p20 h => ?_)
 ·refine BslQ.o Af ([(1 : Int), (2 : Int), (3 : Int), (0 : Int)]) (by exact fun _ => ⟨rfl, rfl⟩) (by rfl) <| BslQ.o (Bd true) ([{ Arity := (1 : Int), Table := [(1 : Int), (2 : Int), (3 : Int), (0 : Int)] }]) (by exact fun _ => ⟨rfl, rfl⟩) (by rfl) <| SetKids.lit rfl ?_
  cases h; exact (by rfl)
 refine Br.oe h (fun p21 h => ?_) (fun p21 h => ?_)
 ·refine BslQ.o Af ([(0 : Int), (0 : Int), (0 : Int), (1 : Int), (0 : Int), (1 : Int), (1 : Int), (1 : Int)]) (by exact fun _ => ⟨rfl, rfl⟩) (by rfl) <| BslQ.o (Bd true) ([{ Arity := (3 : Int), Table := [(0 : Int), (0 : Int), (0 : Int), (1 : Int), (0 : Int), (1 : Int), (1 : Int), (1 : Int)] }]) (by exact fun _ => ⟨rfl, rfl⟩) (by rfl) <| SetKids.lit rfl ?_
  cases h; exact (by rfl)
 refine Br.oe h (fun p22 h => ?_) (fun p22 h => ?_)
 ·refine CallQ.o (Bd true) (by rfl) h (fun r h => Bl h) (fun r23 h => ?_)
  refine BslQ.o (Bd true) [r23] (by exact fun _ => ⟨rfl, rfl⟩) (by rfl) <| SetKids.lit rfl ?_
  cases h; exact (by rfl)
 refine Br.oe h (fun p24 h => ?_) (fun p24 h => ?_)
 ·refine CallQ.o (Bd true) (by rfl) h (fun r h => Bl h) (fun r25 h => ?_)
  refine CallQ.o (Bd true) (by rfl) h (fun r h => Bl h) (fun r26 h => ?_)
  refine BslQ.o (Bd true) ([r25, r26]) (by exact fun _ => ⟨rfl, rfl⟩) (by rfl) <| SetKids.lit rfl ?_
  cases h; exact (by rfl)
 refine Br.oe h (fun p27 h => ?_) (fun p27 h => ?_)
 ·refine CallQ.o (Bd true) (by rfl) h (fun r h => Bl h) (fun r28 h => ?_)
  refine BslQ.o (Bd true) [r28] (by exact fun _ => ⟨rfl, rfl⟩) (by rfl) <| SetKids.lit rfl ?_
  cases h; exact (by rfl)
 refine Br.oe h (fun p29 h => ?_) (fun p29 h => ?_)
 ·refine BslQ.o Af ([(0 : Int), (0 : Int), (1 : Int)]) (by exact fun _ => ⟨rfl, rfl⟩) (by rfl) <| BslQ.o Af ([(2 : Int)]) (by exact fun _ => ⟨rfl, rfl⟩) (by rfl) <| BslQ.o (Bd true) ([{ Arity := (1 : Int), Table := [(0 : Int), (0 : Int), (1 : Int)] }, { Arity := (0 : Int), Table := [(2 : Int)] }]) (by exact fun _ => ⟨rfl, rfl⟩) (by rfl) <| SetKids.lit rfl ?_
  cases h; exact (by rfl)
 refine Br.oe h (fun p30 h => ?_) (fun p30 h => ?_)
 ·refine CallQ.o (Bd true) (by rfl) h (fun r h => Bl h) (fun r31 h => ?_)
  refine BslQ.o (Bd true) [r31] (by exact fun _ => ⟨rfl, rfl⟩) (by rfl) <| SetKids.lit rfl ?_
  cases h; exact (by rfl)
 refine Br.oe h (fun p32 h => ?_) (fun p32 h => ?_)
 ·refine CallQ.o (Bd true) (by rfl) h (fun r h => Xj h) (fun r33 h => ?_)
  refine BslQ.o (Bd true) [r33] (by exact fun _ => ⟨rfl, rfl⟩) (by rfl) <| SetKids.lit rfl ?_
  cases h; exact (by rfl)
 refine SetKids.lit rfl ?_
 cases h; exact (by rfl)
noncomputable def Ow (f0 : SOp) (n0 : Int) : Option Bool :=
 if f0.Arity ≥ (0 : Int) then
 if f0.Arity ≤ (3 : Int) then
 (Jx (n0) (f0.Arity)).bind fun r3 =>
 if (↑f0.Table.length : Int) = r3 then
 (Hb (f0.Table) (n0)).bind fun r5 =>
 some r5
 else
 some false
 else
 some false
 else
 some false
theorem Apx {f0 : SOp} {n0 : Int} {v : Bool} (h : Ow f0 n0 = some v) : Ret Tryz.prog Ze [(Bd false) f0, Af n0] (V.bool v) := by
 refine Ay Asj (Nat.le_of_ble_eq_true rfl) ?_
 unfold Ow at h
 refine Cells.lit rfl rfl <| Br.od h (fun p1 h => ?_) (fun p1 h => ?_)
 ·refine Br.yes <| Cells.lit rfl rfl <| Br.yes <| Br.yes <| Br.od h (fun p2 h => ?_) (fun p2 h => ?_)
  ·refine Br.yes <| Cells.lit rfl rfl <| Br.yes <| Len.map <| Br.yes <| Br.yes <| Br.yes <| Cells.lit rfl rfl <| Br.yes <| CallP.o Af (by rfl) h (fun r h => An7 h) (fun r3 h => ?_)
   refine Br.yes <| Br.yes <| Br.oe h (fun p4 h => ?_) (fun p4 h => ?_)
   ·refine Br.yes <| Cells.lit rfl rfl <| Br.yes <| Br.yes <| CallQ.o V.bool (by rfl) h (fun r h => Tv h) (fun r5 h => ?_)
    refine Br.yes ?_
    cases h; exact (by rfl)
   refine Br.no <| Br.no <| Br.no <| Br.no ?_
   cases h; exact (by rfl)
  refine Br.no <| Br.no <| Br.no <| Br.no <| Br.no <| Br.no <| Br.no <| Br.no <| Br.no <| Br.no <| Br.no <| Br.no <| Br.no ?_
  cases h; exact (by rfl)
 refine Br.no <| Br.no <| Br.no <| Br.no <| Br.no <| Br.no <| Br.no <| Br.no <| Br.no <| Br.no <| Br.no <| Br.no <| Br.no <| Br.no <| Br.no <| Br.no <| Br.no ?_
 cases h; exact (by rfl)
noncomputable def F6 (n0 : Int) (op0 : SOp) : Int → Option (Int ⊕ (Unit ⊕ Unit)) := fun x5 =>
 if x5 < (↑op0.Table.length : Int) then
 ask ((0 : Int) ≤ x5 ∧ x5 < (↑op0.Table.length : Int)) <|
 ask (InI (n0 - (1 : Int))) <|
 (Ee (nth op0.Table x5.toNat) ((0 : Int)) (n0 - (1 : Int))).bind fun r9 =>
 if (r9) = true then
 ask (InI (x5 + (1 : Int))) <|
 some (.inl (x5 + (1 : Int)))
 else
 some (.inr (.inl ()))
 else
 some (.inr (.inr ()))
def Qy (n0 : Int) (op0 : SOp) : Int → St := fun s => [(5, A.val (Af s)), (3, A.val ((rP true (Bd false)) (op0))), (0, A.val (Af (n0)))]
def Yd (_n0 : Int) (_op0 : SOp) : (Unit ⊕ Unit) → Tgt
 | (.inl _s) => (Ex.ret, [4], [(4, A.val (V.bool (false)))])
 | (.inr _s) => ((Ex.exit 0), [], [])
theorem Ajf {n0 : Int} {op0 : SOp} (x5 : Int) (o : Int ⊕ (Unit ⊕ Unit)) (h : F6 n0 op0 x5 = some o) : vc Tryz.prog Y4 (Da [5, 3, 0] (Qy n0 op0) (Yd n0 op0) o) (Qy n0 op0 x5) := by
 unfold F6 at h
 try dsimp only at h
 refine Cells.lit rfl rfl <| Len.map <| Br.od h (fun p6 h => ?_) (fun p6 h => ?_)
 ·refine Cells.lit rfl rfl <| Len.map <| Ask.o h fun p7 h => Elem.o (by first | omega | (simp [Ar] at * <;> omega)) <| Ask.o h fun p8 h => CallQ.o V.bool (by rfl) h (fun r h => Lx h) (fun r9 h => ?_)
  refine Br.flip <| Br.ob h (fun p10 h => ?_) (fun p10 h => ?_)
  ·refine Ask.o h fun p11 h => ?_
   cases h; exact ⟨rfl, rfl⟩
  cases h; exact ⟨rfl, rfl⟩
 cases h; exact ⟨rfl, rfl⟩
noncomputable def Ou (n0 : Int) (op0 : SOp) : Option Bool :=
 (((Ee (op0.Arity) ((0 : Int)) ((3 : Int))).bind fun r1 =>
 if (r1) = true then
 (Ie (n0) (op0.Arity)).bind fun r3 =>
 if (↑op0.Table.length : Int) ≠ r3 then
 some (.inl ())
 else
 some (.inr ())
 else
 some (.inl ()) : Option (Unit ⊕ Unit))).bind fun t => match t with
 | (.inl _) => (some false)
 | (.inr _) => ((Al (F6 n0 op0) (0 : Int)).bind fun t => match t with
 | (.inl _) => (some false)
 | (.inr _) => (some true))
theorem Aqd {n0 : Int} {op0 : SOp} {v : Bool} (h : Ou n0 op0 = some v) : Ret Tryz.prog Yf [Af n0, (Bd false) op0] (V.bool v) := by
 refine Ay Aqt (Nat.le_of_ble_eq_true rfl) ?_
 unfold Ou at h
 refine CutQ.o (fun t : (Unit ⊕ Unit) => match t with | (.inl s) => (Ex.ret, [4], [(4, A.val (V.bool (false)))]) | (.inr s) => (Ex.normal, [3, 0], [(3, A.val ((rP true (Bd false)) (op0))), (0, A.val (Af (n0)))])) h ?_ ?_
 ·intro t h
  refine Cells.lit rfl rfl <| CallP.o V.bool (by rfl) h (fun r h => Lx h) (fun r1 h => ?_)
  refine Br.flip <| Br.ob h (fun p2 h => ?_) (fun p2 h => ?_)
  ·refine Br.no <| Cells.lit rfl rfl <| Br.no <| Len.map <| Br.no <| Br.no <| Br.no <| Cells.lit rfl rfl <| Br.no <| CallP.o Af (by rfl) h (fun r h => Aer h) (fun r3 h => ?_)
   refine Br.no <| Br.no <| Br.on h (fun p4 h => ?_) (fun p4 h => ?_)
   ·cases h; exact ⟨rfl, rfl⟩
   cases h; exact ⟨rfl, rfl⟩
  refine Br.yes <| Br.yes <| Br.yes <| Br.yes <| Br.yes <| Br.yes <| Br.yes <| Br.yes <| Br.yes ?_
  cases h; exact ⟨rfl, rfl⟩
 rintro (⟨⟩ | ⟨⟩) h
 ·try dsimp only at h
  cases h; exact (by rfl)
 try dsimp only at h
 refine LoopQ.o [5, 3, 0] (Qy n0 op0) (Yd n0 op0) h (fun s o h => Ajf s o h) (by rfl) (by rintro (_ | _) <;> rfl) ?_
 rintro (⟨⟩ | ⟨⟩) h
 ·try dsimp only at h
  cases h; exact (by rfl)
 try dsimp only at h
 cases h; exact (by rfl)
noncomputable def Bt (p0 : (List Int)) (q0 : (List Int)) : Option Int :=
 (Fc (q0)).bind fun r1 =>
 (Fc (p0)).bind fun r2 =>
 ask (InI (r1 - r2)) <|
 if r1 - r2 ≠ (0 : Int) then
 some (r1 - r2)
 else
 (Fs (p0) (q0)).bind fun r5 =>
 some r5
theorem Si {p0 : (List Int)} {q0 : (List Int)} {v : Int} (h : Bt p0 q0 = some v) : Ret Tryz.prog Ei [(slr false 1 Af) p0, (slr false 1 Af) q0] (Af v) := by
 refine Ay Sj (Nat.le_of_ble_eq_true rfl) ?_
 unfold Bt at h
 refine CallQ.o Af (by rfl) h (fun r h => Su h) (fun r1 h => ?_)
 refine CallQ.o Af (by rfl) h (fun r h => Su h) (fun r2 h => ?_)
 refine Ask.o h fun p3 h => Br.on h (fun p4 h => ?_) (fun p4 h => ?_)
 ·cases h; exact (by rfl)
 refine CallQ.o Af (by rfl) h (fun r h => Aag h) (fun r5 h => ?_)
 cases h; exact (by rfl)
end Go.Proofs.YthagmdhmgailfaaGreat.Ax
