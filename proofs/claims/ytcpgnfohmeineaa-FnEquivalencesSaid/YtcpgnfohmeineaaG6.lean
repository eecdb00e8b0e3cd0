/-
 What the functions compute, as functions on plain data, and that the program does compute it; written by program.
-/
import Derived.Test.YtcpgnfohmeineaaCode
import Derived.Test.YtcpgnfohmeineaaG1
import Derived.Test.YtcpgnfohmeineaaG2
import Derived.Test.YtcpgnfohmeineaaG3
import Derived.Test.YtcpgnfohmeineaaG4
namespace Go.Proofs.Ytcpgnfohmeineaa.Ax
open Go
set_option maxRecDepth 100000
set_option maxHeartbeats 4000000
noncomputable def C2 (n0 : Int) (p0 : (List Int)) : Option (SRelation × Bool) :=
 (Dx (n0)).bind fun r1 =>
 if (r1) = true then
 (F8 (n0) (p0)).bind fun r3 =>
 if (r3) = true then
 (Bo (p0)).bind fun r5 =>
 some (r5, true)
 else
 some ({ Arity := (0 : Int), Tuples := Av (List Int) }, false)
 else
 some ({ Arity := (0 : Int), Tuples := Av (List Int) }, false)
theorem Ra {n0 : Int} {p0 : (List Int)} {v : (SRelation × Bool)} (h : C2 n0 p0 = some v) : Ret Try.prog Gh [Af n0, (slr false 1 Af) p0] ((fun r => V.tup [(Am) r.1, V.bool r.2]) v) := by
 refine A8 Re (Nat.le_of_ble_eq_true rfl) ?_
 unfold C2 at h
 conv => whnf
 refine CallQ.o V.bool (by rfl) h (fun r h => Ou h) (fun r1 h => ?_)
 conv => whnf
 refine Br.flip ?_
 conv => whnf
 refine Br.ob h (fun p2 h => ?_) (fun p2 h => ?_)
 ·conv => whnf
  refine Br.no ?_
  conv => whnf
  refine Br.no ?_
  conv => whnf
  refine CallQ.o V.bool (by rfl) h (fun r h => Abo h) (fun r3 h => ?_)
  conv => whnf
  refine Br.no ?_
  conv => whnf
  refine Br.no ?_
  conv => whnf
  refine Br.flip ?_
  conv => whnf
  refine Br.ob h (fun p4 h => ?_) (fun p4 h => ?_)
  ·conv => whnf
   refine CallQ.o (Am) (by rfl) h (fun r h => Iz h) (fun r5 h => ?_)
   conv => whnf
   refine SetKids.lit rfl ?_
   conv => whnf
   cases h; exact (by rfl)
  conv => whnf
  refine SetKids.lit rfl ?_
  conv => whnf
  cases h; exact (by rfl)
 conv => whnf
 refine Br.yes ?_
 conv => whnf
 refine Br.yes ?_
 conv => whnf
 refine Br.yes ?_
 conv => whnf
 refine Br.yes ?_
 conv => whnf
 refine Br.yes ?_
 conv => whnf
 refine SetKids.lit rfl ?_
 conv => whnf
 cases h; exact (by rfl)
noncomputable def F0 (r0 : SRelation) (s0 : SRelation) : Option Bool :=
 if r0.Arity = s0.Arity then
 (Kw (r0.Tuples) (s0.Tuples)).bind fun r2 =>
 some r2
 else
 some false
theorem Uu {r0 : SRelation} {s0 : SRelation} {v : Bool} (h : F0 r0 s0 = some v) : Ret Try.prog J9 [(Ai false) r0, (Ai false) s0] (V.bool v) := by
 refine A8 Aez (Nat.le_of_ble_eq_true rfl) ?_
 unfold F0 at h
 conv => whnf
 refine Cells.lit rfl rfl ?_
 conv => whnf
 refine Cells.lit rfl rfl ?_
 conv => whnf
 refine Br.oe h (fun p1 h => ?_) (fun p1 h => ?_)
 ·conv => whnf
  refine Br.yes ?_
  conv => whnf
  refine Cells.lit rfl rfl ?_
  conv => whnf
  refine Br.yes ?_
  conv => whnf
  refine Br.yes ?_
  conv => whnf
  refine Cells.lit rfl rfl ?_
  conv => whnf
  refine Br.yes ?_
  conv => whnf
  refine CallQ.o V.bool (by rfl) h (fun r h => Akg h) (fun r2 h => ?_)
  conv => whnf
  refine Br.yes ?_
  conv => whnf
  cases h; exact (by rfl)
 conv => whnf
 refine Br.no ?_
 conv => whnf
 refine Br.no ?_
 conv => whnf
 refine Br.no ?_
 conv => whnf
 refine Br.no ?_
 conv => whnf
 refine Br.no ?_
 conv => whnf
 cases h; exact (by rfl)
noncomputable def Em (a0 : SAlgebra) : Int → Option (Int ⊕ (Unit ⊕ Unit)) := fun x3 =>
 if x3 < (↑a0.Ops.length : Int) then
 ask ((0 : Int) ≤ x3 ∧ x3 < (↑a0.Ops.length : Int)) <|
 (Pl (a0.Size) (nth a0.Ops x3.toNat)).bind fun r7 =>
 if (r7) = true then
 ask (InI (x3 + (1 : Int))) <|
 some (.inl (x3 + (1 : Int)))
 else
 some (.inr (.inl ()))
 else
 some (.inr (.inr ()))
def Nz (a0 : SAlgebra) : Int → St := fun s => [(3, A.val (Af s)), (1, A.val ((rP true (Ak false)) (a0)))]
def Up (_a0 : SAlgebra) : (Unit ⊕ Unit) → Tgt
 | (.inl _s) => (Ex.ret, [2], [(2, A.val (V.bool (false)))])
 | (.inr _s) => ((Ex.exit 0), [], [])
theorem Adr {a0 : SAlgebra} (x3 : Int) (o : Int ⊕ (Unit ⊕ Unit)) (h : Em a0 x3 = some o) : vc Try.prog Vv (Cu [3, 1] (Nz a0) (Up a0) o) (Nz a0 x3) := by
 unfold Em at h
 try dsimp only at h
 conv => whnf
 refine Cells.lit rfl rfl ?_
 conv => whnf
 refine Len.map ?_
 conv => whnf
 refine Br.od h (fun p5 h => ?_) (fun p5 h => ?_)
 ·conv => whnf
  refine Cells.lit rfl rfl ?_
  conv => whnf
  refine Cells.lit rfl rfl ?_
  conv => whnf
  refine Len.map ?_
  conv => whnf
  refine Ask.o h fun p6 h => ?_
  conv => whnf
  refine Elem.o (by first | omega | (simp [Ap] at *; omega)) ?_
  conv => whnf
  refine CallQ.o V.bool (by rfl) h (fun r h => Aoz h) (fun r7 h => ?_)
  conv => whnf
  refine Br.flip ?_
  conv => whnf
  refine Br.ob h (fun p8 h => ?_) (fun p8 h => ?_)
  ·conv => whnf
   refine Ask.o h fun p9 h => ?_
   conv => whnf
   cases h; exact ⟨rfl, rfl⟩
  conv => whnf
  cases h; exact ⟨rfl, rfl⟩
 conv => whnf
 cases h; exact ⟨rfl, rfl⟩
noncomputable def K9 (a0 : SAlgebra) : Option Bool :=
 (((D8 (a0.Size) ((1 : Int)) ((8 : Int))).bind fun r1 =>
 if (r1) = true then
 if (↑a0.Ops.length : Int) > (4 : Int) then
 some (.inl ())
 else
 some (.inr ())
 else
 some (.inl ()) : Option (Unit ⊕ Unit))).bind fun t => match t with
 | (.inl _) => (some false)
 | (.inr _) => ((Al (Em a0) (0 : Int)).bind fun t => match t with
 | (.inl _) => (some false)
 | (.inr _) => (some true))
theorem Aj0 {a0 : SAlgebra} {v : Bool} (h : K9 a0 = some v) : Ret Try.prog Ud [(Ak false) a0] (V.bool v) := by
 refine A8 Ald (Nat.le_of_ble_eq_true rfl) ?_
 unfold K9 at h
 conv => whnf
 refine CutQ.o (fun t : (Unit ⊕ Unit) => match t with | (.inl s) => (Ex.ret, [2], [(2, A.val (V.bool (false)))]) | (.inr s) => (Ex.normal, [1], [(1, A.val ((rP true (Ak false)) (a0)))])) h ?_ ?_
 ·intro t h
  conv => whnf
  refine Cells.lit rfl rfl ?_
  conv => whnf
  refine CallQ.o V.bool (by rfl) h (fun r h => Ic h) (fun r1 h => ?_)
  conv => whnf
  refine Br.flip ?_
  conv => whnf
  refine Br.ob h (fun p2 h => ?_) (fun p2 h => ?_)
  ·conv => whnf
   refine Br.no ?_
   conv => whnf
   refine Cells.lit rfl rfl ?_
   conv => whnf
   refine Br.no ?_
   conv => whnf
   refine Len.map ?_
   conv => whnf
   refine Br.no ?_
   conv => whnf
   refine Br.no ?_
   conv => whnf
   refine Br.od h (fun p3 h => ?_) (fun p3 h => ?_)
   ·conv => whnf
    cases h; exact ⟨rfl, rfl⟩
   conv => whnf
   cases h; exact ⟨rfl, rfl⟩
  conv => whnf
  refine Br.yes ?_
  conv => whnf
  refine Br.yes ?_
  conv => whnf
  refine Br.yes ?_
  conv => whnf
  refine Br.yes ?_
  conv => whnf
  refine Br.yes ?_
  conv => whnf
  cases h; exact ⟨rfl, rfl⟩
 rintro (⟨⟩ | ⟨⟩) h
 ·try dsimp only at h
  conv => whnf
  cases h; exact (by rfl)
 try dsimp only at h
 conv => whnf
 refine LoopQ.o [3, 1] (Nz a0) (Up a0) h (fun s o h => Adr s o h) (by rfl) (by rintro (_ | _) <;> rfl) ?_
 rintro (⟨⟩ | ⟨⟩) h
 ·try dsimp only at h
  conv => whnf
  cases h; exact (by rfl)
 try dsimp only at h
 conv => whnf
 cases h; exact (by rfl)
noncomputable def Bm (c0 : Sl1Cur) (n0 : Int) : Option (Bool × Sl1Cur) :=
 (Ar (c0) (n0)).bind fun (r1, u2) =>
 some (r1 == (0 : Int), u2)
theorem Eo {c0 : Sl1Cur} {n0 : Int} {v : (Bool × Sl1Cur)} (h : Bm c0 n0 = some v) : Qs Try.prog C6 [(rP true (Aj false)) c0, Af n0] (V.bool v.1) 0 ((rP true (Aj false)) v.2) := by
 refine Lh Aes (Nat.le_of_ble_eq_true rfl) ?_
 unfold Bm at h
 conv => whnf
 refine CallQ.io Af (rP true (Aj false)) (by rfl) rfl (fun _ => rfl) (fun _ => ⟨rfl, rfl⟩) rfl h (fun r h => Aw h) (fun r1 u2 h => ?_)
 conv => whnf
 cases h; exact ⟨(by rfl), (by rfl)⟩
noncomputable def A1 (c0 : Sl1Cur) (list0 : (List Int)) : Option (Int × Sl1Cur) :=
 (Ar (c0) ((↑list0.length : Int))).bind fun (r1, u2) =>
 ask ((0 : Int) ≤ r1 ∧ r1 < (↑list0.length : Int)) <|
 some (nth list0 r1.toNat, u2)
theorem Ba {c0 : Sl1Cur} {list0 : (List Int)} {v : (Int × Sl1Cur)} (h : A1 c0 list0 = some v) : Qs Try.prog A2 [(rP true (Aj false)) c0, (slr false 1 Af) list0] (Af v.1) 0 ((rP true (Aj false)) v.2) := by
 refine Lh Aa0 (Nat.le_of_ble_eq_true rfl) ?_
 unfold A1 at h
 conv => whnf
 refine Len.map ?_
 conv => whnf
 refine CallQ.io Af (rP true (Aj false)) (by rfl) rfl (fun _ => rfl) (fun _ => ⟨rfl, rfl⟩) rfl h (fun r h => Aw h) (fun r1 u2 h => ?_)
 conv => whnf
 refine Len.map ?_
 conv => whnf
 refine Ask.o h fun p3 h => ?_
 conv => whnf
 refine Elem.o (by first | omega | (simp [Ap] at *; omega)) ?_
 conv => whnf
 cases h; exact ⟨(by rfl), (by rfl)⟩
noncomputable def Cz (_n0 : Int) (_op0 : SOp) (r0 : SRelation) (_r1 : List (ByteArray × Bool)) (_x13 : Int) (_x12 : List Int) : (Int × Int × (List Int)) → Option ((Int × Int × (List Int)) ⊕ (List Int)) := fun (x15, x14, x11') =>
 if x15 ≥ (0 : Int) then
 ask ((↑r0.Tuples.length : Int) ≠ (0 : Int)) <|
 ask ((0 : Int) ≤ x15 ∧ x15 < (↑x11'.length : Int)) <|
 ask ((↑r0.Tuples.length : Int) ≠ (0 : Int) ∧ InI (x14.tdiv (↑r0.Tuples.length : Int))) <|
 ask (InI (x15 - (1 : Int))) <|
 some (.inl (x15 - (1 : Int), x14.tdiv (↑r0.Tuples.length : Int), x11'.set x15.toNat (x14.tmod (↑r0.Tuples.length : Int))))
 else
 some (.inr x11')
def I9 (n0 : Int) (op0 : SOp) (r0 : SRelation) (r1 : List (ByteArray × Bool)) (x13 : Int) (x12 : List Int) : (Int × Int × (List Int)) → St := fun s => [(15, A.val (Af s.1)), (14, A.val (Af s.2.1)), (13, A.val (Af (x13))), (12, A.val ((slr true 1 Af) (x12))), (11, A.val ((slr true 1 Af) s.2.2)), (10, A.val (Af ((↑r0.Tuples.length : Int)))), (9, A.val ((rMp true Lf.bool) (r1))), (5, A.val ((rP true (Ai false)) (r0))), (4, A.val ((rP true (A7 false)) (op0))), (0, A.val (Af (n0)))]
def Pp (n0 : Int) (op0 : SOp) (r0 : SRelation) (r1 : List (ByteArray × Bool)) (x13 : Int) (x12 : List Int) : (List Int) → Tgt
 | s => ((Ex.exit 2), [13, 12, 11, 10, 9, 5, 4, 0], [(13, A.val (Af (x13))), (12, A.val ((slr true 1 Af) (x12))), (11, A.val ((slr true 1 Af) s)), (10, A.val (Af ((↑r0.Tuples.length : Int)))), (9, A.val ((rMp true Lf.bool) (r1))), (5, A.val ((rP true (Ai false)) (r0))), (4, A.val ((rP true (A7 false)) (op0))), (0, A.val (Af (n0)))])
theorem Ze {n0 : Int} {op0 : SOp} {r0 : SRelation} {r1 : List (ByteArray × Bool)} {x13 : Int} {x12 : List Int} (s : (Int × Int × (List Int))) (o : (Int × Int × (List Int)) ⊕ (List Int)) (h : Cz n0 op0 r0 r1 x13 x12 s = some o) : vc Try.prog Ph (Cu [15, 14, 13, 12, 11, 10, 9, 5, 4, 0] (I9 n0 op0 r0 r1 x13 x12) (Pp n0 op0 r0 r1 x13 x12) o) (I9 n0 op0 r0 r1 x13 x12 s) := by
 obtain ⟨x15, x14, x11'⟩ := s
 unfold Cz at h
 try dsimp only at h
 conv => whnf
 refine Br.od h (fun p7 h => ?_) (fun p7 h => ?_)
 ·conv => whnf
  refine Ask.o h fun p8 h => ?_
  conv => whnf
  refine Len.map ?_
  conv => whnf
  refine Ask.o h fun p9 h => ?_
  conv => whnf
  refine SetKids.one (fun _ => ⟨rfl, rfl⟩) (x14.tmod (↑r0.Tuples.length : Int)) (by rfl) (by first | omega | (simp [Ap] at *; omega)) ?_
  conv => whnf
  refine Ask.o h fun p10 h => ?_
  conv => whnf
  refine Ask.o h fun p11 h => ?_
  conv => whnf
  cases h; exact ⟨rfl, rfl⟩
 conv => whnf
 cases h; exact ⟨rfl, rfl⟩
noncomputable def Dr (n0 : Int) (_op0 : SOp) (r0 : SRelation) (_r1 : List (ByteArray × Bool)) (_x13 : Int) (_x12 : List Int) (q12_11 : List Int) (x58 : Int) (_x12' : List Int) : (Int × Int) → Option ((Int × Int) ⊕ Int) := fun (x63, x17) =>
 if x63 < (↑q12_11.length : Int) then
 ask ((0 : Int) ≤ x63 ∧ x63 < (↑q12_11.length : Int)) <|
 ask (InI (x17 * n0)) <|
 ask ((0 : Int) ≤ nth q12_11 x63.toNat ∧ nth q12_11 x63.toNat < (↑r0.Tuples.length : Int)) <|
 ask ((0 : Int) ≤ x58 ∧ x58 < (↑(nth r0.Tuples (nth q12_11 x63.toNat).toNat).length : Int)) <|
 ask (InI (x17 * n0 + nth (nth r0.Tuples (nth q12_11 x63.toNat).toNat) x58.toNat)) <|
 ask (InI (x63 + (1 : Int))) <|
 some (.inl (x63 + (1 : Int), x17 * n0 + nth (nth r0.Tuples (nth q12_11 x63.toNat).toNat) x58.toNat))
 else
 some (.inr x17)
def Jw (n0 : Int) (op0 : SOp) (r0 : SRelation) (r1 : List (ByteArray × Bool)) (x13 : Int) (x12 : List Int) (q12_11 : List Int) (x58 : Int) (x12' : List Int) : (Int × Int) → St := fun s => [(63, A.val (Af s.1)), (62, A.val (Af ((↑q12_11.length : Int)))), (61, A.ref 11 []), (17, A.val (Af s.2)), (16, A.val (Af (x58))), (58, A.val (Af (x58))), (57, A.val (Af ((↑x12.length : Int)))), (13, A.val (Af (x13))), (12, A.val ((slr true 1 Af) (x12'))), (11, A.val ((slr true 1 Af) (q12_11))), (10, A.val (Af ((↑r0.Tuples.length : Int)))), (9, A.val ((rMp true Lf.bool) (r1))), (5, A.val ((rP true (Ai false)) (r0))), (4, A.val ((rP true (A7 false)) (op0))), (0, A.val (Af (n0)))]
def O7 (n0 : Int) (op0 : SOp) (r0 : SRelation) (r1 : List (ByteArray × Bool)) (x13 : Int) (x12 : List Int) (q12_11 : List Int) (x58 : Int) (x12' : List Int) : Int → Tgt
 | s => ((Ex.exit 6), [17, 16, 58, 57, 13, 12, 11, 10, 9, 5, 4, 0], [(17, A.val (Af s)), (16, A.val (Af (x58))), (58, A.val (Af (x58))), (57, A.val (Af ((↑x12.length : Int)))), (13, A.val (Af (x13))), (12, A.val ((slr true 1 Af) (x12'))), (11, A.val ((slr true 1 Af) (q12_11))), (10, A.val (Af ((↑r0.Tuples.length : Int)))), (9, A.val ((rMp true Lf.bool) (r1))), (5, A.val ((rP true (Ai false)) (r0))), (4, A.val ((rP true (A7 false)) (op0))), (0, A.val (Af (n0)))])
theorem Ye {n0 : Int} {op0 : SOp} {r0 : SRelation} {r1 : List (ByteArray × Bool)} {x13 : Int} {x12 : List Int} {q12_11 : List Int} {x58 : Int} {x12' : List Int} (s : (Int × Int)) (o : (Int × Int) ⊕ Int) (h : Dr n0 op0 r0 r1 x13 x12 q12_11 x58 x12' s = some o) : vc Try.prog Pr (Cu [63, 62, 61, 17, 16, 58, 57, 13, 12, 11, 10, 9, 5, 4, 0] (Jw n0 op0 r0 r1 x13 x12 q12_11 x58 x12') (O7 n0 op0 r0 r1 x13 x12 q12_11 x58 x12') o) (Jw n0 op0 r0 r1 x13 x12 q12_11 x58 x12' s) := by
 obtain ⟨x63, x17⟩ := s
 unfold Dr at h
 try dsimp only at h
 conv => whnf
 refine Br.od h (fun p14 h => ?_) (fun p14 h => ?_)
 ·conv => whnf
  refine Len.map ?_
  conv => whnf
  refine Ask.o h fun p15 h => ?_
  conv => whnf
  refine Cells.one (fun _ => ⟨rfl, rfl⟩) (by first | omega | (simp [Ap] at *; omega)) ?_
  conv => whnf
  refine Ask.o h fun p16 h => ?_
  conv => whnf
  refine Cells.lit rfl rfl ?_
  conv => whnf
  refine Len.map ?_
  conv => whnf
  refine Ask.o h fun p17 h => ?_
  conv => whnf
  refine Elem.o (by first | omega | (simp [Ap] at *; omega)) ?_
  conv => whnf
  refine Len.map ?_
  conv => whnf
  refine Ask.o h fun p18 h => ?_
  conv => whnf
  refine Elem.o (by first | omega | (simp [Ap] at *; omega)) ?_
  conv => whnf
  refine Ask.o h fun p19 h => ?_
  conv => whnf
  refine Ask.o h fun p20 h => ?_
  conv => whnf
  cases h; exact ⟨rfl, rfl⟩
 conv => whnf
 cases h; exact ⟨rfl, rfl⟩
noncomputable def B7 (n0 : Int) (op0 : SOp) (r0 : SRelation) (r1 : List (ByteArray × Bool)) (x13 : Int) (x12 : List Int) (q12_11 : List Int) : (Int × (List Int)) → Option ((Int × (List Int)) ⊕ (List Int)) := fun (x58, x12') =>
 if x58 < (↑x12.length : Int) then
 (Al (Dr n0 op0 r0 r1 x13 x12 q12_11 x58 x12') ((0 : Int), (0 : Int))).bind fun q21_17 =>
 ask ((0 : Int) ≤ q21_17 ∧ q21_17 < (↑op0.Table.length : Int)) <|
 ask ((0 : Int) ≤ x58 ∧ x58 < (↑x12'.length : Int)) <|
 ask (InI (x58 + (1 : Int))) <|
 some (.inl (x58 + (1 : Int), x12'.set x58.toNat (nth op0.Table q21_17.toNat)))
 else
 some (.inr x12')
def Jm (n0 : Int) (op0 : SOp) (r0 : SRelation) (r1 : List (ByteArray × Bool)) (x13 : Int) (x12 : List Int) (q12_11 : List Int) : (Int × (List Int)) → St := fun s => [(58, A.val (Af s.1)), (57, A.val (Af ((↑x12.length : Int)))), (13, A.val (Af (x13))), (12, A.val ((slr true 1 Af) s.2)), (11, A.val ((slr true 1 Af) (q12_11))), (10, A.val (Af ((↑r0.Tuples.length : Int)))), (9, A.val ((rMp true Lf.bool) (r1))), (5, A.val ((rP true (Ai false)) (r0))), (4, A.val ((rP true (A7 false)) (op0))), (0, A.val (Af (n0)))]
def Po (n0 : Int) (op0 : SOp) (r0 : SRelation) (r1 : List (ByteArray × Bool)) (x13 : Int) (_x12 : List Int) (q12_11 : List Int) : (List Int) → Tgt
 | s => ((Ex.exit 4), [13, 12, 11, 10, 9, 5, 4, 0], [(13, A.val (Af (x13))), (12, A.val ((slr true 1 Af) s)), (11, A.val ((slr true 1 Af) (q12_11))), (10, A.val (Af ((↑r0.Tuples.length : Int)))), (9, A.val ((rMp true Lf.bool) (r1))), (5, A.val ((rP true (Ai false)) (r0))), (4, A.val ((rP true (A7 false)) (op0))), (0, A.val (Af (n0)))])
theorem Yc {n0 : Int} {op0 : SOp} {r0 : SRelation} {r1 : List (ByteArray × Bool)} {x13 : Int} {x12 : List Int} {q12_11 : List Int} (s : (Int × (List Int))) (o : (Int × (List Int)) ⊕ (List Int)) (h : B7 n0 op0 r0 r1 x13 x12 q12_11 s = some o) : vc Try.prog Oz (Cu [58, 57, 13, 12, 11, 10, 9, 5, 4, 0] (Jm n0 op0 r0 r1 x13 x12 q12_11) (Po n0 op0 r0 r1 x13 x12 q12_11) o) (Jm n0 op0 r0 r1 x13 x12 q12_11 s) := by
 obtain ⟨x58, x12'⟩ := s
 unfold B7 at h
 try dsimp only at h
 conv => whnf
 refine Br.od h (fun p13 h => ?_) (fun p13 h => ?_)
 ·conv => whnf
  refine Len.map ?_
  conv => whnf
  refine LoopQ.o [63, 62, 61, 17, 16, 58, 57, 13, 12, 11, 10, 9, 5, 4, 0] (Jw n0 op0 r0 r1 x13 x12 q12_11 x58 x12') (O7 n0 op0 r0 r1 x13 x12 q12_11 x58 x12') h (fun s o h => Ye s o h) (by rfl) (fun _ => rfl) ?_
  rintro q21_17 h
  try dsimp only at h
  conv => whnf
  refine Cells.lit rfl rfl ?_
  conv => whnf
  refine Len.map ?_
  conv => whnf
  refine Ask.o h fun p22 h => ?_
  conv => whnf
  refine Elem.o (by first | omega | (simp [Ap] at *; omega)) ?_
  conv => whnf
  refine Len.map ?_
  conv => whnf
  refine Ask.o h fun p23 h => ?_
  conv => whnf
  refine SetKids.one (fun _ => ⟨rfl, rfl⟩) (nth op0.Table q21_17.toNat) (by rfl) (by first | omega | (simp [Ap] at *; omega)) ?_
  conv => whnf
  refine Ask.o h fun p24 h => ?_
  conv => whnf
  cases h; exact ⟨rfl, rfl⟩
 conv => whnf
 cases h; exact ⟨rfl, rfl⟩
noncomputable def Bu (n0 : Int) (op0 : SOp) (r0 : SRelation) (r1 : List (ByteArray × Bool)) : (Int × (List Int) × (List Int)) → Option ((Int × (List Int) × (List Int)) ⊕ (((List Int) × (List Int)) ⊕ Unit)) := fun (x13, x12, x11) =>
 (Er ((↑r0.Tuples.length : Int)) (op0.Arity)).bind fun r4 =>
 if x13 < r4 then
 ask (InI (op0.Arity - (1 : Int))) <|
 (Al (Cz n0 op0 r0 r1 x13 x12) (op0.Arity - (1 : Int), x13, x11)).bind fun q12_11 =>
 (Al (B7 n0 op0 r0 r1 x13 x12 q12_11) ((0 : Int), x12)).bind fun q25_12 =>
 (Jz (q25_12)).bind fun r26 =>
 if ((Ge r1 r26).getD false) = true then
 ask (InI (x13 + (1 : Int))) <|
 some (.inl (x13 + (1 : Int), q25_12, q12_11))
 else
 some (.inr (.inl (q25_12, q12_11)))
 else
 some (.inr (.inr ()))
def Je (n0 : Int) (op0 : SOp) (r0 : SRelation) (r1 : List (ByteArray × Bool)) : (Int × (List Int) × (List Int)) → St := fun s => [(13, A.val (Af s.1)), (12, A.val ((slr true 1 Af) s.2.1)), (11, A.val ((slr true 1 Af) s.2.2)), (10, A.val (Af ((↑r0.Tuples.length : Int)))), (9, A.val ((rMp true Lf.bool) (r1))), (5, A.val ((rP true (Ai false)) (r0))), (4, A.val ((rP true (A7 false)) (op0))), (0, A.val (Af (n0)))]
def O9 (_n0 : Int) (_op0 : SOp) (_r0 : SRelation) (_r1 : List (ByteArray × Bool)) : (((List Int) × (List Int)) ⊕ Unit) → Tgt
 | (.inl s) => (Ex.ret, [8, 7, 6], [(8, A.val (V.bool (true))), (7, A.val ((slr true 1 Af) s.1)), (6, A.val ((slr true 1 Af) s.2))])
 | (.inr _s) => ((Ex.exit 0), [], [])
theorem Y2 {n0 : Int} {op0 : SOp} {r0 : SRelation} {r1 : List (ByteArray × Bool)} (s : (Int × (List Int) × (List Int))) (o : (Int × (List Int) × (List Int)) ⊕ (((List Int) × (List Int)) ⊕ Unit)) (h : Bu n0 op0 r0 r1 s = some o) : vc Try.prog Pq (Cu [13, 12, 11, 10, 9, 5, 4, 0] (Je n0 op0 r0 r1) (O9 n0 op0 r0 r1) o) (Je n0 op0 r0 r1 s) := by
 obtain ⟨x13, x12, x11⟩ := s
 unfold Bu at h
 try dsimp only at h
 conv => whnf
 refine Cells.lit rfl rfl ?_
 conv => whnf
 refine CallQ.o Af (by rfl) h (fun r h => Wr h) (fun r4 h => ?_)
 conv => whnf
 refine Br.od h (fun p5 h => ?_) (fun p5 h => ?_)
 ·conv => whnf
  refine Cells.lit rfl rfl ?_
  conv => whnf
  refine Ask.o h fun p6 h => ?_
  conv => whnf
  refine LoopQ.o [15, 14, 13, 12, 11, 10, 9, 5, 4, 0] (I9 n0 op0 r0 r1 x13 x12) (Pp n0 op0 r0 r1 x13 x12) h (fun s o h => Ze s o h) (by rfl) (fun _ => rfl) ?_
  rintro q12_11 h
  try dsimp only at h
  conv => whnf
  refine Len.map ?_
  conv => whnf
  refine LoopQ.o [58, 57, 13, 12, 11, 10, 9, 5, 4, 0] (Jm n0 op0 r0 r1 x13 x12 q12_11) (Po n0 op0 r0 r1 x13 x12 q12_11) h (fun s o h => Yc s o h) (by rfl) (fun _ => rfl) ?_
  rintro q25_12 h
  try dsimp only at h
  conv => whnf
  refine CallQ.rd V.str (by first | rfl | simp only [V.fz, Ab, slr] | simp [Aa, V.fz, fzL, V.up, upL, Ab, Ac, Ad, slr]) (fun _ => rfl) h (fun r h => Ab1 h) (fun r26 h => ?_)
  conv => whnf
  refine LkQ.one Lf.bool V.bool r1 (false) (by rfl) rfl (fun _ => rfl) ?_
  conv => whnf
  refine Br.flip ?_
  conv => whnf
  refine Br.ob h (fun p27 h => ?_) (fun p27 h => ?_)
  ·conv => whnf
   refine Ask.o h fun p28 h => ?_
   conv => whnf
   cases h; exact ⟨rfl, rfl⟩
  conv => whnf
  cases h; exact ⟨rfl, rfl⟩
 conv => whnf
 cases h; exact ⟨rfl, rfl⟩
noncomputable def Gs (n0 : Int) (op0 : SOp) (r0 : SRelation) : Option ((List Int) × (List Int) × Bool) :=
 (Ik (r0)).bind fun r1 =>
 ask ((0 : Int) ≤ op0.Arity ∧ op0.Arity ≤ (↑LIM : Int)) <|
 ask ((0 : Int) ≤ r0.Arity ∧ r0.Arity ≤ (↑LIM : Int)) <|
 (Al (Bu n0 op0 r0 r1) ((0 : Int), List.replicate r0.Arity.toNat (0 : Int), List.replicate op0.Arity.toNat (0 : Int))).bind fun t => match t with
 | (.inl (q29_7, q29_6)) => (some (q29_6, q29_7, true))
 | (.inr _) => (some (Av Int, Av Int, false))
theorem Adc {n0 : Int} {op0 : SOp} {r0 : SRelation} {v : ((List Int) × (List Int) × Bool)} (h : Gs n0 op0 r0 = some v) : Ret Try.prog M4 [Af n0, (A7 false) op0, (Ai false) r0] ((fun r => V.tup [(slr true 1 Af) r.1, (slr true 1 Af) r.2.1, V.bool r.2.2]) v) := by
 refine A8 Ac4 (Nat.le_of_ble_eq_true rfl) ?_
 unfold Gs at h
 conv => whnf
 refine Cells.lit rfl rfl ?_
 conv => whnf
 refine CallQ.o (rMp true Lf.bool) (by rfl) h (fun r h => Af1 h) (fun r1 h => ?_)
 conv => whnf
 refine Cells.lit rfl rfl ?_
 conv => whnf
 refine Len.map ?_
 conv => whnf
 refine Cells.lit rfl rfl ?_
 conv => whnf
 refine Ask.o h fun p2 h => ?_
 conv => whnf
 refine MkQ.o Af ((0 : Int)) rfl ?_
 conv => whnf
 refine Cells.lit rfl rfl ?_
 conv => whnf
 refine Ask.o h fun p3 h => ?_
 conv => whnf
 refine MkQ.o Af ((0 : Int)) rfl ?_
 conv => whnf
 refine LoopQ.o [13, 12, 11, 10, 9, 5, 4, 0] (Je n0 op0 r0 r1) (O9 n0 op0 r0 r1) h (fun s o h => Y2 s o h) (by rfl) (by rintro (_ | _) <;> rfl) ?_
 rintro (⟨q29_7, q29_6⟩ | ⟨⟩) h
 ·try dsimp only at h
  conv => whnf
  cases h; exact (by rfl)
 try dsimp only at h
 conv => whnf
 cases h; exact (by rfl)
noncomputable def C9 (a0 : SAlgebra) : Int → Option (Int ⊕ (Unit ⊕ Unit)) := fun x22 =>
 if x22 < (↑a0.Ops.length : Int) then
 ask ((0 : Int) ≤ x22 ∧ x22 < (↑a0.Ops.length : Int)) <|
 (Lu (nth a0.Ops x22.toNat) (a0.Size)).bind fun r7 =>
 if (r7) = true then
 ask (InI (x22 + (1 : Int))) <|
 some (.inl (x22 + (1 : Int)))
 else
 some (.inr (.inl ()))
 else
 some (.inr (.inr ()))
def Ke (a0 : SAlgebra) : Int → St := fun s => [(22, A.val (Af s)), (21, A.val (Af ((↑a0.Ops.length : Int)))), (20, A.val ((slr false 2 (A7 false)) (a0.Ops))), (1, A.val ((rP true (Ak false)) (a0)))]
def Qa (_a0 : SAlgebra) : (Unit ⊕ Unit) → Tgt
 | (.inl _s) => (Ex.ret, [2], [(2, A.val (V.bool (false)))])
 | (.inr _s) => ((Ex.exit 0), [], [])
theorem Z0 {a0 : SAlgebra} (x22 : Int) (o : Int ⊕ (Unit ⊕ Unit)) (h : C9 a0 x22 = some o) : vc Try.prog P9 (Cu [22, 21, 20, 1] (Ke a0) (Qa a0) o) (Ke a0 x22) := by
 unfold C9 at h
 try dsimp only at h
 conv => whnf
 refine Br.od h (fun p5 h => ?_) (fun p5 h => ?_)
 ·conv => whnf
  refine Len.map ?_
  conv => whnf
  refine Ask.o h fun p6 h => ?_
  conv => whnf
  refine Elem.o (by first | omega | (simp [Ap] at *; omega)) ?_
  conv => whnf
  refine SetKids.lit rfl ?_
  conv => whnf
  refine Cells.lit rfl rfl ?_
  conv => whnf
  refine Cells.lit rfl rfl ?_
  conv => whnf
  refine CallQ.o V.bool (by rfl) h (fun r h => Aff h) (fun r7 h => ?_)
  conv => whnf
  refine Br.flip ?_
  conv => whnf
  refine Br.ob h (fun p8 h => ?_) (fun p8 h => ?_)
  ·conv => whnf
   refine Ask.o h fun p9 h => ?_
   conv => whnf
   cases h; exact ⟨rfl, rfl⟩
  conv => whnf
  cases h; exact ⟨rfl, rfl⟩
 conv => whnf
 cases h; exact ⟨rfl, rfl⟩
noncomputable def F1 (a0 : SAlgebra) : Option Bool :=
 ((if a0.Size < (1 : Int) then
 some (.inl ())
 else
 if a0.Size > (8 : Int) then
 some (.inl ())
 else
 if (↑a0.Ops.length : Int) > (4 : Int) then
 some (.inl ())
 else
 some (.inr ()) : Option (Unit ⊕ Unit))).bind fun t => match t with
 | (.inl _) => (some false)
 | (.inr _) => ((Al (C9 a0) (0 : Int)).bind fun t => match t with
 | (.inl _) => (some false)
 | (.inr _) => (some true))
theorem V5 {a0 : SAlgebra} {v : Bool} (h : F1 a0 = some v) : Ret Try.prog J8 [(Ak false) a0] (V.bool v) := by
 refine A8 Aex (Nat.le_of_ble_eq_true rfl) ?_
 unfold F1 at h
 conv => whnf
 refine CutQ.o (fun t : (Unit ⊕ Unit) => match t with | (.inl s) => (Ex.ret, [2], [(2, A.val (V.bool (false)))]) | (.inr s) => (Ex.normal, [1], [(1, A.val ((rP true (Ak false)) (a0)))])) h ?_ ?_
 ·intro t h
  conv => whnf
  refine Cells.lit rfl rfl ?_
  conv => whnf
  refine Br.od h (fun p1 h => ?_) (fun p1 h => ?_)
  ·conv => whnf
   refine Br.yes ?_
   conv => whnf
   refine Br.yes ?_
   conv => whnf
   refine Br.yes ?_
   conv => whnf
   refine Br.yes ?_
   conv => whnf
   refine Br.yes ?_
   conv => whnf
   refine Br.yes ?_
   conv => whnf
   refine Br.yes ?_
   conv => whnf
   refine Br.yes ?_
   conv => whnf
   refine Br.yes ?_
   conv => whnf
   cases h; exact ⟨rfl, rfl⟩
  conv => whnf
  refine Br.no ?_
  conv => whnf
  refine Cells.lit rfl rfl ?_
  conv => whnf
  refine Br.no ?_
  conv => whnf
  refine Br.no ?_
  conv => whnf
  refine Br.od h (fun p2 h => ?_) (fun p2 h => ?_)
  ·conv => whnf
   refine Br.yes ?_
   conv => whnf
   refine Br.yes ?_
   conv => whnf
   refine Br.yes ?_
   conv => whnf
   refine Br.yes ?_
   conv => whnf
   refine Br.yes ?_
   conv => whnf
   cases h; exact ⟨rfl, rfl⟩
  conv => whnf
  refine Br.no ?_
  conv => whnf
  refine Cells.lit rfl rfl ?_
  conv => whnf
  refine Br.no ?_
  conv => whnf
  refine Len.map ?_
  conv => whnf
  refine Br.no ?_
  conv => whnf
  refine Br.no ?_
  conv => whnf
  refine Br.od h (fun p3 h => ?_) (fun p3 h => ?_)
  ·conv => whnf
   cases h; exact ⟨rfl, rfl⟩
  conv => whnf
  cases h; exact ⟨rfl, rfl⟩
 rintro (⟨⟩ | ⟨⟩) h
 ·try dsimp only at h
  conv => whnf
  cases h; exact (by rfl)
 try dsimp only at h
 conv => whnf
 refine Cells.lit rfl rfl ?_
 conv => whnf
 refine Len.map ?_
 conv => whnf
 refine LoopQ.o [22, 21, 20, 1] (Ke a0) (Qa a0) h (fun s o h => Z0 s o h) (by rfl) (by rintro (_ | _) <;> rfl) ?_
 rintro (⟨⟩ | ⟨⟩) h
 ·try dsimp only at h
  conv => whnf
  cases h; exact (by rfl)
 try dsimp only at h
 conv => whnf
 cases h; exact (by rfl)
noncomputable def Cn (n0 : Int) : (Int × (List Int) × Sl1Cur) → Option ((Int × (List Int) × Sl1Cur) ⊕ ((List Int) × Sl1Cur)) := fun (x6, x5, x30) =>
 if x6 < n0 then
 ask (InI (x6 + (1 : Int))) <|
 (Ar (x30) (x6 + (1 : Int))).bind fun (r3, u4) =>
 if r3 < x6 then
 ask ((0 : Int) ≤ r3 ∧ r3 < (↑x5.length : Int)) <|
 ask ((x5).length + ([nth x5 r3.toNat]).length ≤ LIM) <|
 ask (InI (x6 + (1 : Int))) <|
 some (.inl (x6 + (1 : Int), x5 ++ [nth x5 r3.toNat], u4))
 else
 ask ((x5).length + ([r3]).length ≤ LIM) <|
 ask (InI (x6 + (1 : Int))) <|
 some (.inl (x6 + (1 : Int), x5 ++ [r3], u4))
 else
 some (.inr (x5, x30))
def Fo (n0 : Int) : (Int × (List Int) × Sl1Cur) → St := fun s => [(6, A.val (Af s.1)), (5, A.val ((slr true 1 Af) s.2.1)), (0, A.ref 30 []), (30, A.val ((rP true (Aj false)) s.2.2)), (1, A.val (Af (n0)))]
def I3 (_n0 : Int) : ((List Int) × Sl1Cur) → Tgt
 | s => ((Ex.exit 0), [5, 30], [(5, A.val ((slr true 1 Af) s.1)), (30, A.val ((rP true (Aj false)) s.2))])
theorem Qj {n0 : Int} (s : (Int × (List Int) × Sl1Cur)) (o : (Int × (List Int) × Sl1Cur) ⊕ ((List Int) × Sl1Cur)) (h : Cn n0 s = some o) : vc Try.prog I2 (Cu [6, 5, 0, 30, 1] (Fo n0) (I3 n0) o) (Fo n0 s) := by
 obtain ⟨x6, x5, x30⟩ := s
 unfold Cn at h
 try dsimp only at h
 conv => whnf
 refine Br.od h (fun p1 h => ?_) (fun p1 h => ?_)
 ·conv => whnf
  refine Ask.o h fun p2 h => ?_
  conv => whnf
  refine CallQ.io Af (rP true (Aj false)) (by rfl) rfl (fun _ => rfl) (fun _ => ⟨rfl, rfl⟩) rfl h (fun r h => Aw h) (fun r3 u4 h => ?_)
  conv => whnf
  refine Br.od h (fun p5 h => ?_) (fun p5 h => ?_)
  ·conv => whnf
   refine Len.map ?_
   conv => whnf
   refine Ask.o h fun p6 h => ?_
   conv => whnf
   refine Cells.one (fun _ => ⟨rfl, rfl⟩) (by first | omega | (simp [Ap] at *; omega)) ?_
   conv => whnf
   refine BslQ.o Af ([nth x5 r3.toNat]) (by exact fun _ => ⟨rfl, rfl⟩) (by rfl) ?_
   conv => whnf
   refine NoOwn.o (fun _ => rfl) ?_
   conv => whnf
   refine AppQ.o (m := 1) Af (by exact fun _ => ⟨rfl, rfl⟩) (x5) ([nth x5 r3.toNat]) (by rfl) (by rfl) h fun h => ?_
   conv => whnf
   refine Ask.o h fun p7 h => ?_
   conv => whnf
   cases h; exact ⟨rfl, rfl⟩
  conv => whnf
  refine BslQ.o Af [r3] (by exact fun _ => ⟨rfl, rfl⟩) (by rfl) ?_
  conv => whnf
  refine NoOwn.o (fun _ => rfl) ?_
  conv => whnf
  refine AppQ.o (m := 1) Af (by exact fun _ => ⟨rfl, rfl⟩) (x5) ([r3]) (by rfl) (by rfl) h fun h => ?_
  conv => whnf
  refine Ask.o h fun p8 h => ?_
  conv => whnf
  cases h; exact ⟨rfl, rfl⟩
 conv => whnf
 cases h; exact ⟨rfl, rfl⟩
noncomputable def Bl (c0 : Sl1Cur) (n0 : Int) : Option ((List Int) × Sl1Cur) :=
 (Al (Cn n0) ((0 : Int), Av Int, c0)).bind fun (q9_5, q9_30) =>
 some (q9_5, q9_30)
theorem Ha {c0 : Sl1Cur} {n0 : Int} {v : ((List Int) × Sl1Cur)} (h : Bl c0 n0 = some v) : Qs Try.prog Df [(rP true (Aj false)) c0, Af n0] ((slr true 1 Af) v.1) 0 ((rP true (Aj false)) v.2) := by
 refine Lh Ue (Nat.le_of_ble_eq_true rfl) ?_
 unfold Bl at h
 conv => whnf
 refine BslQ.o Af (Av Int) (by exact fun _ => ⟨rfl, rfl⟩) (by rfl) ?_
 conv => whnf
 refine LoopQ.o [6, 5, 0, 30, 1] (Fo n0) (I3 n0) h (fun s o h => Qj s o h) (by rfl) (fun _ => rfl) ?_
 rintro ⟨q9_5, q9_30⟩ h
 try dsimp only at h
 conv => whnf
 cases h; exact ⟨(by rfl), (by rfl)⟩
noncomputable def Dl (n0 : Int) (r0 : SRelation) : Option Bool :=
 (Fp (n0)).bind fun r1 =>
 if (r1) = true then
 (Fc (n0) (r0)).bind fun r3 =>
 some r3
 else
 some false
theorem Rd {n0 : Int} {r0 : SRelation} {v : Bool} (h : Dl n0 r0 = some v) : Ret Try.prog Ie [Af n0, (Ai false) r0] (V.bool v) := by
 refine A8 Abl (Nat.le_of_ble_eq_true rfl) ?_
 unfold Dl at h
 conv => whnf
 refine CallQ.o V.bool (by rfl) h (fun r h => Aab h) (fun r1 h => ?_)
 conv => whnf
 refine Br.ob h (fun p2 h => ?_) (fun p2 h => ?_)
 ·conv => whnf
  refine Br.yes ?_
  conv => whnf
  refine Cells.lit rfl rfl ?_
  conv => whnf
  refine Br.yes ?_
  conv => whnf
  refine CallQ.o V.bool (by rfl) h (fun r h => Su h) (fun r3 h => ?_)
  conv => whnf
  refine Br.yes ?_
  conv => whnf
  cases h; exact (by rfl)
 conv => whnf
 refine Br.no ?_
 conv => whnf
 refine Br.no ?_
 conv => whnf
 refine Br.no ?_
 conv => whnf
 cases h; exact (by rfl)
end Go.Proofs.Ytcpgnfohmeineaa.Ax
