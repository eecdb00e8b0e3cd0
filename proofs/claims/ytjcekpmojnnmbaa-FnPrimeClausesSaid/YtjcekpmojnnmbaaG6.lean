/-
 What the functions compute, as functions on plain data, and that the program does compute it; written by program.
-/
import Derived.Test.YtjcekpmojnnmbaaCode
import Derived.Test.YtjcekpmojnnmbaaG1
import Derived.Test.YtjcekpmojnnmbaaG2
import Derived.Test.YtjcekpmojnnmbaaG3
import Derived.Test.YtjcekpmojnnmbaaG4
namespace Go.Proofs.Ytjcekpmojnnmbaa.Ax
open Go
set_option maxRecDepth 100000
set_option maxHeartbeats 4000000
noncomputable def Bj (c0 : Sl1Cur) (list0 : (List Int)) : Option (Int × Sl1Cur) :=
 (Bb (c0) ((↑list0.length : Int))).bind fun (r1, u2) =>
 ask ((0 : Int) ≤ r1 ∧ r1 < (↑list0.length : Int)) <|
 some (nth list0 r1.toNat, u2)
theorem C1 {c0 : Sl1Cur} {list0 : (List Int)} {v : (Int × Sl1Cur)} (h : Bj c0 list0 = some v) : Sr Try.prog B0 [(rP true (Am false)) c0, (slr false 1 Ae) list0] (Ae v.1) 0 ((rP true (Am false)) v.2) := by
 refine Yv Aa2 (Nat.le_of_ble_eq_true rfl) ?_
 unfold Bj at h
 refine Len.map <| CallQ.io Ae (rP true (Am false)) (by rfl) rfl (fun _ => rfl) (fun _ => ⟨rfl, rfl⟩) rfl h (fun r h => Bz h) (fun r1 u2 h => ?_)
 refine Len.map <| Ask.o h fun p3 h => Elem.o (by first | omega | (simp [A4] at * <;> omega)) ?_
 cases h; exact ⟨(by rfl), (by rfl)⟩
noncomputable def Cz (_n0 : Int) (_op0 : SOp) (r0 : SRelation) (_r1 : List (ByteArray × Bool)) (_x13 : Int) (_x12 : List Int) : (Int × Int × (List Int)) → Option ((Int × Int × (List Int)) ⊕ (List Int)) := fun (x15, x14, x11') =>
 if x15 ≥ (0 : Int) then
 ask ((↑r0.Tuples.length : Int) ≠ (0 : Int)) <|
 ask ((0 : Int) ≤ x15 ∧ x15 < (↑x11'.length : Int)) <|
 ask ((↑r0.Tuples.length : Int) ≠ (0 : Int) ∧ InI (x14.tdiv (↑r0.Tuples.length : Int))) <|
 ask (InI (x15 - (1 : Int))) <|
 some (.inl (x15 - (1 : Int), x14.tdiv (↑r0.Tuples.length : Int), x11'.set x15.toNat (x14.tmod (↑r0.Tuples.length : Int))))
 else
 some (.inr x11')
def I3 (n0 : Int) (op0 : SOp) (r0 : SRelation) (r1 : List (ByteArray × Bool)) (x13 : Int) (x12 : List Int) : (Int × Int × (List Int)) → St := fun s => [(15, A.val (Ae s.1)), (14, A.val (Ae s.2.1)), (13, A.val (Ae (x13))), (12, A.val ((slr true 1 Ae) (x12))), (11, A.val ((slr true 1 Ae) s.2.2)), (10, A.val (Ae ((↑r0.Tuples.length : Int)))), (9, A.val ((rMp true Lf.bool) (r1))), (5, A.val ((rP true (Ah false)) (r0))), (4, A.val ((rP true (Ho false)) (op0))), (0, A.val (Ae (n0)))]
def O6 (n0 : Int) (op0 : SOp) (r0 : SRelation) (r1 : List (ByteArray × Bool)) (x13 : Int) (x12 : List Int) : (List Int) → Tgt
 | s => ((Ex.exit 2), [13, 12, 11, 10, 9, 5, 4, 0], [(13, A.val (Ae (x13))), (12, A.val ((slr true 1 Ae) (x12))), (11, A.val ((slr true 1 Ae) s)), (10, A.val (Ae ((↑r0.Tuples.length : Int)))), (9, A.val ((rMp true Lf.bool) (r1))), (5, A.val ((rP true (Ah false)) (r0))), (4, A.val ((rP true (Ho false)) (op0))), (0, A.val (Ae (n0)))])
theorem Xt {n0 : Int} {op0 : SOp} {r0 : SRelation} {r1 : List (ByteArray × Bool)} {x13 : Int} {x12 : List Int} (s : (Int × Int × (List Int))) (o : (Int × Int × (List Int)) ⊕ (List Int)) (h : Cz n0 op0 r0 r1 x13 x12 s = some o) : vc Try.prog N6 (C6 [15, 14, 13, 12, 11, 10, 9, 5, 4, 0] (I3 n0 op0 r0 r1 x13 x12) (O6 n0 op0 r0 r1 x13 x12) o) (I3 n0 op0 r0 r1 x13 x12 s) := by
 obtain ⟨x15, x14, x11'⟩ := s
 unfold Cz at h
 try dsimp only at h
 refine Br.od h (fun p7 h => ?_) (fun p7 h => ?_)
 ·refine Ask.o h fun p8 h => Len.map <| Ask.o h fun p9 h => SetKids.one (fun _ => ⟨rfl, rfl⟩) (x14.tmod (↑r0.Tuples.length : Int)) (by rfl) (by first | omega | (simp [A4] at * <;> omega)) <| Ask.o h fun p10 h => Ask.o h fun p11 h => ?_
  cases h; exact ⟨rfl, rfl⟩
 cases h; exact ⟨rfl, rfl⟩
noncomputable def Dn (n0 : Int) (_op0 : SOp) (r0 : SRelation) (_r1 : List (ByteArray × Bool)) (_x13 : Int) (_x12 : List Int) (q12_11 : List Int) (x58 : Int) (_x12' : List Int) : (Int × Int) → Option ((Int × Int) ⊕ Int) := fun (x63, x17) =>
 if x63 < (↑q12_11.length : Int) then
 ask ((0 : Int) ≤ x63 ∧ x63 < (↑q12_11.length : Int)) <|
 ask (InI (x17 * n0)) <|
 ask ((0 : Int) ≤ nth q12_11 x63.toNat ∧ nth q12_11 x63.toNat < (↑r0.Tuples.length : Int)) <|
 ask ((0 : Int) ≤ x58 ∧ x58 < (↑(nth r0.Tuples (nth q12_11 x63.toNat).toNat).length : Int)) <|
 ask (InI (x17 * n0 + nth (nth r0.Tuples (nth q12_11 x63.toNat).toNat) x58.toNat)) <|
 ask (InI (x63 + (1 : Int))) <|
 some (.inl (x63 + (1 : Int), x17 * n0 + nth (nth r0.Tuples (nth q12_11 x63.toNat).toNat) x58.toNat))
 else
 some (.inr x17)
def Jk (n0 : Int) (op0 : SOp) (r0 : SRelation) (r1 : List (ByteArray × Bool)) (x13 : Int) (x12 : List Int) (q12_11 : List Int) (x58 : Int) (x12' : List Int) : (Int × Int) → St := fun s => [(63, A.val (Ae s.1)), (62, A.val (Ae ((↑q12_11.length : Int)))), (61, A.ref 11 []), (17, A.val (Ae s.2)), (16, A.val (Ae (x58))), (58, A.val (Ae (x58))), (57, A.val (Ae ((↑x12.length : Int)))), (13, A.val (Ae (x13))), (12, A.val ((slr true 1 Ae) (x12'))), (11, A.val ((slr true 1 Ae) (q12_11))), (10, A.val (Ae ((↑r0.Tuples.length : Int)))), (9, A.val ((rMp true Lf.bool) (r1))), (5, A.val ((rP true (Ah false)) (r0))), (4, A.val ((rP true (Ho false)) (op0))), (0, A.val (Ae (n0)))]
def Oj (n0 : Int) (op0 : SOp) (r0 : SRelation) (r1 : List (ByteArray × Bool)) (x13 : Int) (x12 : List Int) (q12_11 : List Int) (x58 : Int) (x12' : List Int) : Int → Tgt
 | s => ((Ex.exit 6), [17, 16, 58, 57, 13, 12, 11, 10, 9, 5, 4, 0], [(17, A.val (Ae s)), (16, A.val (Ae (x58))), (58, A.val (Ae (x58))), (57, A.val (Ae ((↑x12.length : Int)))), (13, A.val (Ae (x13))), (12, A.val ((slr true 1 Ae) (x12'))), (11, A.val ((slr true 1 Ae) (q12_11))), (10, A.val (Ae ((↑r0.Tuples.length : Int)))), (9, A.val ((rMp true Lf.bool) (r1))), (5, A.val ((rP true (Ah false)) (r0))), (4, A.val ((rP true (Ho false)) (op0))), (0, A.val (Ae (n0)))])
theorem Xo {n0 : Int} {op0 : SOp} {r0 : SRelation} {r1 : List (ByteArray × Bool)} {x13 : Int} {x12 : List Int} {q12_11 : List Int} {x58 : Int} {x12' : List Int} (s : (Int × Int)) (o : (Int × Int) ⊕ Int) (h : Dn n0 op0 r0 r1 x13 x12 q12_11 x58 x12' s = some o) : vc Try.prog Oe (C6 [63, 62, 61, 17, 16, 58, 57, 13, 12, 11, 10, 9, 5, 4, 0] (Jk n0 op0 r0 r1 x13 x12 q12_11 x58 x12') (Oj n0 op0 r0 r1 x13 x12 q12_11 x58 x12') o) (Jk n0 op0 r0 r1 x13 x12 q12_11 x58 x12' s) := by
 obtain ⟨x63, x17⟩ := s
 unfold Dn at h
 try dsimp only at h
 refine Br.od h (fun p14 h => ?_) (fun p14 h => ?_)
 ·refine Len.map <| Ask.o h fun p15 h => Cells.one (fun _ => ⟨rfl, rfl⟩) (by first | omega | (simp [A4] at * <;> omega)) <| Ask.o h fun p16 h => Cells.lit rfl rfl <| Len.map <| Ask.o h fun p17 h => Elem.o (by first | omega | (simp [A4] at * <;> omega)) <| Len.map <| Ask.o h fun p18 h => Elem.o (by first | omega | (simp [A4] at * <;> omega)) <| Ask.o h fun p19 h => Ask.o h fun p20 h => ?_
  cases h; exact ⟨rfl, rfl⟩
 cases h; exact ⟨rfl, rfl⟩
noncomputable def B9 (n0 : Int) (op0 : SOp) (r0 : SRelation) (r1 : List (ByteArray × Bool)) (x13 : Int) (x12 : List Int) (q12_11 : List Int) : (Int × (List Int)) → Option ((Int × (List Int)) ⊕ (List Int)) := fun (x58, x12') =>
 if x58 < (↑x12.length : Int) then
 (Al (Dn n0 op0 r0 r1 x13 x12 q12_11 x58 x12') ((0 : Int), (0 : Int))).bind fun q21_17 =>
 ask ((0 : Int) ≤ q21_17 ∧ q21_17 < (↑op0.Table.length : Int)) <|
 ask ((0 : Int) ≤ x58 ∧ x58 < (↑x12'.length : Int)) <|
 ask (InI (x58 + (1 : Int))) <|
 some (.inl (x58 + (1 : Int), x12'.set x58.toNat (nth op0.Table q21_17.toNat)))
 else
 some (.inr x12')
def Jj (n0 : Int) (op0 : SOp) (r0 : SRelation) (r1 : List (ByteArray × Bool)) (x13 : Int) (x12 : List Int) (q12_11 : List Int) : (Int × (List Int)) → St := fun s => [(58, A.val (Ae s.1)), (57, A.val (Ae ((↑x12.length : Int)))), (13, A.val (Ae (x13))), (12, A.val ((slr true 1 Ae) s.2)), (11, A.val ((slr true 1 Ae) (q12_11))), (10, A.val (Ae ((↑r0.Tuples.length : Int)))), (9, A.val ((rMp true Lf.bool) (r1))), (5, A.val ((rP true (Ah false)) (r0))), (4, A.val ((rP true (Ho false)) (op0))), (0, A.val (Ae (n0)))]
def Oz (n0 : Int) (op0 : SOp) (r0 : SRelation) (r1 : List (ByteArray × Bool)) (x13 : Int) (_x12 : List Int) (q12_11 : List Int) : (List Int) → Tgt
 | s => ((Ex.exit 4), [13, 12, 11, 10, 9, 5, 4, 0], [(13, A.val (Ae (x13))), (12, A.val ((slr true 1 Ae) s)), (11, A.val ((slr true 1 Ae) (q12_11))), (10, A.val (Ae ((↑r0.Tuples.length : Int)))), (9, A.val ((rMp true Lf.bool) (r1))), (5, A.val ((rP true (Ah false)) (r0))), (4, A.val ((rP true (Ho false)) (op0))), (0, A.val (Ae (n0)))])
theorem Xb {n0 : Int} {op0 : SOp} {r0 : SRelation} {r1 : List (ByteArray × Bool)} {x13 : Int} {x12 : List Int} {q12_11 : List Int} (s : (Int × (List Int))) (o : (Int × (List Int)) ⊕ (List Int)) (h : B9 n0 op0 r0 r1 x13 x12 q12_11 s = some o) : vc Try.prog Ow (C6 [58, 57, 13, 12, 11, 10, 9, 5, 4, 0] (Jj n0 op0 r0 r1 x13 x12 q12_11) (Oz n0 op0 r0 r1 x13 x12 q12_11) o) (Jj n0 op0 r0 r1 x13 x12 q12_11 s) := by
 obtain ⟨x58, x12'⟩ := s
 unfold B9 at h
 try dsimp only at h
 refine Br.od h (fun p13 h => ?_) (fun p13 h => ?_)
 ·refine Len.map <| LoopQ.o [63, 62, 61, 17, 16, 58, 57, 13, 12, 11, 10, 9, 5, 4, 0] (Jk n0 op0 r0 r1 x13 x12 q12_11 x58 x12') (Oj n0 op0 r0 r1 x13 x12 q12_11 x58 x12') h (fun s o h => Xo s o h) (by rfl) (fun _ => rfl) ?_
  rintro q21_17 h
  try dsimp only at h
  refine Cells.lit rfl rfl <| Len.map <| Ask.o h fun p22 h => Elem.o (by first | omega | (simp [A4] at * <;> omega)) <| Len.map <| Ask.o h fun p23 h => SetKids.one (fun _ => ⟨rfl, rfl⟩) (nth op0.Table q21_17.toNat) (by rfl) (by first | omega | (simp [A4] at * <;> omega)) <| Ask.o h fun p24 h => ?_
  cases h; exact ⟨rfl, rfl⟩
 cases h; exact ⟨rfl, rfl⟩
noncomputable def Bg (n0 : Int) (op0 : SOp) (r0 : SRelation) (r1 : List (ByteArray × Bool)) : (Int × (List Int) × (List Int)) → Option ((Int × (List Int) × (List Int)) ⊕ (((List Int) × (List Int)) ⊕ Unit)) := fun (x13, x12, x11) =>
 (Dh ((↑r0.Tuples.length : Int)) (op0.Arity)).bind fun r4 =>
 if x13 < r4 then
 ask (InI (op0.Arity - (1 : Int))) <|
 (Al (Cz n0 op0 r0 r1 x13 x12) (op0.Arity - (1 : Int), x13, x11)).bind fun q12_11 =>
 (Al (B9 n0 op0 r0 r1 x13 x12 q12_11) ((0 : Int), x12)).bind fun q25_12 =>
 (Jt (q25_12)).bind fun r26 =>
 if ((Fu r1 r26).getD false) = true then
 ask (InI (x13 + (1 : Int))) <|
 some (.inl (x13 + (1 : Int), q25_12, q12_11))
 else
 some (.inr (.inl (q25_12, q12_11)))
 else
 some (.inr (.inr ()))
def Jh (n0 : Int) (op0 : SOp) (r0 : SRelation) (r1 : List (ByteArray × Bool)) : (Int × (List Int) × (List Int)) → St := fun s => [(13, A.val (Ae s.1)), (12, A.val ((slr true 1 Ae) s.2.1)), (11, A.val ((slr true 1 Ae) s.2.2)), (10, A.val (Ae ((↑r0.Tuples.length : Int)))), (9, A.val ((rMp true Lf.bool) (r1))), (5, A.val ((rP true (Ah false)) (r0))), (4, A.val ((rP true (Ho false)) (op0))), (0, A.val (Ae (n0)))]
def Ov (_n0 : Int) (_op0 : SOp) (_r0 : SRelation) (_r1 : List (ByteArray × Bool)) : (((List Int) × (List Int)) ⊕ Unit) → Tgt
 | (.inl s) => (Ex.ret, [8, 7, 6], [(8, A.val (V.bool (true))), (7, A.val ((slr true 1 Ae) s.1)), (6, A.val ((slr true 1 Ae) s.2))])
 | (.inr _s) => ((Ex.exit 0), [], [])
theorem X1 {n0 : Int} {op0 : SOp} {r0 : SRelation} {r1 : List (ByteArray × Bool)} (s : (Int × (List Int) × (List Int))) (o : (Int × (List Int) × (List Int)) ⊕ (((List Int) × (List Int)) ⊕ Unit)) (h : Bg n0 op0 r0 r1 s = some o) : vc Try.prog Oi (C6 [13, 12, 11, 10, 9, 5, 4, 0] (Jh n0 op0 r0 r1) (Ov n0 op0 r0 r1) o) (Jh n0 op0 r0 r1 s) := by
 obtain ⟨x13, x12, x11⟩ := s
 unfold Bg at h
 try dsimp only at h
 refine Cells.lit rfl rfl <| CallQ.o Ae (by rfl) h (fun r h => Lc h) (fun r4 h => ?_)
 refine Br.od h (fun p5 h => ?_) (fun p5 h => ?_)
 ·refine Cells.lit rfl rfl <| Ask.o h fun p6 h => LoopQ.o [15, 14, 13, 12, 11, 10, 9, 5, 4, 0] (I3 n0 op0 r0 r1 x13 x12) (O6 n0 op0 r0 r1 x13 x12) h (fun s o h => Xt s o h) (by rfl) (fun _ => rfl) ?_
  rintro q12_11 h
  try dsimp only at h
  refine Len.map <| LoopQ.o [58, 57, 13, 12, 11, 10, 9, 5, 4, 0] (Jj n0 op0 r0 r1 x13 x12 q12_11) (Oz n0 op0 r0 r1 x13 x12 q12_11) h (fun s o h => Xb s o h) (by rfl) (fun _ => rfl) ?_
  rintro q25_12 h
  try dsimp only at h
  refine CallQ.rd V.str (by first | rfl | simp only [V.fz, Ab, slr] | simp [Aa, V.fz, fzL, V.up, upL, Ab, Ac, Ad, slr]) (fun _ => rfl) h (fun r h => Ady h) (fun r26 h => ?_)
  refine LkQ.one Lf.bool V.bool r1 (false) (by rfl) rfl (fun _ => rfl) <| Br.flip <| Br.ob h (fun p27 h => ?_) (fun p27 h => ?_)
  ·refine Ask.o h fun p28 h => ?_
   cases h; exact ⟨rfl, rfl⟩
  cases h; exact ⟨rfl, rfl⟩
 cases h; exact ⟨rfl, rfl⟩
noncomputable def Dw (n0 : Int) (op0 : SOp) (r0 : SRelation) : Option ((List Int) × (List Int) × Bool) :=
 (Hs (r0)).bind fun r1 =>
 ask ((0 : Int) ≤ op0.Arity ∧ op0.Arity ≤ (↑LIM : Int)) <|
 ask ((0 : Int) ≤ r0.Arity ∧ r0.Arity ≤ (↑LIM : Int)) <|
 (Al (Bg n0 op0 r0 r1) ((0 : Int), List.replicate r0.Arity.toNat (0 : Int), List.replicate op0.Arity.toNat (0 : Int))).bind fun t => match t with
 | (.inl (q29_7, q29_6)) => (some (q29_6, q29_7, true))
 | (.inr _) => (some (Ap Int, Ap Int, false))
theorem Aby {n0 : Int} {op0 : SOp} {r0 : SRelation} {v : ((List Int) × (List Int) × Bool)} (h : Dw n0 op0 r0 = some v) : Ret Try.prog Lh [Ae n0, (Ho false) op0, (Ah false) r0] ((fun r => V.tup [(slr true 1 Ae) r.1, (slr true 1 Ae) r.2.1, V.bool r.2.2]) v) := by
 refine A7 Ab7 (Nat.le_of_ble_eq_true rfl) ?_
 unfold Dw at h
 refine Cells.lit rfl rfl <| CallQ.o (rMp true Lf.bool) (by rfl) h (fun r h => Agi h) (fun r1 h => ?_)
 refine Cells.lit rfl rfl <| Len.map <| Cells.lit rfl rfl <| Ask.o h fun p2 h => MkQ.o Ae ((0 : Int)) rfl <| Cells.lit rfl rfl <| Ask.o h fun p3 h => MkQ.o Ae ((0 : Int)) rfl <| LoopQ.o [13, 12, 11, 10, 9, 5, 4, 0] (Jh n0 op0 r0 r1) (Ov n0 op0 r0 r1) h (fun s o h => X1 s o h) (by rfl) (by rintro (_ | _) <;> rfl) ?_
 rintro (⟨q29_7, q29_6⟩ | ⟨⟩) h
 ·try dsimp only at h
  cases h; exact (by rfl)
 try dsimp only at h
 cases h; exact (by rfl)
noncomputable def Cw (arity0 : Int) (_x4 : Int) (_x3 : List (List Int)) (r3 : List Int) : (Int × (List Int)) → Option ((Int × (List Int)) ⊕ (List Int)) := fun (x7, x6) =>
 if x7 < arity0 then
 ((ask ((0 : Int) ≤ x7 ∧ x7 < (↑r3.length : Int)) <|
 if nth r3 x7.toNat = (1 : Int) then
 ask (InI (x7 + (1 : Int))) <|
 ask ((x6).length + ([x7 + (1 : Int)]).length ≤ LIM) <|
 some (x6 ++ [x7 + (1 : Int)])
 else
 some x6 : Option (List Int))).bind fun q8_6 =>
 ask ((0 : Int) ≤ x7 ∧ x7 < (↑r3.length : Int)) <|
 if nth r3 x7.toNat = (2 : Int) then
 ask (InI (IntKind.i64.wrap ((0 : Int) - x7) - (1 : Int))) <|
 ask ((q8_6).length + ([IntKind.i64.wrap ((0 : Int) - x7) - (1 : Int)]).length ≤ LIM) <|
 ask (InI (x7 + (1 : Int))) <|
 some (.inl (x7 + (1 : Int), q8_6 ++ [IntKind.i64.wrap ((0 : Int) - x7) - (1 : Int)]))
 else
 ask (InI (x7 + (1 : Int))) <|
 some (.inl (x7 + (1 : Int), q8_6))
 else
 some (.inr x6)
def I4 (arity0 : Int) (x4 : Int) (x3 : List (List Int)) (r3 : List Int) : (Int × (List Int)) → St := fun s => [(7, A.val (Ae s.1)), (6, A.val ((slr true 1 Ae) s.2)), (5, A.val ((slr true 1 Ae) (r3))), (4, A.val (Ae (x4))), (3, A.val ((slr true 1 (slr false 1 Ae)) (x3))), (0, A.val (Ae (arity0)))]
def Oq (arity0 : Int) (x4 : Int) (x3 : List (List Int)) (_r3 : List Int) : (List Int) → Tgt
 | s => ((Ex.exit 2), [6, 4, 3, 0], [(6, A.val ((slr true 1 Ae) s)), (4, A.val (Ae (x4))), (3, A.val ((slr true 1 (slr false 1 Ae)) (x3))), (0, A.val (Ae (arity0)))])
theorem Xh {arity0 : Int} {x4 : Int} {x3 : List (List Int)} {r3 : List Int} (s : (Int × (List Int))) (o : (Int × (List Int)) ⊕ (List Int)) (h : Cw arity0 x4 x3 r3 s = some o) : vc Try.prog O5 (C6 [7, 6, 5, 4, 3, 0] (I4 arity0 x4 x3 r3) (Oq arity0 x4 x3 r3) o) (I4 arity0 x4 x3 r3 s) := by
 obtain ⟨x7, x6⟩ := s
 unfold Cw at h
 try dsimp only at h
 refine Br.od h (fun p4 h => ?_) (fun p4 h => ?_)
 ·refine CutQ.o (fun t : (List Int) => match t with | s => (Ex.normal, [6, 7, 5, 4, 3, 0], [(6, A.val ((slr true 1 Ae) s)), (7, A.val (Ae (x7))), (5, A.val ((slr true 1 Ae) (r3))), (4, A.val (Ae (x4))), (3, A.val ((slr true 1 (slr false 1 Ae)) (x3))), (0, A.val (Ae (arity0)))])) h ?_ ?_
  ·intro t h
   refine Len.map <| Ask.o h fun p5 h => Cells.one (fun _ => ⟨rfl, rfl⟩) (by first | omega | (simp [A4] at * <;> omega)) <| Br.oe h (fun p6 h => ?_) (fun p6 h => ?_)
   ·refine Ask.o h fun p7 h => BslQ.o Ae ([x7 + (1 : Int)]) (by exact fun _ => ⟨rfl, rfl⟩) (by first | rfl | (simp only [Aa, V.fz, fzL, V.up, upL, Ab, Ac, Ad, slr, List.cons_append, List.nil_append]; done) | simp [Aa, V.fz, fzL, V.up, upL, Ab, Ac, Ad, slr]) <| NoOwn.o (fun _ => rfl) <| AppQ.o (m := 1) Ae (by exact fun _ => ⟨rfl, rfl⟩) (x6) ([x7 + (1 : Int)]) (by rfl) (by rfl) h fun h => ?_
    cases h; exact ⟨rfl, rfl⟩
   cases h; exact ⟨rfl, rfl⟩
  rintro q8_6 h
  try dsimp only at h
  refine Len.map <| Ask.o h fun p9 h => Cells.one (fun _ => ⟨rfl, rfl⟩) (by first | omega | (simp [A4] at * <;> omega)) <| Br.oe h (fun p10 h => ?_) (fun p10 h => ?_)
  ·refine Ask.o h fun p11 h => BslQ.o Ae ([IntKind.i64.wrap ((0 : Int) - x7) - (1 : Int)]) (by exact fun _ => ⟨rfl, rfl⟩) (by first | rfl | (simp only [Aa, V.fz, fzL, V.up, upL, Ab, Ac, Ad, slr, List.cons_append, List.nil_append]; done) | simp [Aa, V.fz, fzL, V.up, upL, Ab, Ac, Ad, slr]) <| NoOwn.o (fun _ => rfl) <| AppQ.o (m := 1) Ae (by exact fun _ => ⟨rfl, rfl⟩) (q8_6) ([IntKind.i64.wrap ((0 : Int) - x7) - (1 : Int)]) (by rfl) (by rfl) h fun h => Ask.o h fun p12 h => ?_
   cases h; exact ⟨rfl, rfl⟩
  refine Ask.o h fun p13 h => ?_
  cases h; exact ⟨rfl, rfl⟩
 cases h; exact ⟨rfl, rfl⟩
noncomputable def C2 (_arity0 : Int) (_x4 : Int) (x3 : List (List Int)) (q14_6 : List Int) : Int → Option (Int ⊕ Int) := fun x8 =>
 if x8 < (↑x3.length : Int) then
 ask ((0 : Int) ≤ x8 ∧ x8 < (↑x3.length : Int)) <|
 (Hq (nth x3 x8.toNat) (q14_6)).bind fun r17 =>
 if (r17) = true then
 ask (InI (x8 + (1 : Int))) <|
 some (.inl (x8 + (1 : Int)))
 else
 some (.inr x8)
 else
 some (.inr x8)
def Ji (arity0 : Int) (x4 : Int) (x3 : List (List Int)) (q14_6 : List Int) : Int → St := fun s => [(8, A.val (Ae s)), (6, A.val ((slr true 1 Ae) (q14_6))), (4, A.val (Ae (x4))), (3, A.val ((slr true 1 (slr false 1 Ae)) (x3))), (0, A.val (Ae (arity0)))]
def Oa (arity0 : Int) (x4 : Int) (x3 : List (List Int)) (q14_6 : List Int) : Int → Tgt
 | s => ((Ex.exit 4), [8, 6, 4, 3, 0], [(8, A.val (Ae s)), (6, A.val ((slr true 1 Ae) (q14_6))), (4, A.val (Ae (x4))), (3, A.val ((slr true 1 (slr false 1 Ae)) (x3))), (0, A.val (Ae (arity0)))])
theorem Yf {arity0 : Int} {x4 : Int} {x3 : List (List Int)} {q14_6 : List Int} (x8 : Int) (o : Int ⊕ Int) (h : C2 arity0 x4 x3 q14_6 x8 = some o) : vc Try.prog Oo (C6 [8, 6, 4, 3, 0] (Ji arity0 x4 x3 q14_6) (Oa arity0 x4 x3 q14_6) o) (Ji arity0 x4 x3 q14_6 x8) := by
 unfold C2 at h
 try dsimp only at h
 refine Len.map <| Br.od h (fun p15 h => ?_) (fun p15 h => ?_)
 ·refine Br.yes <| Br.yes <| Len.map <| Ask.o h fun p16 h => Br.yes <| Cells.one (fun _ => ⟨rfl, rfl⟩) (by first | omega | (simp [A4] at * <;> omega)) <| Br.yes <| Br.yes <| CallQ.rd V.bool (by first | rfl | simp only [Aa, V.fz, Ab, slr] | simp [Aa, V.fz, fzL, V.up, upL, Ab, Ac, Ad, slr]) (fun _ => rfl) h (fun r h => Agb h) (fun r17 h => ?_)
  refine Br.yes <| Br.ob h (fun p18 h => ?_) (fun p18 h => ?_)
  ·refine Ask.o h fun p19 h => ?_
   cases h; exact ⟨rfl, rfl⟩
  cases h; exact ⟨rfl, rfl⟩
 refine Br.no <| Br.no <| Br.no <| Br.no <| Br.no <| Br.no <| Br.no ?_
 cases h; exact ⟨rfl, rfl⟩
noncomputable def C0 (arity0 : Int) : (Int × (List (List Int))) → Option ((Int × (List (List Int))) ⊕ (List (List Int))) := fun (x4, x3) =>
 (Gd ((3 : Int)) (arity0)).bind fun r1 =>
 if x4 < r1 then
 (Fi ((3 : Int)) (arity0) (x4)).bind fun r3 =>
 (Al (Cw arity0 x4 x3 r3) ((0 : Int), Ap Int)).bind fun q14_6 =>
 (Al (C2 arity0 x4 x3 q14_6) (0 : Int)).bind fun q20_8 =>
 ask (0 ≤ (0 : Int) ∧ (0 : Int) ≤ q20_8 ∧ q20_8 ≤ ((x3.length : Nat) : Int)) <|
 ask ((Ap (List Int)).length + (List.take (q20_8.toNat - Int.toNat (0 : Int)) (List.drop (Int.toNat (0 : Int)) x3)).length ≤ LIM) <|
 ask ((Ap (List Int) ++ List.take (q20_8.toNat - Int.toNat (0 : Int)) (List.drop (Int.toNat (0 : Int)) x3)).length + ([q14_6]).length ≤ LIM) <|
 ask (0 ≤ q20_8 ∧ q20_8 ≤ (↑x3.length : Int) ∧ (↑x3.length : Int) ≤ ((x3.length : Nat) : Int)) <|
 ask ((Ap (List Int) ++ List.take (q20_8.toNat - Int.toNat (0 : Int)) (List.drop (Int.toNat (0 : Int)) x3) ++ [q14_6]).length + (List.take ((↑x3.length : Int).toNat - q20_8.toNat) (List.drop q20_8.toNat x3)).length ≤ LIM) <|
 ask (InI (x4 + (1 : Int))) <|
 some (.inl (x4 + (1 : Int), Ap (List Int) ++ List.take (q20_8.toNat - Int.toNat (0 : Int)) (List.drop (Int.toNat (0 : Int)) x3) ++ [q14_6] ++ List.take ((↑x3.length : Int).toNat - q20_8.toNat) (List.drop q20_8.toNat x3)))
 else
 some (.inr x3)
def Jn (arity0 : Int) : (Int × (List (List Int))) → St := fun s => [(4, A.val (Ae s.1)), (3, A.val ((slr true 1 (slr false 1 Ae)) s.2)), (0, A.val (Ae (arity0)))]
def O4 (_arity0 : Int) : (List (List Int)) → Tgt
 | s => ((Ex.exit 0), [3], [(3, A.val ((slr true 1 (slr false 1 Ae)) s))])
theorem Yb {arity0 : Int} (s : (Int × (List (List Int)))) (o : (Int × (List (List Int))) ⊕ (List (List Int))) (h : C0 arity0 s = some o) : vc Try.prog N4 (C6 [4, 3, 0] (Jn arity0) (O4 arity0) o) (Jn arity0 s) := by
 obtain ⟨x4, x3⟩ := s
 unfold C0 at h
 try dsimp only at h
 refine CallQ.o Ae (by rfl) h (fun r h => P6 h) (fun r1 h => ?_)
 refine Br.od h (fun p2 h => ?_) (fun p2 h => ?_)
 ·refine CallQ.o (slr true 1 Ae) (by rfl) h (fun r h => Tu h) (fun r3 h => ?_)
  refine BslQ.o Ae (Ap Int) (by exact fun _ => ⟨rfl, rfl⟩) (by first | rfl | (simp only [Aa, V.fz, fzL, V.up, upL, Ab, Ac, Ad, slr, List.cons_append, List.nil_append]; done) | simp [Aa, V.fz, fzL, V.up, upL, Ab, Ac, Ad, slr]) <| LoopQ.o [7, 6, 5, 4, 3, 0] (I4 arity0 x4 x3 r3) (Oq arity0 x4 x3 r3) h (fun s o h => Xh s o h) (by rfl) (fun _ => rfl) ?_
  rintro q14_6 h
  try dsimp only at h
  refine LoopQ.o [8, 6, 4, 3, 0] (Ji arity0 x4 x3 q14_6) (Oa arity0 x4 x3 q14_6) h (fun s o h => Yf s o h) (by rfl) (fun _ => rfl) ?_
  rintro q20_8 h
  try dsimp only at h
  refine FrzQ.d (V.sl false (1 : Nat) (List.map (slr false (1 : Nat) Ae) x3)) (by first | (simp only [slr]; done) | (simp [As, V.fz, Ab, slr]; done) | (simp [As, V.fz, fzL, Ab, slr]; done)) <| FrzQ.d (V.sl false (1 : Nat) (List.map Ae q14_6)) (by first | (simp only [slr]; done) | (simp [As, V.fz, Ab, slr]; done) | (simp [As, V.fz, fzL, Ab, slr]; done)) <| BslQ.o (slr true 1 Ae) (Ap (List Int)) (by exact fun _ => ⟨rfl, rfl⟩) (by first | rfl | (simp only [Aa, V.fz, fzL, V.up, upL, Ab, Ac, Ad, slr, List.cons_append, List.nil_append]; done) | simp [Aa, V.fz, fzL, V.up, upL, Ab, Ac, Ad, slr]) <| SlcQ.o (slr false 1 Ae) h fun h => AppQ.o (m := 1) (slr false 1 Ae) (by exact fun _ => ⟨rfl, rfl⟩) (Ap (List Int)) (List.take (q20_8.toNat - Int.toNat (0 : Int)) (List.drop (Int.toNat (0 : Int)) x3)) (by rfl) (by rfl) h fun h => BslQ.o (slr false 1 Ae) [q14_6] (by exact fun _ => ⟨rfl, rfl⟩) (by first | rfl | (simp only [Aa, V.fz, fzL, V.up, upL, Ab, Ac, Ad, slr, List.cons_append, List.nil_append]; done) | simp [Aa, V.fz, fzL, V.up, upL, Ab, Ac, Ad, slr]) <| NoOwn.o (fun _ => rfl) <| AppQ.o (m := 1) (slr false 1 Ae) (by exact fun _ => ⟨rfl, rfl⟩) (Ap (List Int) ++ List.take (q20_8.toNat - Int.toNat (0 : Int)) (List.drop (Int.toNat (0 : Int)) x3)) ([q14_6]) (by rfl) (by rfl) h fun h => Len.map <| SlcQ.o (slr false 1 Ae) h fun h => AppQ.o (m := 1) (slr false 1 Ae) (by exact fun _ => ⟨rfl, rfl⟩) (Ap (List Int) ++ List.take (q20_8.toNat - Int.toNat (0 : Int)) (List.drop (Int.toNat (0 : Int)) x3) ++ [q14_6]) (List.take ((↑x3.length : Int).toNat - q20_8.toNat) (List.drop q20_8.toNat x3)) (by rfl) (by rfl) h fun h => Ask.o h fun p21 h => ?_
  cases h; exact ⟨rfl, rfl⟩
 cases h; exact ⟨rfl, rfl⟩
noncomputable def Em (arity0 : Int) : Option (List (List Int)) :=
 (Al (C0 arity0) ((0 : Int), Ap (List Int))).bind fun q22_3 =>
 some q22_3
theorem Ru {arity0 : Int} {v : (List (List Int))} (h : Em arity0 = some v) : Ret Try.prog Im [Ae arity0] ((slr true 1 (slr false 1 Ae)) v) := by
 refine A7 Aco (Nat.le_of_ble_eq_true rfl) ?_
 unfold Em at h
 refine BslQ.o (slr true 1 Ae) (Ap (List Int)) (by exact fun _ => ⟨rfl, rfl⟩) (by first | rfl | (simp only [Aa, V.fz, fzL, V.up, upL, Ab, Ac, Ad, slr, List.cons_append, List.nil_append]; done) | simp [Aa, V.fz, fzL, V.up, upL, Ab, Ac, Ad, slr]) <| LoopQ.o [4, 3, 0] (Jn arity0) (O4 arity0) h (fun s o h => Yb s o h) (by rfl) (fun _ => rfl) ?_
 rintro q22_3 h
 try dsimp only at h
 cases h; exact (by rfl)
noncomputable def Fc (list0 : (List (List Int))) (t0 : (List Int)) : Option (List (List Int)) :=
 (Ff (list0) (t0)).bind fun r1 =>
 if (r1.snd) = true then
 some list0
 else
 ask (0 ≤ (0 : Int) ∧ (0 : Int) ≤ r1.fst ∧ r1.fst ≤ ((list0.length : Nat) : Int)) <|
 ask ((Ap (List Int)).length + (List.take (r1.fst.toNat - Int.toNat (0 : Int)) (List.drop (Int.toNat (0 : Int)) list0)).length ≤ LIM) <|
 ask ((Ap (List Int) ++ List.take (r1.fst.toNat - Int.toNat (0 : Int)) (List.drop (Int.toNat (0 : Int)) list0)).length + ([t0]).length ≤ LIM) <|
 ask (0 ≤ r1.fst ∧ r1.fst ≤ (↑list0.length : Int) ∧ (↑list0.length : Int) ≤ ((list0.length : Nat) : Int)) <|
 ask ((Ap (List Int) ++ List.take (r1.fst.toNat - Int.toNat (0 : Int)) (List.drop (Int.toNat (0 : Int)) list0) ++ [t0]).length + (List.take ((↑list0.length : Int).toNat - r1.fst.toNat) (List.drop r1.fst.toNat list0)).length ≤ LIM) <|
 some (Ap (List Int) ++ List.take (r1.fst.toNat - Int.toNat (0 : Int)) (List.drop (Int.toNat (0 : Int)) list0) ++ [t0] ++ List.take ((↑list0.length : Int).toNat - r1.fst.toNat) (List.drop r1.fst.toNat list0))
theorem P1 {list0 : (List (List Int))} {t0 : (List Int)} {v : (List (List Int))} (h : Fc list0 t0 = some v) : Sr Try.prog Jp [(slr true 1 (slr false 1 Ae)) list0, (slr false 1 Ae) t0] ((slr true 1 (slr false 1 Ae)) v) 0 V.dead := by
 refine A0w An3 (Nat.le_of_ble_eq_true rfl) ?_
 unfold Fc at h
 refine CallQ.rd (fun r => V.tup [Ae r.1, V.bool r.2]) (by first | rfl | simp only [V.fz, V.up, Ab, slr] | simp [Aa, V.fz, fzL, V.up, upL, Ab, Ac, Ad, slr]) (fun _ => by simp [V.noFz, Cs]) h (fun r h => Tl h) (fun r1 h => ?_)
 refine Br.ob h (fun p2 h => ?_) (fun p2 h => ?_)
 ·cases h; exact ⟨(by rfl), (by rfl)⟩
 refine FrzQ.d (V.sl false (1 : Nat) (List.map (slr false (1 : Nat) Ae) list0)) (by first | (simp only [As, Ac, slr]; done) | (simp [As, V.fz, Ab, Ac, slr]; done) | (simp [As, V.fz, fzL, Ab, slr]; done)) <| BslQ.o (slr true 1 Ae) (Ap (List Int)) (by exact fun _ => ⟨rfl, rfl⟩) (by first | rfl | (simp only [Aa, V.fz, fzL, V.up, upL, Ab, Ac, Ad, slr, List.cons_append, List.nil_append]; done) | simp [Aa, V.fz, fzL, V.up, upL, Ab, Ac, Ad, slr]) <| SlcQ.o (slr false 1 Ae) h fun h => AppQ.o (m := 1) (slr false 1 Ae) (by exact fun _ => ⟨rfl, rfl⟩) (Ap (List Int)) (List.take (r1.fst.toNat - Int.toNat (0 : Int)) (List.drop (Int.toNat (0 : Int)) list0)) (by rfl) (by rfl) h fun h => BslQ.o (slr false 1 Ae) [t0] (by exact fun _ => ⟨rfl, rfl⟩) (by first | rfl | (simp only [Aa, V.fz, fzL, V.up, upL, Ab, Ac, Ad, slr, List.cons_append, List.nil_append]; done) | simp [Aa, V.fz, fzL, V.up, upL, Ab, Ac, Ad, slr]) <| NoOwn.o (fun _ => rfl) <| AppQ.o (m := 1) (slr false 1 Ae) (by exact fun _ => ⟨rfl, rfl⟩) (Ap (List Int) ++ List.take (r1.fst.toNat - Int.toNat (0 : Int)) (List.drop (Int.toNat (0 : Int)) list0)) ([t0]) (by rfl) (by rfl) h fun h => Len.map <| SlcQ.o (slr false 1 Ae) h fun h => AppQ.o (m := 1) (slr false 1 Ae) (by exact fun _ => ⟨rfl, rfl⟩) (Ap (List Int) ++ List.take (r1.fst.toNat - Int.toNat (0 : Int)) (List.drop (Int.toNat (0 : Int)) list0) ++ [t0]) (List.take ((↑list0.length : Int).toNat - r1.fst.toNat) (List.drop r1.fst.toNat list0)) (by rfl) (by rfl) h fun h => ?_
 cases h; exact ⟨(by rfl), (by rfl)⟩
end Go.Proofs.Ytjcekpmojnnmbaa.Ax
