/-
 What the functions compute, as functions on plain data, and that the program does compute it; written by program.
-/
import Derived.Test.YtcpgnfohmeineaaCode
import Derived.Test.YtcpgnfohmeineaaG1
import Derived.Test.YtcpgnfohmeineaaG3
import Derived.Test.YtcpgnfohmeineaaG4
import Derived.Test.YtcpgnfohmeineaaG5
namespace Go.Proofs.Ytcpgnfohmeineaa.Ax
open Go
set_option maxRecDepth 100000
set_option maxHeartbeats 4000000
noncomputable def B3 (_n0 : Int) (_op0 : SOp) (r0 : SRelation) (_r1 : List (ByteArray × Bool)) (_x13 : Int) (_x12 : List Int) : (Int × Int × (List Int)) → Option ((Int × Int × (List Int)) ⊕ (List Int)) := fun (x15, x14, x11') =>
 if x15 ≥ (0 : Int) then
 ask ((↑r0.Tuples.length : Int) ≠ (0 : Int)) <|
 ask ((0 : Int) ≤ x15 ∧ x15 < (↑x11'.length : Int)) <|
 ask ((↑r0.Tuples.length : Int) ≠ (0 : Int) ∧ InI (x14.tdiv (↑r0.Tuples.length : Int))) <|
 ask (InI (x15 - (1 : Int))) <|
 some (.inl (x15 - (1 : Int), x14.tdiv (↑r0.Tuples.length : Int), x11'.set x15.toNat (x14.tmod (↑r0.Tuples.length : Int))))
 else
 some (.inr x11')
def Gb (n0 : Int) (op0 : SOp) (r0 : SRelation) (r1 : List (ByteArray × Bool)) (x13 : Int) (x12 : List Int) : (Int × Int × (List Int)) → St := fun s => [(15, A.val (Af s.1)), (14, A.val (Af s.2.1)), (13, A.val (Af (x13))), (12, A.val ((slr true 1 Af) (x12))), (11, A.val ((slr true 1 Af) s.2.2)), (10, A.val (Af ((↑r0.Tuples.length : Int)))), (9, A.val ((rMp true Lf.bool) (r1))), (5, A.val ((rP true (Am false)) (r0))), (4, A.val ((rP true (Aj false)) (op0))), (0, A.val (Af (n0)))]
def Kv (n0 : Int) (op0 : SOp) (r0 : SRelation) (r1 : List (ByteArray × Bool)) (x13 : Int) (x12 : List Int) : (List Int) → Tgt
 | s => ((Ex.exit 2), [13, 12, 11, 10, 9, 5, 4, 0], [(13, A.val (Af (x13))), (12, A.val ((slr true 1 Af) (x12))), (11, A.val ((slr true 1 Af) s)), (10, A.val (Af ((↑r0.Tuples.length : Int)))), (9, A.val ((rMp true Lf.bool) (r1))), (5, A.val ((rP true (Am false)) (r0))), (4, A.val ((rP true (Aj false)) (op0))), (0, A.val (Af (n0)))])
theorem Q2 {n0 : Int} {op0 : SOp} {r0 : SRelation} {r1 : List (ByteArray × Bool)} {x13 : Int} {x12 : List Int} (s : (Int × Int × (List Int))) (o : (Int × Int × (List Int)) ⊕ (List Int)) (h : B3 n0 op0 r0 r1 x13 x12 s = some o) : vc Try.prog Kq (Dx [15, 14, 13, 12, 11, 10, 9, 5, 4, 0] (Gb n0 op0 r0 r1 x13 x12) (Kv n0 op0 r0 r1 x13 x12) o) (Gb n0 op0 r0 r1 x13 x12 s) := by
 obtain ⟨x15, x14, x11'⟩ := s
 unfold B3 at h
 try dsimp only at h
 conv => whnf
 refine Br.od h (fun p7 h => ?_) (fun p7 h => ?_)
 ·conv => whnf
  refine Ask.o h fun p8 h => ?_
  conv => whnf
  refine Len.map ?_
  conv => whnf
  refine Ask.o h fun p9 h => ?_
  conv => whnf
  refine SetKids.one (fun _ => ⟨rfl, rfl⟩) (x14.tmod (↑r0.Tuples.length : Int)) (by first | rfl | simp only [Aa, V.fz, fzL, V.up, upL, Ab, Ac, Ad, slr, List.cons_append, List.nil_append] | simp [Aa, V.fz, fzL, V.up, upL, Ab, Ac, Ad, slr]) (by first | omega | (simp [A4] at *; omega)) ?_
  conv => whnf
  refine Ask.o h fun p10 h => ?_
  conv => whnf
  refine Ask.o h fun p11 h => ?_
  conv => whnf
  cases h; exact ⟨rfl, rfl⟩
 conv => whnf
 cases h; exact ⟨rfl, rfl⟩
noncomputable def Ch (n0 : Int) (_op0 : SOp) (r0 : SRelation) (_r1 : List (ByteArray × Bool)) (_x13 : Int) (_x12 : List Int) (q12_11 : List Int) (x58 : Int) (_x12' : List Int) : (Int × Int) → Option ((Int × Int) ⊕ Int) := fun (x63, x17) =>
 if x63 < (↑q12_11.length : Int) then
 ask ((0 : Int) ≤ x63 ∧ x63 < (↑q12_11.length : Int)) <|
 ask (InI (x17 * n0)) <|
 ask ((0 : Int) ≤ nth q12_11 x63.toNat ∧ nth q12_11 x63.toNat < (↑r0.Tuples.length : Int)) <|
 ask ((0 : Int) ≤ x58 ∧ x58 < (↑(nth r0.Tuples (nth q12_11 x63.toNat).toNat).length : Int)) <|
 ask (InI (x17 * n0 + nth (nth r0.Tuples (nth q12_11 x63.toNat).toNat) x58.toNat)) <|
 ask (InI (x63 + (1 : Int))) <|
 some (.inl (x63 + (1 : Int), x17 * n0 + nth (nth r0.Tuples (nth q12_11 x63.toNat).toNat) x58.toNat))
 else
 some (.inr x17)
def F2 (n0 : Int) (op0 : SOp) (r0 : SRelation) (r1 : List (ByteArray × Bool)) (x13 : Int) (x12 : List Int) (q12_11 : List Int) (x58 : Int) (x12' : List Int) : (Int × Int) → St := fun s => [(63, A.val (Af s.1)), (62, A.val (Af ((↑q12_11.length : Int)))), (61, A.ref 11 []), (17, A.val (Af s.2)), (16, A.val (Af (x58))), (58, A.val (Af (x58))), (57, A.val (Af ((↑x12.length : Int)))), (13, A.val (Af (x13))), (12, A.val ((slr true 1 Af) (x12'))), (11, A.val ((slr true 1 Af) (q12_11))), (10, A.val (Af ((↑r0.Tuples.length : Int)))), (9, A.val ((rMp true Lf.bool) (r1))), (5, A.val ((rP true (Am false)) (r0))), (4, A.val ((rP true (Aj false)) (op0))), (0, A.val (Af (n0)))]
def Kg (n0 : Int) (op0 : SOp) (r0 : SRelation) (r1 : List (ByteArray × Bool)) (x13 : Int) (x12 : List Int) (q12_11 : List Int) (x58 : Int) (x12' : List Int) : Int → Tgt
 | s => ((Ex.exit 6), [17, 16, 58, 57, 13, 12, 11, 10, 9, 5, 4, 0], [(17, A.val (Af s)), (16, A.val (Af (x58))), (58, A.val (Af (x58))), (57, A.val (Af ((↑x12.length : Int)))), (13, A.val (Af (x13))), (12, A.val ((slr true 1 Af) (x12'))), (11, A.val ((slr true 1 Af) (q12_11))), (10, A.val (Af ((↑r0.Tuples.length : Int)))), (9, A.val ((rMp true Lf.bool) (r1))), (5, A.val ((rP true (Am false)) (r0))), (4, A.val ((rP true (Aj false)) (op0))), (0, A.val (Af (n0)))])
theorem R0 {n0 : Int} {op0 : SOp} {r0 : SRelation} {r1 : List (ByteArray × Bool)} {x13 : Int} {x12 : List Int} {q12_11 : List Int} {x58 : Int} {x12' : List Int} (s : (Int × Int)) (o : (Int × Int) ⊕ Int) (h : Ch n0 op0 r0 r1 x13 x12 q12_11 x58 x12' s = some o) : vc Try.prog Kn (Dx [63, 62, 61, 17, 16, 58, 57, 13, 12, 11, 10, 9, 5, 4, 0] (F2 n0 op0 r0 r1 x13 x12 q12_11 x58 x12') (Kg n0 op0 r0 r1 x13 x12 q12_11 x58 x12') o) (F2 n0 op0 r0 r1 x13 x12 q12_11 x58 x12' s) := by
 obtain ⟨x63, x17⟩ := s
 unfold Ch at h
 try dsimp only at h
 conv => whnf
 refine Br.od h (fun p14 h => ?_) (fun p14 h => ?_)
 ·conv => whnf
  refine Len.map ?_
  conv => whnf
  refine Ask.o h fun p15 h => ?_
  conv => whnf
  refine Cells.one (fun _ => ⟨rfl, rfl⟩) (by first | omega | (simp [A4] at *; omega)) ?_
  conv => whnf
  refine Ask.o h fun p16 h => ?_
  conv => whnf
  refine Cells.lit rfl rfl ?_
  conv => whnf
  refine Len.map ?_
  conv => whnf
  refine Ask.o h fun p17 h => ?_
  conv => whnf
  refine Elem.o (by first | omega | (simp [A4] at *; omega)) ?_
  conv => whnf
  refine Len.map ?_
  conv => whnf
  refine Ask.o h fun p18 h => ?_
  conv => whnf
  refine Elem.o (by first | omega | (simp [A4] at *; omega)) ?_
  conv => whnf
  refine Ask.o h fun p19 h => ?_
  conv => whnf
  refine Ask.o h fun p20 h => ?_
  conv => whnf
  cases h; exact ⟨rfl, rfl⟩
 conv => whnf
 cases h; exact ⟨rfl, rfl⟩
noncomputable def Bn (n0 : Int) (op0 : SOp) (r0 : SRelation) (r1 : List (ByteArray × Bool)) (x13 : Int) (x12 : List Int) (q12_11 : List Int) : (Int × (List Int)) → Option ((Int × (List Int)) ⊕ (List Int)) := fun (x58, x12') =>
 if x58 < (↑x12.length : Int) then
 (Ap (Ch n0 op0 r0 r1 x13 x12 q12_11 x58 x12') ((0 : Int), (0 : Int))).bind fun q21_17 =>
 ask ((0 : Int) ≤ q21_17 ∧ q21_17 < (↑op0.Table.length : Int)) <|
 ask ((0 : Int) ≤ x58 ∧ x58 < (↑x12'.length : Int)) <|
 ask (InI (x58 + (1 : Int))) <|
 some (.inl (x58 + (1 : Int), x12'.set x58.toNat (nth op0.Table q21_17.toNat)))
 else
 some (.inr x12')
def Gf (n0 : Int) (op0 : SOp) (r0 : SRelation) (r1 : List (ByteArray × Bool)) (x13 : Int) (x12 : List Int) (q12_11 : List Int) : (Int × (List Int)) → St := fun s => [(58, A.val (Af s.1)), (57, A.val (Af ((↑x12.length : Int)))), (13, A.val (Af (x13))), (12, A.val ((slr true 1 Af) s.2)), (11, A.val ((slr true 1 Af) (q12_11))), (10, A.val (Af ((↑r0.Tuples.length : Int)))), (9, A.val ((rMp true Lf.bool) (r1))), (5, A.val ((rP true (Am false)) (r0))), (4, A.val ((rP true (Aj false)) (op0))), (0, A.val (Af (n0)))]
def Kp (n0 : Int) (op0 : SOp) (r0 : SRelation) (r1 : List (ByteArray × Bool)) (x13 : Int) (_x12 : List Int) (q12_11 : List Int) : (List Int) → Tgt
 | s => ((Ex.exit 4), [13, 12, 11, 10, 9, 5, 4, 0], [(13, A.val (Af (x13))), (12, A.val ((slr true 1 Af) s)), (11, A.val ((slr true 1 Af) (q12_11))), (10, A.val (Af ((↑r0.Tuples.length : Int)))), (9, A.val ((rMp true Lf.bool) (r1))), (5, A.val ((rP true (Am false)) (r0))), (4, A.val ((rP true (Aj false)) (op0))), (0, A.val (Af (n0)))])
theorem R2 {n0 : Int} {op0 : SOp} {r0 : SRelation} {r1 : List (ByteArray × Bool)} {x13 : Int} {x12 : List Int} {q12_11 : List Int} (s : (Int × (List Int))) (o : (Int × (List Int)) ⊕ (List Int)) (h : Bn n0 op0 r0 r1 x13 x12 q12_11 s = some o) : vc Try.prog Kd (Dx [58, 57, 13, 12, 11, 10, 9, 5, 4, 0] (Gf n0 op0 r0 r1 x13 x12 q12_11) (Kp n0 op0 r0 r1 x13 x12 q12_11) o) (Gf n0 op0 r0 r1 x13 x12 q12_11 s) := by
 obtain ⟨x58, x12'⟩ := s
 unfold Bn at h
 try dsimp only at h
 conv => whnf
 refine Br.od h (fun p13 h => ?_) (fun p13 h => ?_)
 ·conv => whnf
  refine Len.map ?_
  conv => whnf
  refine LoopQ.o [63, 62, 61, 17, 16, 58, 57, 13, 12, 11, 10, 9, 5, 4, 0] (F2 n0 op0 r0 r1 x13 x12 q12_11 x58 x12') (Kg n0 op0 r0 r1 x13 x12 q12_11 x58 x12') h (fun s o h => R0 s o h) (by first | rfl | simp [restrict, look, Aa, V.fz, fzL, V.up, upL, Ab, Ac, Ad, slr]) (fun _ => rfl) ?_
  rintro q21_17 h
  try dsimp only at h
  conv => whnf
  refine Cells.lit rfl rfl ?_
  conv => whnf
  refine Len.map ?_
  conv => whnf
  refine Ask.o h fun p22 h => ?_
  conv => whnf
  refine Elem.o (by first | omega | (simp [A4] at *; omega)) ?_
  conv => whnf
  refine Len.map ?_
  conv => whnf
  refine Ask.o h fun p23 h => ?_
  conv => whnf
  refine SetKids.one (fun _ => ⟨rfl, rfl⟩) (nth op0.Table q21_17.toNat) (by first | rfl | simp only [Aa, V.fz, fzL, V.up, upL, Ab, Ac, Ad, slr, List.cons_append, List.nil_append] | simp [Aa, V.fz, fzL, V.up, upL, Ab, Ac, Ad, slr]) (by first | omega | (simp [A4] at *; omega)) ?_
  conv => whnf
  refine Ask.o h fun p24 h => ?_
  conv => whnf
  cases h; exact ⟨rfl, rfl⟩
 conv => whnf
 cases h; exact ⟨rfl, rfl⟩
noncomputable def Bi (n0 : Int) (op0 : SOp) (r0 : SRelation) (r1 : List (ByteArray × Bool)) : (Int × (List Int) × (List Int)) → Option ((Int × (List Int) × (List Int)) ⊕ (((List Int) × (List Int)) ⊕ Unit)) := fun (x13, x12, x11) =>
 (Cu ((↑r0.Tuples.length : Int)) (op0.Arity)).bind fun r4 =>
 if x13 < r4 then
 ask (InI (op0.Arity - (1 : Int))) <|
 (Ap (B3 n0 op0 r0 r1 x13 x12) (op0.Arity - (1 : Int), x13, x11)).bind fun q12_11 =>
 (Ap (Bn n0 op0 r0 r1 x13 x12 q12_11) ((0 : Int), x12)).bind fun q25_12 =>
 (Gw (q25_12)).bind fun r26 =>
 if ((Ea r1 r26).getD false) = true then
 ask (InI (x13 + (1 : Int))) <|
 some (.inl (x13 + (1 : Int), q25_12, q12_11))
 else
 some (.inr (.inl (q25_12, q12_11)))
 else
 some (.inr (.inr ()))
def Gk (n0 : Int) (op0 : SOp) (r0 : SRelation) (r1 : List (ByteArray × Bool)) : (Int × (List Int) × (List Int)) → St := fun s => [(13, A.val (Af s.1)), (12, A.val ((slr true 1 Af) s.2.1)), (11, A.val ((slr true 1 Af) s.2.2)), (10, A.val (Af ((↑r0.Tuples.length : Int)))), (9, A.val ((rMp true Lf.bool) (r1))), (5, A.val ((rP true (Am false)) (r0))), (4, A.val ((rP true (Aj false)) (op0))), (0, A.val (Af (n0)))]
def J9 (_n0 : Int) (_op0 : SOp) (_r0 : SRelation) (_r1 : List (ByteArray × Bool)) : (((List Int) × (List Int)) ⊕ Unit) → Tgt
 | (.inl s) => (Ex.ret, [8, 7, 6], [(8, A.val (V.bool (true))), (7, A.val ((slr true 1 Af) s.1)), (6, A.val ((slr true 1 Af) s.2))])
 | (.inr _s) => ((Ex.exit 0), [], [])
theorem R1 {n0 : Int} {op0 : SOp} {r0 : SRelation} {r1 : List (ByteArray × Bool)} (s : (Int × (List Int) × (List Int))) (o : (Int × (List Int) × (List Int)) ⊕ (((List Int) × (List Int)) ⊕ Unit)) (h : Bi n0 op0 r0 r1 s = some o) : vc Try.prog Kk (Dx [13, 12, 11, 10, 9, 5, 4, 0] (Gk n0 op0 r0 r1) (J9 n0 op0 r0 r1) o) (Gk n0 op0 r0 r1 s) := by
 obtain ⟨x13, x12, x11⟩ := s
 unfold Bi at h
 try dsimp only at h
 conv => whnf
 refine Cells.lit rfl rfl ?_
 conv => whnf
 refine CallQ.o Af (by first | rfl | simp only [Aa, V.fz, fzL, V.up, upL, Ab, Ac, Ad, slr, List.cons_append, List.nil_append] | simp [Aa, V.fz, fzL, V.up, upL, Ab, Ac, Ad, slr]) h (fun r h => Lv h) (fun r4 h => ?_)
 conv => whnf
 refine Br.od h (fun p5 h => ?_) (fun p5 h => ?_)
 ·conv => whnf
  refine Cells.lit rfl rfl ?_
  conv => whnf
  refine Ask.o h fun p6 h => ?_
  conv => whnf
  refine LoopQ.o [15, 14, 13, 12, 11, 10, 9, 5, 4, 0] (Gb n0 op0 r0 r1 x13 x12) (Kv n0 op0 r0 r1 x13 x12) h (fun s o h => Q2 s o h) (by first | rfl | simp [restrict, look, Aa, V.fz, fzL, V.up, upL, Ab, Ac, Ad, slr]) (fun _ => rfl) ?_
  rintro q12_11 h
  try dsimp only at h
  conv => whnf
  refine Len.map ?_
  conv => whnf
  refine LoopQ.o [58, 57, 13, 12, 11, 10, 9, 5, 4, 0] (Gf n0 op0 r0 r1 x13 x12 q12_11) (Kp n0 op0 r0 r1 x13 x12 q12_11) h (fun s o h => R2 s o h) (by first | rfl | simp [restrict, look, Aa, V.fz, fzL, V.up, upL, Ab, Ac, Ad, slr]) (fun _ => rfl) ?_
  rintro q25_12 h
  try dsimp only at h
  conv => whnf
  refine CallQ.rd V.str (by first | rfl | simp only [V.fz, Ab, slr] | simp [Aa, V.fz, fzL, V.up, upL, Ab, Ac, Ad, slr]) (fun _ => rfl) h (fun r h => U3 h) (fun r26 h => ?_)
  conv => whnf
  refine LkQ.one Lf.bool V.bool r1 (false) (by first | rfl | simp [Bl]) rfl (fun _ => rfl) ?_
  conv => whnf
  refine Br.flip ?_
  conv => whnf
  refine Br.ob h (fun p27 h => ?_) (fun p27 h => ?_)
  ·conv => whnf
   refine Ask.o h fun p28 h => ?_
   conv => whnf
   cases h; exact ⟨rfl, rfl⟩
  conv => whnf
  cases h; exact ⟨rfl, rfl⟩
 conv => whnf
 cases h; exact ⟨rfl, rfl⟩
noncomputable def En (n0 : Int) (op0 : SOp) (r0 : SRelation) : Option ((List Int) × (List Int) × Bool) :=
 (Fg (r0)).bind fun r1 =>
 ask ((0 : Int) ≤ op0.Arity ∧ op0.Arity ≤ (↑LIM : Int)) <|
 ask ((0 : Int) ≤ r0.Arity ∧ r0.Arity ≤ (↑LIM : Int)) <|
 (Ap (Bi n0 op0 r0 r1) ((0 : Int), List.replicate r0.Arity.toNat (0 : Int), List.replicate op0.Arity.toNat (0 : Int))).bind fun t => match t with
 | (.inl (q29_7, q29_6)) => (some (q29_6, q29_7, true))
 | (.inr _) => (some (Bl Int, Bl Int, false))
theorem Vh {n0 : Int} {op0 : SOp} {r0 : SRelation} {v : ((List Int) × (List Int) × Bool)} (h : En n0 op0 r0 = some v) : Ret Try.prog I3 [Af n0, (Aj false) op0, (Am false) r0] ((fun r => V.tup [(slr true 1 Af) r.1, (slr true 1 Af) r.2.1, V.bool r.2.2]) v) := by
 refine A5 V3 (Nat.le_of_ble_eq_true rfl) ?_
 unfold En at h
 conv => whnf
 refine Cells.lit rfl rfl ?_
 conv => whnf
 refine CallQ.o (rMp true Lf.bool) (by first | rfl | simp only [Aa, V.fz, fzL, V.up, upL, Ab, Ac, Ad, slr, List.cons_append, List.nil_append] | simp [Aa, V.fz, fzL, V.up, upL, Ab, Ac, Ad, slr]) h (fun r h => Yo h) (fun r1 h => ?_)
 conv => whnf
 refine Cells.lit rfl rfl ?_
 conv => whnf
 refine Len.map ?_
 conv => whnf
 refine Cells.lit rfl rfl ?_
 conv => whnf
 refine Ask.o h fun p2 h => ?_
 conv => whnf
 refine MkQ.o Af ((0 : Int)) rfl ?_
 conv => whnf
 refine Cells.lit rfl rfl ?_
 conv => whnf
 refine Ask.o h fun p3 h => ?_
 conv => whnf
 refine MkQ.o Af ((0 : Int)) rfl ?_
 conv => whnf
 refine LoopQ.o [13, 12, 11, 10, 9, 5, 4, 0] (Gk n0 op0 r0 r1) (J9 n0 op0 r0 r1) h (fun s o h => R1 s o h) (by first | rfl | simp [restrict, look, Aa, V.fz, fzL, V.up, upL, Ab, Ac, Ad, slr]) (by rintro (_ | _) <;> rfl) ?_
 rintro (⟨q29_7, q29_6⟩ | ⟨⟩) h
 ·try dsimp only at h
  conv => whnf
  cases h; exact (by first | rfl | simp only [Ah, Aa, V.fz, fzL, V.up, upL, Ab, Ac, Ad, slr] | simp [Ah, Aa, V.fz, fzL, V.up, upL, Ab, Ac, Ad, slr])
 try dsimp only at h
 conv => whnf
 cases h; exact (by first | rfl | simp only [Ah, Aa, V.fz, fzL, V.up, upL, Ab, Ac, Ad, slr] | simp [Ah, Aa, V.fz, fzL, V.up, upL, Ab, Ac, Ad, slr])
noncomputable def B5 (a0 : SAlgebra) : Int → Option (Int ⊕ (Unit ⊕ Unit)) := fun x22 =>
 if x22 < (↑a0.Ops.length : Int) then
 ask ((0 : Int) ≤ x22 ∧ x22 < (↑a0.Ops.length : Int)) <|
 (El (nth a0.Ops x22.toNat) (a0.Size)).bind fun r7 =>
 if (r7) = true then
 ask (InI (x22 + (1 : Int))) <|
 some (.inl (x22 + (1 : Int)))
 else
 some (.inr (.inl ()))
 else
 some (.inr (.inr ()))
def G6 (a0 : SAlgebra) : Int → St := fun s => [(22, A.val (Af s)), (21, A.val (Af ((↑a0.Ops.length : Int)))), (20, A.val ((slr false 2 (Aj false)) (a0.Ops))), (1, A.val ((rP true (Ai false)) (a0)))]
def Lq (_a0 : SAlgebra) : (Unit ⊕ Unit) → Tgt
 | (.inl _s) => (Ex.ret, [2], [(2, A.val (V.bool (false)))])
 | (.inr _s) => ((Ex.exit 0), [], [])
theorem Su {a0 : SAlgebra} (x22 : Int) (o : Int ⊕ (Unit ⊕ Unit)) (h : B5 a0 x22 = some o) : vc Try.prog Lr (Dx [22, 21, 20, 1] (G6 a0) (Lq a0) o) (G6 a0 x22) := by
 unfold B5 at h
 try dsimp only at h
 conv => whnf
 refine Br.od h (fun p5 h => ?_) (fun p5 h => ?_)
 ·conv => whnf
  refine Len.map ?_
  conv => whnf
  refine Ask.o h fun p6 h => ?_
  conv => whnf
  refine Elem.o (by first | omega | (simp [A4] at *; omega)) ?_
  conv => whnf
  refine SetKids.lit rfl ?_
  conv => whnf
  refine Cells.lit rfl rfl ?_
  conv => whnf
  refine Cells.lit rfl rfl ?_
  conv => whnf
  refine CallQ.o V.bool (by first | rfl | simp only [Aa, V.fz, fzL, V.up, upL, Ab, Ac, Ad, slr, List.cons_append, List.nil_append] | simp [Aa, V.fz, fzL, V.up, upL, Ab, Ac, Ad, slr]) h (fun r h => Ks h) (fun r7 h => ?_)
  conv => whnf
  refine Br.flip ?_
  conv => whnf
  refine Br.ob h (fun p8 h => ?_) (fun p8 h => ?_)
  ·conv => whnf
   refine Ask.o h fun p9 h => ?_
   conv => whnf
   cases h; exact ⟨rfl, rfl⟩
  conv => whnf
  cases h; exact ⟨rfl, rfl⟩
 conv => whnf
 cases h; exact ⟨rfl, rfl⟩
noncomputable def Cn (a0 : SAlgebra) : Option Bool :=
 ((if a0.Size < (1 : Int) then
 some (.inl ())
 else
 if a0.Size > (8 : Int) then
 some (.inl ())
 else
 if (↑a0.Ops.length : Int) > (4 : Int) then
 some (.inl ())
 else
 some (.inr ()) : Option (Unit ⊕ Unit))).bind fun t => match t with
 | (.inl _) => (some false)
 | (.inr _) => ((Ap (B5 a0) (0 : Int)).bind fun t => match t with
 | (.inl _) => (some false)
 | (.inr _) => (some true))
theorem G0 {a0 : SAlgebra} {v : Bool} (h : Cn a0 = some v) : Ret Try.prog D3 [(Ai false) a0] (V.bool v) := by
 refine A5 Wl (Nat.le_of_ble_eq_true rfl) ?_
 unfold Cn at h
 conv => whnf
 refine CutQ.o (fun t : (Unit ⊕ Unit) => match t with | (.inl s) => (Ex.ret, [2], [(2, A.val (V.bool (false)))]) | (.inr s) => (Ex.normal, [1], [(1, A.val ((rP true (Ai false)) (a0)))])) h ?_ ?_
 ·intro t h
  conv => whnf
  refine Cells.lit rfl rfl ?_
  conv => whnf
  refine Br.od h (fun p1 h => ?_) (fun p1 h => ?_)
  ·conv => whnf
   refine Br.yes ?_
   conv => whnf
   refine Br.yes ?_
   conv => whnf
   refine Br.yes ?_
   conv => whnf
   refine Br.yes ?_
   conv => whnf
   refine Br.yes ?_
   conv => whnf
   refine Br.yes ?_
   conv => whnf
   refine Br.yes ?_
   conv => whnf
   refine Br.yes ?_
   conv => whnf
   refine Br.yes ?_
   conv => whnf
   cases h; exact ⟨rfl, rfl⟩
  conv => whnf
  refine Br.no ?_
  conv => whnf
  refine Cells.lit rfl rfl ?_
  conv => whnf
  refine Br.no ?_
  conv => whnf
  refine Br.no ?_
  conv => whnf
  refine Br.od h (fun p2 h => ?_) (fun p2 h => ?_)
  ·conv => whnf
   refine Br.yes ?_
   conv => whnf
   refine Br.yes ?_
   conv => whnf
   refine Br.yes ?_
   conv => whnf
   refine Br.yes ?_
   conv => whnf
   refine Br.yes ?_
   conv => whnf
   cases h; exact ⟨rfl, rfl⟩
  conv => whnf
  refine Br.no ?_
  conv => whnf
  refine Cells.lit rfl rfl ?_
  conv => whnf
  refine Br.no ?_
  conv => whnf
  refine Len.map ?_
  conv => whnf
  refine Br.no ?_
  conv => whnf
  refine Br.no ?_
  conv => whnf
  refine Br.od h (fun p3 h => ?_) (fun p3 h => ?_)
  ·conv => whnf
   cases h; exact ⟨rfl, rfl⟩
  conv => whnf
  cases h; exact ⟨rfl, rfl⟩
 rintro (⟨⟩ | ⟨⟩) h
 ·try dsimp only at h
  conv => whnf
  cases h; exact (by first | rfl | simp only [Ah, Aa, V.fz, fzL, V.up, upL, Ab, Ac, Ad, slr] | simp [Ah, Aa, V.fz, fzL, V.up, upL, Ab, Ac, Ad, slr])
 try dsimp only at h
 conv => whnf
 refine Cells.lit rfl rfl ?_
 conv => whnf
 refine Len.map ?_
 conv => whnf
 refine LoopQ.o [22, 21, 20, 1] (G6 a0) (Lq a0) h (fun s o h => Su s o h) (by first | rfl | simp [restrict, look, Aa, V.fz, fzL, V.up, upL, Ab, Ac, Ad, slr]) (by rintro (_ | _) <;> rfl) ?_
 rintro (⟨⟩ | ⟨⟩) h
 ·try dsimp only at h
  conv => whnf
  cases h; exact (by first | rfl | simp only [Ah, Aa, V.fz, fzL, V.up, upL, Ab, Ac, Ad, slr] | simp [Ah, Aa, V.fz, fzL, V.up, upL, Ab, Ac, Ad, slr])
 try dsimp only at h
 conv => whnf
 cases h; exact (by first | rfl | simp only [Ah, Aa, V.fz, fzL, V.up, upL, Ab, Ac, Ad, slr] | simp [Ah, Aa, V.fz, fzL, V.up, upL, Ab, Ac, Ad, slr])
noncomputable def E8 (n0 : Int) (r0 : SRelation) : Option Bool :=
 (Fo (n0)).bind fun r1 =>
 if (r1) = true then
 (Em (n0) (r0)).bind fun r3 =>
 some r3
 else
 some false
theorem Tq {n0 : Int} {r0 : SRelation} {v : Bool} (h : E8 n0 r0 = some v) : Ret Try.prog Hs [Af n0, (Am false) r0] (V.bool v) := by
 refine A5 Tw (Nat.le_of_ble_eq_true rfl) ?_
 unfold E8 at h
 conv => whnf
 refine CallQ.o V.bool (by first | rfl | simp only [Aa, V.fz, fzL, V.up, upL, Ab, Ac, Ad, slr, List.cons_append, List.nil_append] | simp [Aa, V.fz, fzL, V.up, upL, Ab, Ac, Ad, slr]) h (fun r h => Tj h) (fun r1 h => ?_)
 conv => whnf
 refine Br.ob h (fun p2 h => ?_) (fun p2 h => ?_)
 ·conv => whnf
  refine Br.yes ?_
  conv => whnf
  refine Cells.lit rfl rfl ?_
  conv => whnf
  refine Br.yes ?_
  conv => whnf
  refine CallQ.o V.bool (by first | rfl | simp only [Aa, V.fz, fzL, V.up, upL, Ab, Ac, Ad, slr, List.cons_append, List.nil_append] | simp [Aa, V.fz, fzL, V.up, upL, Ab, Ac, Ad, slr]) h (fun r h => Vq h) (fun r3 h => ?_)
  conv => whnf
  refine Br.yes ?_
  conv => whnf
  cases h; exact (by first | rfl | simp only [Ah, Aa, V.fz, fzL, V.up, upL, Ab, Ac, Ad, slr] | simp [Ah, Aa, V.fz, fzL, V.up, upL, Ab, Ac, Ad, slr])
 conv => whnf
 refine Br.no ?_
 conv => whnf
 refine Br.no ?_
 conv => whnf
 refine Br.no ?_
 conv => whnf
 cases h; exact (by first | rfl | simp only [Ah, Aa, V.fz, fzL, V.up, upL, Ab, Ac, Ad, slr] | simp [Ah, Aa, V.fz, fzL, V.up, upL, Ab, Ac, Ad, slr])
noncomputable def Ib (a0 : SAlgebra) (b0 : SAlgebra) (f0 : (List Int)) : Option Bool :=
 if (↑f0.length : Int) = a0.Size then
 (Eo (b0.Size) (f0)).bind fun r2 =>
 some r2
 else
 some false
theorem Ags {a0 : SAlgebra} {b0 : SAlgebra} {f0 : (List Int)} {v : Bool} (h : Ib a0 b0 f0 = some v) : Ret Try.prog Qd [(Ai false) a0, (Ai false) b0, (slr false 1 Af) f0] (V.bool v) := by
 refine A5 Aez (Nat.le_of_ble_eq_true rfl) ?_
 unfold Ib at h
 conv => whnf
 refine Len.map ?_
 conv => whnf
 refine Cells.lit rfl rfl ?_
 conv => whnf
 refine Br.oe h (fun p1 h => ?_) (fun p1 h => ?_)
 ·conv => whnf
  refine Br.yes ?_
  conv => whnf
  refine Cells.lit rfl rfl ?_
  conv => whnf
  refine Br.yes ?_
  conv => whnf
  refine Br.yes ?_
  conv => whnf
  refine CallQ.o V.bool (by first | rfl | simp only [Aa, V.fz, fzL, V.up, upL, Ab, Ac, Ad, slr, List.cons_append, List.nil_append] | simp [Aa, V.fz, fzL, V.up, upL, Ab, Ac, Ad, slr]) h (fun r h => Vy h) (fun r2 h => ?_)
  conv => whnf
  refine Br.yes ?_
  conv => whnf
  cases h; exact (by first | rfl | simp only [Ah, Aa, V.fz, fzL, V.up, upL, Ab, Ac, Ad, slr] | simp [Ah, Aa, V.fz, fzL, V.up, upL, Ab, Ac, Ad, slr])
 conv => whnf
 refine Br.no ?_
 conv => whnf
 refine Br.no ?_
 conv => whnf
 refine Br.no ?_
 conv => whnf
 refine Br.no ?_
 conv => whnf
 cases h; exact (by first | rfl | simp only [Ah, Aa, V.fz, fzL, V.up, upL, Ab, Ac, Ad, slr] | simp [Ah, Aa, V.fz, fzL, V.up, upL, Ab, Ac, Ad, slr])
end Go.Proofs.Ytcpgnfohmeineaa.Ax
