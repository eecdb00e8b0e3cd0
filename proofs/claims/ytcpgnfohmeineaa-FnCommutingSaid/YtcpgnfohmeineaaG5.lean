/-
 What the functions compute, as functions on plain data, and that the program does compute it; written by program.
-/
import Derived.Test.YtcpgnfohmeineaaCode
import Derived.Test.YtcpgnfohmeineaaG1
import Derived.Test.YtcpgnfohmeineaaG2
import Derived.Test.YtcpgnfohmeineaaG3
namespace Go.Proofs.Ytcpgnfohmeineaa.Ax
open Go
set_option maxRecDepth 100000
set_option maxHeartbeats 4000000
noncomputable def Jy (a0 : SAlgebra) (b0 : SAlgebra) : Option Bool :=
 (Fl (a0)).bind fun r1 =>
 (Fl (b0)).bind fun r2 =>
 (Hc (r1) (r2)).bind fun r3 =>
 some r3
theorem Ac4 {a0 : SAlgebra} {b0 : SAlgebra} {v : Bool} (h : Jy a0 b0 = some v) : Ret Try.prog N9 [(Ai false) a0, (Ai false) b0] (V.bool v) := by
 refine A5 Adk (Nat.le_of_ble_eq_true rfl) ?_
 unfold Jy at h
 conv => whnf
 refine Cells.lit rfl rfl ?_
 conv => whnf
 refine CallP.o (slr true 1 Af) (by first | rfl | simp only [Aa, V.fz, fzL, V.up, upL, Ab, Ac, Ad, slr, List.cons_append, List.nil_append] | simp [Aa, V.fz, fzL, V.up, upL, Ab, Ac, Ad, slr]) h (fun r h => S5 h) (fun r1 h => ?_)
 conv => whnf
 refine Cells.lit rfl rfl ?_
 conv => whnf
 refine CallQ.o (slr true 1 Af) (by first | rfl | simp only [Aa, V.fz, fzL, V.up, upL, Ab, Ac, Ad, slr, List.cons_append, List.nil_append] | simp [Aa, V.fz, fzL, V.up, upL, Ab, Ac, Ad, slr]) h (fun r h => S5 h) (fun r2 h => ?_)
 conv => whnf
 refine CallQ.rd V.bool (by first | rfl | simp only [V.fz, Ab, slr] | simp [Aa, V.fz, fzL, V.up, upL, Ab, Ac, Ad, slr]) (fun _ => rfl) h (fun r h => Adi h) (fun r3 h => ?_)
 conv => whnf
 cases h; exact (by first | rfl | simp only [Ah, Aa, V.fz, fzL, V.up, upL, Ab, Ac, Ad, slr] | simp [Ah, Aa, V.fz, fzL, V.up, upL, Ab, Ac, Ad, slr])
noncomputable def Ds (a0 : SAlgebra) (b0 : SAlgebra) (f0 : List Int) (x9 : Int) : Int → Option (Int ⊕ ((List Int) ⊕ Unit)) := fun x10 =>
 ask ((0 : Int) ≤ x9 ∧ x9 < (↑a0.Ops.length : Int)) <|
 if x10 < (↑(nth a0.Ops x9.toNat).Table.length : Int) then
 ask ((0 : Int) ≤ x9 ∧ x9 < (↑a0.Ops.length : Int)) <|
 (B8 (a0.Size) ((nth a0.Ops x9.toNat).Arity) (x10)).bind fun r5 =>
 ask ((0 : Int) ≤ x9 ∧ x9 < (↑a0.Ops.length : Int)) <|
 ask ((0 : Int) ≤ x10 ∧ x10 < (↑(nth a0.Ops x9.toNat).Table.length : Int)) <|
 ask ((0 : Int) ≤ nth (nth a0.Ops x9.toNat).Table x10.toNat ∧ nth (nth a0.Ops x9.toNat).Table x10.toNat < (↑f0.length : Int)) <|
 (Fh (f0) (r5)).bind fun r9 =>
 (Ge (b0) (x9) (r9)).bind fun r10 =>
 if nth f0 (nth (nth a0.Ops x9.toNat).Table x10.toNat).toNat ≠ r10 then
 some (.inr (.inl r5))
 else
 ask (InI (x10 + (1 : Int))) <|
 some (.inl (x10 + (1 : Int)))
 else
 some (.inr (.inr ()))
def Ia (a0 : SAlgebra) (b0 : SAlgebra) (f0 : List Int) (x9 : Int) : Int → St := fun s => [(10, A.val (Af s)), (9, A.val (Af (x9))), (4, A.val ((rP true (Ai false)) (b0))), (3, A.val ((rP true (Ai false)) (a0))), (2, A.val ((slr false 1 Af) (f0)))]
def Nm (a0 : SAlgebra) (b0 : SAlgebra) (f0 : List Int) (x9 : Int) : ((List Int) ⊕ Unit) → Tgt
 | (.inl s) => (Ex.ret, [8, 7, 6], [(8, A.val (V.bool (true))), (7, A.val ((slr true 1 Af) s)), (6, A.val (Af (x9)))])
 | (.inr _s) => ((Ex.exit 2), [9, 4, 3, 2], [(9, A.val (Af (x9))), (4, A.val ((rP true (Ai false)) (b0))), (3, A.val ((rP true (Ai false)) (a0))), (2, A.val ((slr false 1 Af) (f0)))])
theorem Vo {a0 : SAlgebra} {b0 : SAlgebra} {f0 : List Int} {x9 : Int} (x10 : Int) (o : Int ⊕ ((List Int) ⊕ Unit)) (h : Ds a0 b0 f0 x9 x10 = some o) : vc Try.prog N0 (Dx [10, 9, 4, 3, 2] (Ia a0 b0 f0 x9) (Nm a0 b0 f0 x9) o) (Ia a0 b0 f0 x9 x10) := by
 unfold Ds at h
 try dsimp only at h
 conv => whnf
 refine Cells.lit rfl rfl ?_
 conv => whnf
 refine Len.map ?_
 conv => whnf
 refine Ask.o h fun p2 h => ?_
 conv => whnf
 refine Elem.o (by first | omega | (simp [A4] at *; omega)) ?_
 conv => whnf
 refine Len.map ?_
 conv => whnf
 refine Br.od h (fun p3 h => ?_) (fun p3 h => ?_)
 ·conv => whnf
  refine Cells.lit rfl rfl ?_
  conv => whnf
  refine Cells.lit rfl rfl ?_
  conv => whnf
  refine Len.map ?_
  conv => whnf
  refine Ask.o h fun p4 h => ?_
  conv => whnf
  refine Elem.o (by first | omega | (simp [A4] at *; omega)) ?_
  conv => whnf
  refine CallQ.o (slr true 1 Af) (by first | rfl | simp only [Aa, V.fz, fzL, V.up, upL, Ab, Ac, Ad, slr, List.cons_append, List.nil_append] | simp [Aa, V.fz, fzL, V.up, upL, Ab, Ac, Ad, slr]) h (fun r h => Jt h) (fun r5 h => ?_)
  conv => whnf
  refine Cells.lit rfl rfl ?_
  conv => whnf
  refine Len.map ?_
  conv => whnf
  refine Ask.o h fun p6 h => ?_
  conv => whnf
  refine Elem.o (by first | omega | (simp [A4] at *; omega)) ?_
  conv => whnf
  refine Len.map ?_
  conv => whnf
  refine Ask.o h fun p7 h => ?_
  conv => whnf
  refine Elem.o (by first | omega | (simp [A4] at *; omega)) ?_
  conv => whnf
  refine Len.map ?_
  conv => whnf
  refine Ask.o h fun p8 h => ?_
  conv => whnf
  refine Elem.o (by first | omega | (simp [A4] at *; omega)) ?_
  conv => whnf
  refine Cells.lit rfl rfl ?_
  conv => whnf
  refine CallP.rd (slr true 1 Af) (by first | rfl | simp only [V.fz, V.up, Ab, slr] | simp [Aa, V.fz, fzL, V.up, upL, Ab, Ac, Ad, slr]) (fun _ => by simp [V.noFz, Bv]) h (fun r h => Yr h) (fun r9 h => ?_)
  conv => whnf
  refine CallP.rd Af (by first | rfl | simp only [V.fz, fzL, V.up, Ab, Ad, slr] | simp [Aa, V.fz, fzL, V.up, upL, Ab, Ac, Ad, slr]) (fun _ => rfl) h (fun r h => Abi h) (fun r10 h => ?_)
  conv => whnf
  refine Br.on h (fun p11 h => ?_) (fun p11 h => ?_)
  ·conv => whnf
   cases h; exact ⟨rfl, rfl⟩
  conv => whnf
  refine Ask.o h fun p12 h => ?_
  conv => whnf
  cases h; exact ⟨rfl, rfl⟩
 conv => whnf
 cases h; exact ⟨rfl, rfl⟩
noncomputable def Dm (a0 : SAlgebra) (b0 : SAlgebra) (f0 : List Int) : Int → Option (Int ⊕ (((List Int) × Int) ⊕ Unit)) := fun x9 =>
 if x9 < (↑a0.Ops.length : Int) then
 (Ap (Ds a0 b0 f0 x9) (0 : Int)).bind fun t => match t with
 | (.inl q13_7) => (some (.inr (.inl (q13_7, x9))))
 | (.inr _) => (ask (InI (x9 + (1 : Int))) <|
 some (.inl (x9 + (1 : Int))))
 else
 some (.inr (.inr ()))
def Ih (a0 : SAlgebra) (b0 : SAlgebra) (f0 : List Int) : Int → St := fun s => [(9, A.val (Af s)), (4, A.val ((rP true (Ai false)) (b0))), (3, A.val ((rP true (Ai false)) (a0))), (2, A.val ((slr false 1 Af) (f0)))]
def Nu (_a0 : SAlgebra) (_b0 : SAlgebra) (_f0 : List Int) : (((List Int) × Int) ⊕ Unit) → Tgt
 | (.inl s) => (Ex.ret, [8, 7, 6], [(8, A.val (V.bool (true))), (7, A.val ((slr true 1 Af) s.1)), (6, A.val (Af s.2))])
 | (.inr _s) => ((Ex.exit 0), [], [])
theorem U8 {a0 : SAlgebra} {b0 : SAlgebra} {f0 : List Int} (x9 : Int) (o : Int ⊕ (((List Int) × Int) ⊕ Unit)) (h : Dm a0 b0 f0 x9 = some o) : vc Try.prog Nr (Dx [9, 4, 3, 2] (Ih a0 b0 f0) (Nu a0 b0 f0) o) (Ih a0 b0 f0 x9) := by
 unfold Dm at h
 try dsimp only at h
 conv => whnf
 refine Cells.lit rfl rfl ?_
 conv => whnf
 refine Len.map ?_
 conv => whnf
 refine Br.od h (fun p1 h => ?_) (fun p1 h => ?_)
 ·conv => whnf
  refine LoopQ.o [10, 9, 4, 3, 2] (Ia a0 b0 f0 x9) (Nm a0 b0 f0 x9) h (fun s o h => Vo s o h) (by first | rfl | simp [restrict, look, Aa, V.fz, fzL, V.up, upL, Ab, Ac, Ad, slr]) (by rintro (_ | _) <;> rfl) ?_
  rintro (q13_7 | ⟨⟩) h
  ·try dsimp only at h
   conv => whnf
   cases h; exact ⟨rfl, rfl⟩
  try dsimp only at h
  conv => whnf
  refine Ask.o h fun p14 h => ?_
  conv => whnf
  cases h; exact ⟨rfl, rfl⟩
 conv => whnf
 cases h; exact ⟨rfl, rfl⟩
noncomputable def E1 (a0 : SAlgebra) (b0 : SAlgebra) (f0 : (List Int)) : Option (Int × (List Int) × Bool) :=
 (Ap (Dm a0 b0 f0) (0 : Int)).bind fun t => match t with
 | (.inl (q15_7, q15_6)) => (some (q15_6, q15_7, true))
 | (.inr _) => (some ((0 : Int), Bl Int, false))
theorem Abq {a0 : SAlgebra} {b0 : SAlgebra} {f0 : (List Int)} {v : (Int × (List Int) × Bool)} (h : E1 a0 b0 f0 = some v) : Ret Try.prog L7 [(Ai false) a0, (Ai false) b0, (slr false 1 Af) f0] ((fun r => V.tup [Af r.1, (slr true 1 Af) r.2.1, V.bool r.2.2]) v) := by
 refine A5 Zb (Nat.le_of_ble_eq_true rfl) ?_
 unfold E1 at h
 conv => whnf
 refine LoopQ.o [9, 4, 3, 2] (Ih a0 b0 f0) (Nu a0 b0 f0) h (fun s o h => U8 s o h) (by first | rfl | simp [restrict, look, Aa, V.fz, fzL, V.up, upL, Ab, Ac, Ad, slr]) (by rintro (_ | _) <;> rfl) ?_
 rintro (⟨q15_7, q15_6⟩ | ⟨⟩) h
 ·try dsimp only at h
  conv => whnf
  cases h; exact (by first | rfl | simp only [Ah, Aa, V.fz, fzL, V.up, upL, Ab, Ac, Ad, slr] | simp [Ah, Aa, V.fz, fzL, V.up, upL, Ab, Ac, Ad, slr])
 try dsimp only at h
 conv => whnf
 refine BslQ.o Af (Bl Int) (by exact fun _ => ⟨rfl, rfl⟩) (by first | rfl | simp only [Aa, V.fz, fzL, V.up, upL, Ab, Ac, Ad, slr, List.cons_append, List.nil_append] | simp [Aa, V.fz, fzL, V.up, upL, Ab, Ac, Ad, slr]) ?_
 conv => whnf
 cases h; exact (by first | rfl | simp only [Ah, Aa, V.fz, fzL, V.up, upL, Ab, Ac, Ad, slr] | simp [Ah, Aa, V.fz, fzL, V.up, upL, Ab, Ac, Ad, slr])
noncomputable def D9 (r0 : SRelation) : (Int × (List (ByteArray × Bool))) → Option ((Int × (List (ByteArray × Bool))) ⊕ (List (ByteArray × Bool))) := fun (x10, x3) =>
 if x10 < (↑r0.Tuples.length : Int) then
 ask ((0 : Int) ≤ x10 ∧ x10 < (↑r0.Tuples.length : Int)) <|
 (Gw (nth r0.Tuples x10.toNat)).bind fun r3 =>
 ask (InI (x10 + (1 : Int))) <|
 some (.inl (x10 + (1 : Int), I2 x3 r3 true))
 else
 some (.inr x3)
def Ho (r0 : SRelation) : (Int × (List (ByteArray × Bool))) → St := fun s => [(10, A.val (Af s.1)), (9, A.val (Af ((↑r0.Tuples.length : Int)))), (8, A.val ((slr false 1 (slr false 1 Af)) (r0.Tuples))), (3, A.val ((rMp true Lf.bool) s.2))]
def Mr (_r0 : SRelation) : (List (ByteArray × Bool)) → Tgt
 | s => ((Ex.exit 0), [3], [(3, A.val ((rMp true Lf.bool) s))])
theorem T5 {r0 : SRelation} (s : (Int × (List (ByteArray × Bool)))) (o : (Int × (List (ByteArray × Bool))) ⊕ (List (ByteArray × Bool))) (h : D9 r0 s = some o) : vc Try.prog Ms (Dx [10, 9, 8, 3] (Ho r0) (Mr r0) o) (Ho r0 s) := by
 obtain ⟨x10, x3⟩ := s
 unfold D9 at h
 try dsimp only at h
 conv => whnf
 refine Br.od h (fun p1 h => ?_) (fun p1 h => ?_)
 ·conv => whnf
  refine Len.map ?_
  conv => whnf
  refine Ask.o h fun p2 h => ?_
  conv => whnf
  refine Elem.o (by first | omega | (simp [A4] at *; omega)) ?_
  conv => whnf
  refine CallQ.o V.str (by first | rfl | simp only [Aa, V.fz, fzL, V.up, upL, Ab, Ac, Ad, slr, List.cons_append, List.nil_append] | simp [Aa, V.fz, fzL, V.up, upL, Ab, Ac, Ad, slr]) h (fun r h => U3 h) (fun r3 h => ?_)
  conv => whnf
  refine MsQ.o Lf.bool x3 true (by first | rfl | simp [Bl]) rfl ?_
  conv => whnf
  refine Ask.o h fun p4 h => ?_
  conv => whnf
  cases h; exact ⟨rfl, rfl⟩
 conv => whnf
 cases h; exact ⟨rfl, rfl⟩
noncomputable def Fg (r0 : SRelation) : Option (List (ByteArray × Bool)) :=
 (Ap (D9 r0) ((0 : Int), Bl (ByteArray × Bool))).bind fun q5_3 =>
 some q5_3
theorem Yo {r0 : SRelation} {v : (List (ByteArray × Bool))} (h : Fg r0 = some v) : Ret Try.prog Lg [(Am false) r0] ((rMp true Lf.bool) v) := by
 refine A5 Ya (Nat.le_of_ble_eq_true rfl) ?_
 unfold Fg at h
 conv => whnf
 refine Cells.lit rfl rfl ?_
 conv => whnf
 refine Len.map ?_
 conv => whnf
 refine LoopQ.o [10, 9, 8, 3] (Ho r0) (Mr r0) h (fun s o h => T5 s o h) (by first | rfl | simp [restrict, look, Aa, V.fz, fzL, V.up, upL, Ab, Ac, Ad, slr]) (fun _ => rfl) ?_
 rintro q5_3 h
 try dsimp only at h
 conv => whnf
 cases h; exact (by first | rfl | simp only [Ah, Aa, V.fz, fzL, V.up, upL, Ab, Ac, Ad, slr] | simp [Ah, Aa, V.fz, fzL, V.up, upL, Ab, Ac, Ad, slr])
noncomputable def Cz (n0 : Int) (f0 : SOp) (g0 : SOp) (_x10 : Int) (r14 : List Int) : (Int × Int) → Option ((Int × Int) ⊕ Int) := fun (x14, x12) =>
 if x14 < f0.Arity then
 ask (InI (x12 * n0)) <|
 ask (InI (x14 * g0.Arity)) <|
 ask (InI (x14 + (1 : Int))) <|
 ask (InI ((x14 + (1 : Int)) * g0.Arity)) <|
 ask (0 ≤ x14 * g0.Arity ∧ x14 * g0.Arity ≤ (x14 + (1 : Int)) * g0.Arity ∧ (x14 + (1 : Int)) * g0.Arity ≤ ((r14.length : Nat) : Int)) <|
 (Ey (List.take (((x14 + (1 : Int)) * g0.Arity).toNat - (x14 * g0.Arity).toNat) (List.drop (x14 * g0.Arity).toNat r14)) (n0)).bind fun r20 =>
 ask ((0 : Int) ≤ r20 ∧ r20 < (↑g0.Table.length : Int)) <|
 ask (InI (x12 * n0 + nth g0.Table r20.toNat)) <|
 ask (InI (x14 + (1 : Int))) <|
 some (.inl (x14 + (1 : Int), x12 * n0 + nth g0.Table r20.toNat))
 else
 some (.inr x12)
def G8 (n0 : Int) (f0 : SOp) (g0 : SOp) (x10 : Int) (r14 : List Int) : (Int × Int) → St := fun s => [(11, A.val ((slr false 1 Af) (r14))), (14, A.val (Af s.1)), (13, A.val (Af ((0 : Int)))), (12, A.val (Af s.2)), (10, A.val (Af (x10))), (9, A.val (Af (g0.Arity))), (8, A.val (Af (f0.Arity))), (5, A.val ((rP true (Aj false)) (g0))), (4, A.val ((rP true (Aj false)) (f0))), (0, A.val (Af (n0)))]
def Ln (n0 : Int) (f0 : SOp) (g0 : SOp) (x10 : Int) (r14 : List Int) : Int → Tgt
 | s => ((Ex.exit 2), [11, 13, 12, 10, 9, 8, 5, 4, 0], [(11, A.val ((slr false 1 Af) (r14))), (13, A.val (Af ((0 : Int)))), (12, A.val (Af s)), (10, A.val (Af (x10))), (9, A.val (Af (g0.Arity))), (8, A.val (Af (f0.Arity))), (5, A.val ((rP true (Aj false)) (g0))), (4, A.val ((rP true (Aj false)) (f0))), (0, A.val (Af (n0)))])
theorem S0 {n0 : Int} {f0 : SOp} {g0 : SOp} {x10 : Int} {r14 : List Int} (s : (Int × Int)) (o : (Int × Int) ⊕ Int) (h : Cz n0 f0 g0 x10 r14 s = some o) : vc Try.prog Lm (Dx [11, 14, 13, 12, 10, 9, 8, 5, 4, 0] (G8 n0 f0 g0 x10 r14) (Ln n0 f0 g0 x10 r14) o) (G8 n0 f0 g0 x10 r14 s) := by
 obtain ⟨x14, x12⟩ := s
 unfold Cz at h
 try dsimp only at h
 conv => whnf
 refine Br.od h (fun p15 h => ?_) (fun p15 h => ?_)
 ·conv => whnf
  refine Ask.o h fun p16 h => ?_
  conv => whnf
  refine Cells.lit rfl rfl ?_
  conv => whnf
  refine Ask.o h fun p17 h => ?_
  conv => whnf
  refine Ask.o h fun p18 h => ?_
  conv => whnf
  refine Ask.o h fun p19 h => ?_
  conv => whnf
  refine SlcQ.o Af h fun h => ?_
  conv => whnf
  refine CallP.o Af (by first | rfl | simp only [Aa, V.fz, fzL, V.up, upL, Ab, Ac, Ad, slr, List.cons_append, List.nil_append] | simp [Aa, V.fz, fzL, V.up, upL, Ab, Ac, Ad, slr]) h (fun r h => Abg h) (fun r20 h => ?_)
  conv => whnf
  refine Len.map ?_
  conv => whnf
  refine Ask.o h fun p21 h => ?_
  conv => whnf
  refine Elem.o (by first | omega | (simp [A4] at *; omega)) ?_
  conv => whnf
  refine Ask.o h fun p22 h => ?_
  conv => whnf
  refine Ask.o h fun p23 h => ?_
  conv => whnf
  cases h; exact ⟨rfl, rfl⟩
 conv => whnf
 cases h; exact ⟨rfl, rfl⟩
noncomputable def C0 (n0 : Int) (f0 : SOp) (g0 : SOp) (_x10 : Int) (r14 : List Int) (_q24_12 : Int) (x15 : Int) (_x13 : Int) : (Int × Int) → Option ((Int × Int) ⊕ Int) := fun (x17, x16) =>
 if x17 < f0.Arity then
 ask (InI (x16 * n0)) <|
 ask (InI (x17 * g0.Arity)) <|
 ask (InI (x17 * g0.Arity + x15)) <|
 ask ((0 : Int) ≤ x17 * g0.Arity + x15 ∧ x17 * g0.Arity + x15 < (↑r14.length : Int)) <|
 ask (InI (x16 * n0 + nth r14 (x17 * g0.Arity + x15).toNat)) <|
 ask (InI (x17 + (1 : Int))) <|
 some (.inl (x17 + (1 : Int), x16 * n0 + nth r14 (x17 * g0.Arity + x15).toNat))
 else
 some (.inr x16)
def G7 (n0 : Int) (f0 : SOp) (g0 : SOp) (x10 : Int) (r14 : List Int) (q24_12 : Int) (x15 : Int) (x13 : Int) : (Int × Int) → St := fun s => [(17, A.val (Af s.1)), (16, A.val (Af s.2)), (15, A.val (Af (x15))), (11, A.val ((slr false 1 Af) (r14))), (13, A.val (Af (x13))), (12, A.val (Af (q24_12))), (10, A.val (Af (x10))), (9, A.val (Af (g0.Arity))), (8, A.val (Af (f0.Arity))), (5, A.val ((rP true (Aj false)) (g0))), (4, A.val ((rP true (Aj false)) (f0))), (0, A.val (Af (n0)))]
def Li (n0 : Int) (f0 : SOp) (g0 : SOp) (x10 : Int) (r14 : List Int) (q24_12 : Int) (x15 : Int) (x13 : Int) : Int → Tgt
 | s => ((Ex.exit 6), [16, 15, 11, 13, 12, 10, 9, 8, 5, 4, 0], [(16, A.val (Af s)), (15, A.val (Af (x15))), (11, A.val ((slr false 1 Af) (r14))), (13, A.val (Af (x13))), (12, A.val (Af (q24_12))), (10, A.val (Af (x10))), (9, A.val (Af (g0.Arity))), (8, A.val (Af (f0.Arity))), (5, A.val ((rP true (Aj false)) (g0))), (4, A.val ((rP true (Aj false)) (f0))), (0, A.val (Af (n0)))])
theorem Sw {n0 : Int} {f0 : SOp} {g0 : SOp} {x10 : Int} {r14 : List Int} {q24_12 : Int} {x15 : Int} {x13 : Int} (s : (Int × Int)) (o : (Int × Int) ⊕ Int) (h : C0 n0 f0 g0 x10 r14 q24_12 x15 x13 s = some o) : vc Try.prog Ll (Dx [17, 16, 15, 11, 13, 12, 10, 9, 8, 5, 4, 0] (G7 n0 f0 g0 x10 r14 q24_12 x15 x13) (Li n0 f0 g0 x10 r14 q24_12 x15 x13) o) (G7 n0 f0 g0 x10 r14 q24_12 x15 x13 s) := by
 obtain ⟨x17, x16⟩ := s
 unfold C0 at h
 try dsimp only at h
 conv => whnf
 refine Br.od h (fun p26 h => ?_) (fun p26 h => ?_)
 ·conv => whnf
  refine Ask.o h fun p27 h => ?_
  conv => whnf
  refine Ask.o h fun p28 h => ?_
  conv => whnf
  refine Ask.o h fun p29 h => ?_
  conv => whnf
  refine Len.map ?_
  conv => whnf
  refine Ask.o h fun p30 h => ?_
  conv => whnf
  refine Elem.o (by first | omega | (simp [A4] at *; omega)) ?_
  conv => whnf
  refine Ask.o h fun p31 h => ?_
  conv => whnf
  refine Ask.o h fun p32 h => ?_
  conv => whnf
  cases h; exact ⟨rfl, rfl⟩
 conv => whnf
 cases h; exact ⟨rfl, rfl⟩
noncomputable def C1 (n0 : Int) (f0 : SOp) (g0 : SOp) (x10 : Int) (r14 : List Int) (q24_12 : Int) : (Int × Int) → Option ((Int × Int) ⊕ Int) := fun (x15, x13) =>
 if x15 < g0.Arity then
 (Ap (C0 n0 f0 g0 x10 r14 q24_12 x15 x13) ((0 : Int), (0 : Int))).bind fun q33_16 =>
 ask (InI (x13 * n0)) <|
 ask ((0 : Int) ≤ q33_16 ∧ q33_16 < (↑f0.Table.length : Int)) <|
 ask (InI (x13 * n0 + nth f0.Table q33_16.toNat)) <|
 ask (InI (x15 + (1 : Int))) <|
 some (.inl (x15 + (1 : Int), x13 * n0 + nth f0.Table q33_16.toNat))
 else
 some (.inr x13)
def Ha (n0 : Int) (f0 : SOp) (g0 : SOp) (x10 : Int) (r14 : List Int) (q24_12 : Int) : (Int × Int) → St := fun s => [(15, A.val (Af s.1)), (11, A.val ((slr false 1 Af) (r14))), (13, A.val (Af s.2)), (12, A.val (Af (q24_12))), (10, A.val (Af (x10))), (9, A.val (Af (g0.Arity))), (8, A.val (Af (f0.Arity))), (5, A.val ((rP true (Aj false)) (g0))), (4, A.val ((rP true (Aj false)) (f0))), (0, A.val (Af (n0)))]
def Lj (n0 : Int) (f0 : SOp) (g0 : SOp) (x10 : Int) (_r14 : List Int) (q24_12 : Int) : Int → Tgt
 | s => ((Ex.exit 4), [13, 12, 10, 9, 8, 5, 4, 0], [(13, A.val (Af s)), (12, A.val (Af (q24_12))), (10, A.val (Af (x10))), (9, A.val (Af (g0.Arity))), (8, A.val (Af (f0.Arity))), (5, A.val ((rP true (Aj false)) (g0))), (4, A.val ((rP true (Aj false)) (f0))), (0, A.val (Af (n0)))])
theorem Ss {n0 : Int} {f0 : SOp} {g0 : SOp} {x10 : Int} {r14 : List Int} {q24_12 : Int} (s : (Int × Int)) (o : (Int × Int) ⊕ Int) (h : C1 n0 f0 g0 x10 r14 q24_12 s = some o) : vc Try.prog Lk (Dx [15, 11, 13, 12, 10, 9, 8, 5, 4, 0] (Ha n0 f0 g0 x10 r14 q24_12) (Lj n0 f0 g0 x10 r14 q24_12) o) (Ha n0 f0 g0 x10 r14 q24_12 s) := by
 obtain ⟨x15, x13⟩ := s
 unfold C1 at h
 try dsimp only at h
 conv => whnf
 refine Br.od h (fun p25 h => ?_) (fun p25 h => ?_)
 ·conv => whnf
  refine LoopQ.o [17, 16, 15, 11, 13, 12, 10, 9, 8, 5, 4, 0] (G7 n0 f0 g0 x10 r14 q24_12 x15 x13) (Li n0 f0 g0 x10 r14 q24_12 x15 x13) h (fun s o h => Sw s o h) (by first | rfl | simp [restrict, look, Aa, V.fz, fzL, V.up, upL, Ab, Ac, Ad, slr]) (fun _ => rfl) ?_
  rintro q33_16 h
  try dsimp only at h
  conv => whnf
  refine Ask.o h fun p34 h => ?_
  conv => whnf
  refine Cells.lit rfl rfl ?_
  conv => whnf
  refine Len.map ?_
  conv => whnf
  refine Ask.o h fun p35 h => ?_
  conv => whnf
  refine Elem.o (by first | omega | (simp [A4] at *; omega)) ?_
  conv => whnf
  refine Ask.o h fun p36 h => ?_
  conv => whnf
  refine Ask.o h fun p37 h => ?_
  conv => whnf
  cases h; exact ⟨rfl, rfl⟩
 conv => whnf
 cases h; exact ⟨rfl, rfl⟩
noncomputable def Bw (n0 : Int) (f0 : SOp) (g0 : SOp) : Int → Option (Int ⊕ (Unit ⊕ Unit)) := fun x10 =>
 ask (InI (f0.Arity * g0.Arity)) <|
 (Cu (n0) (f0.Arity * g0.Arity)).bind fun r11 =>
 if x10 < r11 then
 ask (InI (f0.Arity * g0.Arity)) <|
 (Fp (x10) (f0.Arity * g0.Arity) (n0)).bind fun r14 =>
 (Ap (Cz n0 f0 g0 x10 r14) ((0 : Int), (0 : Int))).bind fun q24_12 =>
 (Ap (C1 n0 f0 g0 x10 r14 q24_12) ((0 : Int), (0 : Int))).bind fun q38_13 =>
 ask ((0 : Int) ≤ q24_12 ∧ q24_12 < (↑f0.Table.length : Int)) <|
 ask ((0 : Int) ≤ q38_13 ∧ q38_13 < (↑g0.Table.length : Int)) <|
 if nth f0.Table q24_12.toNat ≠ nth g0.Table q38_13.toNat then
 some (.inr (.inl ()))
 else
 ask (InI (x10 + (1 : Int))) <|
 some (.inl (x10 + (1 : Int)))
 else
 some (.inr (.inr ()))
def G9 (n0 : Int) (f0 : SOp) (g0 : SOp) : Int → St := fun s => [(10, A.val (Af s)), (9, A.val (Af (g0.Arity))), (8, A.val (Af (f0.Arity))), (5, A.val ((rP true (Aj false)) (g0))), (4, A.val ((rP true (Aj false)) (f0))), (0, A.val (Af (n0)))]
def Lo (_n0 : Int) (_f0 : SOp) (_g0 : SOp) : (Unit ⊕ Unit) → Tgt
 | (.inl _s) => (Ex.ret, [7, 6], [(7, A.val (V.bool (true))), (6, A.val (V.bool (false)))])
 | (.inr _s) => ((Ex.exit 0), [], [])
theorem Sy {n0 : Int} {f0 : SOp} {g0 : SOp} (x10 : Int) (o : Int ⊕ (Unit ⊕ Unit)) (h : Bw n0 f0 g0 x10 = some o) : vc Try.prog Lp (Dx [10, 9, 8, 5, 4, 0] (G9 n0 f0 g0) (Lo n0 f0 g0) o) (G9 n0 f0 g0 x10) := by
 unfold Bw at h
 try dsimp only at h
 conv => whnf
 refine Ask.o h fun p10 h => ?_
 conv => whnf
 refine CallQ.o Af (by first | rfl | simp only [Aa, V.fz, fzL, V.up, upL, Ab, Ac, Ad, slr, List.cons_append, List.nil_append] | simp [Aa, V.fz, fzL, V.up, upL, Ab, Ac, Ad, slr]) h (fun r h => Lv h) (fun r11 h => ?_)
 conv => whnf
 refine Br.od h (fun p12 h => ?_) (fun p12 h => ?_)
 ·conv => whnf
  refine Ask.o h fun p13 h => ?_
  conv => whnf
  refine CallQ.o (slr true 1 Af) (by first | rfl | simp only [Aa, V.fz, fzL, V.up, upL, Ab, Ac, Ad, slr, List.cons_append, List.nil_append] | simp [Aa, V.fz, fzL, V.up, upL, Ab, Ac, Ad, slr]) h (fun r h => Ta h) (fun r14 h => ?_)
  conv => whnf
  refine FrzQ.d (V.sl false (1 : Nat) (List.map Af r14)) (by first | (simp only [slr]; done) | (simp [Oq, V.fz, Ab, slr]; done)) ?_
  conv => whnf
  refine LoopQ.o [11, 14, 13, 12, 10, 9, 8, 5, 4, 0] (G8 n0 f0 g0 x10 r14) (Ln n0 f0 g0 x10 r14) h (fun s o h => S0 s o h) (by first | rfl | simp [restrict, look, Aa, V.fz, fzL, V.up, upL, Ab, Ac, Ad, slr]) (fun _ => rfl) ?_
  rintro q24_12 h
  try dsimp only at h
  conv => whnf
  refine LoopQ.o [15, 11, 13, 12, 10, 9, 8, 5, 4, 0] (Ha n0 f0 g0 x10 r14 q24_12) (Lj n0 f0 g0 x10 r14 q24_12) h (fun s o h => Ss s o h) (by first | rfl | simp [restrict, look, Aa, V.fz, fzL, V.up, upL, Ab, Ac, Ad, slr]) (fun _ => rfl) ?_
  rintro q38_13 h
  try dsimp only at h
  conv => whnf
  refine Cells.lit rfl rfl ?_
  conv => whnf
  refine Len.map ?_
  conv => whnf
  refine Ask.o h fun p39 h => ?_
  conv => whnf
  refine Elem.o (by first | omega | (simp [A4] at *; omega)) ?_
  conv => whnf
  refine Cells.lit rfl rfl ?_
  conv => whnf
  refine Len.map ?_
  conv => whnf
  refine Ask.o h fun p40 h => ?_
  conv => whnf
  refine Elem.o (by first | omega | (simp [A4] at *; omega)) ?_
  conv => whnf
  refine Br.on h (fun p41 h => ?_) (fun p41 h => ?_)
  ·conv => whnf
   cases h; exact ⟨rfl, rfl⟩
  conv => whnf
  refine Ask.o h fun p42 h => ?_
  conv => whnf
  cases h; exact ⟨rfl, rfl⟩
 conv => whnf
 cases h; exact ⟨rfl, rfl⟩
noncomputable def Cj (n0 : Int) (f0 : SOp) (g0 : SOp) : Option (Bool × Bool) :=
 ((if n0 < (1 : Int) then
 some (.inl ())
 else
 if n0 > (4 : Int) then
 some (.inl ())
 else
 (El (f0) (n0)).bind fun r3 =>
 if (r3) = true then
 (El (g0) (n0)).bind fun r5 =>
 if (r5) = true then
 if f0.Arity > (2 : Int) then
 some (.inl ())
 else
 if g0.Arity > (2 : Int) then
 some (.inl ())
 else
 some (.inr ())
 else
 some (.inl ())
 else
 some (.inl ()) : Option (Unit ⊕ Unit))).bind fun t => match t with
 | (.inl _) => (some (false, false))
 | (.inr _) => ((Ap (Bw n0 f0 g0) (0 : Int)).bind fun t => match t with
 | (.inl _) => (some (false, true))
 | (.inr _) => (some (true, true)))
theorem O6 {n0 : Int} {f0 : SOp} {g0 : SOp} {v : (Bool × Bool)} (h : Cj n0 f0 g0 = some v) : Ret Try.prog G2 [Af n0, (Aj false) f0, (Aj false) g0] ((fun r => V.tup [V.bool r.1, V.bool r.2]) v) := by
 refine A5 Wh (Nat.le_of_ble_eq_true rfl) ?_
 unfold Cj at h
 conv => whnf
 refine CutQ.o (fun t : (Unit ⊕ Unit) => match t with | (.inl s) => (Ex.ret, [7, 6], [(7, A.val (V.bool (false))), (6, A.val (V.bool (false)))]) | (.inr s) => (Ex.normal, [5, 4, 0], [(5, A.val ((rP true (Aj false)) (g0))), (4, A.val ((rP true (Aj false)) (f0))), (0, A.val (Af (n0)))])) h ?_ ?_
 ·intro t h
  conv => whnf
  refine Br.od h (fun p1 h => ?_) (fun p1 h => ?_)
  ·conv => whnf
   refine Br.yes ?_
   conv => whnf
   refine Br.yes ?_
   conv => whnf
   refine Br.yes ?_
   conv => whnf
   refine Br.yes ?_
   conv => whnf
   refine Br.yes ?_
   conv => whnf
   refine Br.yes ?_
   conv => whnf
   refine Br.yes ?_
   conv => whnf
   refine Br.yes ?_
   conv => whnf
   refine Br.yes ?_
   conv => whnf
   refine Br.yes ?_
   conv => whnf
   refine Br.yes ?_
   conv => whnf
   refine Br.yes ?_
   conv => whnf
   refine Br.yes ?_
   conv => whnf
   refine Br.yes ?_
   conv => whnf
   refine Br.yes ?_
   conv => whnf
   refine Br.yes ?_
   conv => whnf
   refine Br.yes ?_
   conv => whnf
   refine Br.yes ?_
   conv => whnf
   refine Br.yes ?_
   conv => whnf
   refine Br.yes ?_
   conv => whnf
   refine Br.yes ?_
   conv => whnf
   cases h; exact ⟨rfl, rfl⟩
  conv => whnf
  refine Br.no ?_
  conv => whnf
  refine Br.no ?_
  conv => whnf
  refine Br.od h (fun p2 h => ?_) (fun p2 h => ?_)
  ·conv => whnf
   refine Br.yes ?_
   conv => whnf
   refine Br.yes ?_
   conv => whnf
   refine Br.yes ?_
   conv => whnf
   refine Br.yes ?_
   conv => whnf
   refine Br.yes ?_
   conv => whnf
   refine Br.yes ?_
   conv => whnf
   refine Br.yes ?_
   conv => whnf
   refine Br.yes ?_
   conv => whnf
   refine Br.yes ?_
   conv => whnf
   refine Br.yes ?_
   conv => whnf
   refine Br.yes ?_
   conv => whnf
   refine Br.yes ?_
   conv => whnf
   refine Br.yes ?_
   conv => whnf
   refine Br.yes ?_
   conv => whnf
   refine Br.yes ?_
   conv => whnf
   refine Br.yes ?_
   conv => whnf
   refine Br.yes ?_
   conv => whnf
   refine Br.yes ?_
   conv => whnf
   cases h; exact ⟨rfl, rfl⟩
  conv => whnf
  refine Cells.lit rfl rfl ?_
  conv => whnf
  refine Br.no ?_
  conv => whnf
  refine Br.no ?_
  conv => whnf
  refine CallQ.o V.bool (by first | rfl | simp only [Aa, V.fz, fzL, V.up, upL, Ab, Ac, Ad, slr, List.cons_append, List.nil_append] | simp [Aa, V.fz, fzL, V.up, upL, Ab, Ac, Ad, slr]) h (fun r h => Ks h) (fun r3 h => ?_)
  conv => whnf
  refine Br.no ?_
  conv => whnf
  refine Br.no ?_
  conv => whnf
  refine Br.flip ?_
  conv => whnf
  refine Br.ob h (fun p4 h => ?_) (fun p4 h => ?_)
  ·conv => whnf
   refine Cells.lit rfl rfl ?_
   conv => whnf
   refine Br.no ?_
   conv => whnf
   refine Br.no ?_
   conv => whnf
   refine CallQ.o V.bool (by first | rfl | simp only [Aa, V.fz, fzL, V.up, upL, Ab, Ac, Ad, slr, List.cons_append, List.nil_append] | simp [Aa, V.fz, fzL, V.up, upL, Ab, Ac, Ad, slr]) h (fun r h => Ks h) (fun r5 h => ?_)
   conv => whnf
   refine Br.no ?_
   conv => whnf
   refine Br.no ?_
   conv => whnf
   refine Br.flip ?_
   conv => whnf
   refine Br.ob h (fun p6 h => ?_) (fun p6 h => ?_)
   ·conv => whnf
    refine Br.no ?_
    conv => whnf
    refine Cells.lit rfl rfl ?_
    conv => whnf
    refine Br.no ?_
    conv => whnf
    refine Br.no ?_
    conv => whnf
    refine Br.od h (fun p7 h => ?_) (fun p7 h => ?_)
    ·conv => whnf
     refine Br.yes ?_
     conv => whnf
     refine Br.yes ?_
     conv => whnf
     refine Br.yes ?_
     conv => whnf
     refine Br.yes ?_
     conv => whnf
     cases h; exact ⟨rfl, rfl⟩
    conv => whnf
    refine Br.no ?_
    conv => whnf
    refine Cells.lit rfl rfl ?_
    conv => whnf
    refine Br.no ?_
    conv => whnf
    refine Br.no ?_
    conv => whnf
    refine Br.od h (fun p8 h => ?_) (fun p8 h => ?_)
    ·conv => whnf
     cases h; exact ⟨rfl, rfl⟩
    conv => whnf
    cases h; exact ⟨rfl, rfl⟩
   conv => whnf
   refine Br.yes ?_
   conv => whnf
   refine Br.yes ?_
   conv => whnf
   refine Br.yes ?_
   conv => whnf
   refine Br.yes ?_
   conv => whnf
   refine Br.yes ?_
   conv => whnf
   refine Br.yes ?_
   conv => whnf
   refine Br.yes ?_
   conv => whnf
   refine Br.yes ?_
   conv => whnf
   cases h; exact ⟨rfl, rfl⟩
  conv => whnf
  refine Br.yes ?_
  conv => whnf
  refine Br.yes ?_
  conv => whnf
  refine Br.yes ?_
  conv => whnf
  refine Br.yes ?_
  conv => whnf
  refine Br.yes ?_
  conv => whnf
  refine Br.yes ?_
  conv => whnf
  refine Br.yes ?_
  conv => whnf
  refine Br.yes ?_
  conv => whnf
  refine Br.yes ?_
  conv => whnf
  refine Br.yes ?_
  conv => whnf
  refine Br.yes ?_
  conv => whnf
  refine Br.yes ?_
  conv => whnf
  refine Br.yes ?_
  conv => whnf
  cases h; exact ⟨rfl, rfl⟩
 rintro (⟨⟩ | ⟨⟩) h
 ·try dsimp only at h
  conv => whnf
  cases h; exact (by first | rfl | simp only [Ah, Aa, V.fz, fzL, V.up, upL, Ab, Ac, Ad, slr] | simp [Ah, Aa, V.fz, fzL, V.up, upL, Ab, Ac, Ad, slr])
 try dsimp only at h
 conv => whnf
 refine Cells.lit rfl rfl ?_
 conv => whnf
 refine Cells.lit rfl rfl ?_
 conv => whnf
 refine LoopQ.o [10, 9, 8, 5, 4, 0] (G9 n0 f0 g0) (Lo n0 f0 g0) h (fun s o h => Sy s o h) (by first | rfl | simp [restrict, look, Aa, V.fz, fzL, V.up, upL, Ab, Ac, Ad, slr]) (by rintro (_ | _) <;> rfl) ?_
 rintro (⟨⟩ | ⟨⟩) h
 ·try dsimp only at h
  conv => whnf
  cases h; exact (by first | rfl | simp only [Ah, Aa, V.fz, fzL, V.up, upL, Ab, Ac, Ad, slr] | simp [Ah, Aa, V.fz, fzL, V.up, upL, Ab, Ac, Ad, slr])
 try dsimp only at h
 conv => whnf
 cases h; exact (by first | rfl | simp only [Ah, Aa, V.fz, fzL, V.up, upL, Ab, Ac, Ad, slr] | simp [Ah, Aa, V.fz, fzL, V.up, upL, Ab, Ac, Ad, slr])
noncomputable def Da (n0 : Int) (f0 : SOp) (g0 : SOp) : Option (Bool × Bool) :=
 (D1 (n0) ((1 : Int)) ((4 : Int))).bind fun r1 =>
 if (r1) = true then
 (E5 (n0) (f0)).bind fun r3 =>
 if (r3) = true then
 (E5 (n0) (g0)).bind fun r5 =>
 if (r5) = true then
 if f0.Arity > (2 : Int) then
 some (false, false)
 else
 if g0.Arity > (2 : Int) then
 some (false, false)
 else
 (Fu (n0) (f0) (g0)).bind fun r9 =>
 some (r9, true)
 else
 some (false, false)
 else
 some (false, false)
 else
 some (false, false)
theorem Wt {n0 : Int} {f0 : SOp} {g0 : SOp} {v : (Bool × Bool)} (h : Da n0 f0 g0 = some v) : Ret Try.prog I9 [Af n0, (Aj false) f0, (Aj false) g0] ((fun r => V.tup [V.bool r.1, V.bool r.2]) v) := by
 refine A5 Wy (Nat.le_of_ble_eq_true rfl) ?_
 unfold Da at h
 conv => whnf
 refine CallQ.o V.bool (by first | rfl | simp only [Aa, V.fz, fzL, V.up, upL, Ab, Ac, Ad, slr, List.cons_append, List.nil_append] | simp [Aa, V.fz, fzL, V.up, upL, Ab, Ac, Ad, slr]) h (fun r h => H5 h) (fun r1 h => ?_)
 conv => whnf
 refine Br.flip ?_
 conv => whnf
 refine Br.ob h (fun p2 h => ?_) (fun p2 h => ?_)
 ·conv => whnf
  refine Br.no ?_
  conv => whnf
  refine Cells.lit rfl rfl ?_
  conv => whnf
  refine Br.no ?_
  conv => whnf
  refine CallQ.o V.bool (by first | rfl | simp only [Aa, V.fz, fzL, V.up, upL, Ab, Ac, Ad, slr, List.cons_append, List.nil_append] | simp [Aa, V.fz, fzL, V.up, upL, Ab, Ac, Ad, slr]) h (fun r h => Nw h) (fun r3 h => ?_)
  conv => whnf
  refine Br.no ?_
  conv => whnf
  refine Br.no ?_
  conv => whnf
  refine Br.flip ?_
  conv => whnf
  refine Br.ob h (fun p4 h => ?_) (fun p4 h => ?_)
  ·conv => whnf
   refine Br.no ?_
   conv => whnf
   refine Cells.lit rfl rfl ?_
   conv => whnf
   refine Br.no ?_
   conv => whnf
   refine CallQ.o V.bool (by first | rfl | simp only [Aa, V.fz, fzL, V.up, upL, Ab, Ac, Ad, slr, List.cons_append, List.nil_append] | simp [Aa, V.fz, fzL, V.up, upL, Ab, Ac, Ad, slr]) h (fun r h => Nw h) (fun r5 h => ?_)
   conv => whnf
   refine Br.no ?_
   conv => whnf
   refine Br.no ?_
   conv => whnf
   refine Br.flip ?_
   conv => whnf
   refine Br.ob h (fun p6 h => ?_) (fun p6 h => ?_)
   ·conv => whnf
    refine Br.no ?_
    conv => whnf
    refine Cells.lit rfl rfl ?_
    conv => whnf
    refine Br.no ?_
    conv => whnf
    refine Br.no ?_
    conv => whnf
    refine Br.od h (fun p7 h => ?_) (fun p7 h => ?_)
    ·conv => whnf
     refine Br.yes ?_
     conv => whnf
     refine Br.yes ?_
     conv => whnf
     refine Br.yes ?_
     conv => whnf
     refine Br.yes ?_
     conv => whnf
     cases h; exact (by first | rfl | simp only [Ah, Aa, V.fz, fzL, V.up, upL, Ab, Ac, Ad, slr] | simp [Ah, Aa, V.fz, fzL, V.up, upL, Ab, Ac, Ad, slr])
    conv => whnf
    refine Br.no ?_
    conv => whnf
    refine Cells.lit rfl rfl ?_
    conv => whnf
    refine Br.no ?_
    conv => whnf
    refine Br.no ?_
    conv => whnf
    refine Br.od h (fun p8 h => ?_) (fun p8 h => ?_)
    ·conv => whnf
     cases h; exact (by first | rfl | simp only [Ah, Aa, V.fz, fzL, V.up, upL, Ab, Ac, Ad, slr] | simp [Ah, Aa, V.fz, fzL, V.up, upL, Ab, Ac, Ad, slr])
    conv => whnf
    refine Cells.lit rfl rfl ?_
    conv => whnf
    refine Cells.lit rfl rfl ?_
    conv => whnf
    refine CallQ.o V.bool (by first | rfl | simp only [Aa, V.fz, fzL, V.up, upL, Ab, Ac, Ad, slr, List.cons_append, List.nil_append] | simp [Aa, V.fz, fzL, V.up, upL, Ab, Ac, Ad, slr]) h (fun r h => U7 h) (fun r9 h => ?_)
    conv => whnf
    cases h; exact (by first | rfl | simp only [Ah, Aa, V.fz, fzL, V.up, upL, Ab, Ac, Ad, slr] | simp [Ah, Aa, V.fz, fzL, V.up, upL, Ab, Ac, Ad, slr])
   conv => whnf
   refine Br.yes ?_
   conv => whnf
   refine Br.yes ?_
   conv => whnf
   refine Br.yes ?_
   conv => whnf
   refine Br.yes ?_
   conv => whnf
   refine Br.yes ?_
   conv => whnf
   refine Br.yes ?_
   conv => whnf
   refine Br.yes ?_
   conv => whnf
   refine Br.yes ?_
   conv => whnf
   cases h; exact (by first | rfl | simp only [Ah, Aa, V.fz, fzL, V.up, upL, Ab, Ac, Ad, slr] | simp [Ah, Aa, V.fz, fzL, V.up, upL, Ab, Ac, Ad, slr])
  conv => whnf
  refine Br.yes ?_
  conv => whnf
  refine Br.yes ?_
  conv => whnf
  refine Br.yes ?_
  conv => whnf
  refine Br.yes ?_
  conv => whnf
  refine Br.yes ?_
  conv => whnf
  refine Br.yes ?_
  conv => whnf
  refine Br.yes ?_
  conv => whnf
  refine Br.yes ?_
  conv => whnf
  refine Br.yes ?_
  conv => whnf
  refine Br.yes ?_
  conv => whnf
  refine Br.yes ?_
  conv => whnf
  refine Br.yes ?_
  conv => whnf
  refine Br.yes ?_
  conv => whnf
  cases h; exact (by first | rfl | simp only [Ah, Aa, V.fz, fzL, V.up, upL, Ab, Ac, Ad, slr] | simp [Ah, Aa, V.fz, fzL, V.up, upL, Ab, Ac, Ad, slr])
 conv => whnf
 refine Br.yes ?_
 conv => whnf
 refine Br.yes ?_
 conv => whnf
 refine Br.yes ?_
 conv => whnf
 refine Br.yes ?_
 conv => whnf
 refine Br.yes ?_
 conv => whnf
 refine Br.yes ?_
 conv => whnf
 refine Br.yes ?_
 conv => whnf
 refine Br.yes ?_
 conv => whnf
 refine Br.yes ?_
 conv => whnf
 refine Br.yes ?_
 conv => whnf
 refine Br.yes ?_
 conv => whnf
 refine Br.yes ?_
 conv => whnf
 refine Br.yes ?_
 conv => whnf
 refine Br.yes ?_
 conv => whnf
 refine Br.yes ?_
 conv => whnf
 refine Br.yes ?_
 conv => whnf
 refine Br.yes ?_
 conv => whnf
 refine Br.yes ?_
 conv => whnf
 cases h; exact (by first | rfl | simp only [Ah, Aa, V.fz, fzL, V.up, upL, Ab, Ac, Ad, slr] | simp [Ah, Aa, V.fz, fzL, V.up, upL, Ab, Ac, Ad, slr])
end Go.Proofs.Ytcpgnfohmeineaa.Ax
