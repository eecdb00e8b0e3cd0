/-
 What the functions compute, as functions on plain data, and that the program does compute it; written by program.
-/
import Derived.Test.YtcpgnfohmeineaaCode
import Derived.Test.YtcpgnfohmeineaaG1
import Derived.Test.YtcpgnfohmeineaaG2
import Derived.Test.YtcpgnfohmeineaaG3
import Derived.Test.YtcpgnfohmeineaaG5
import Derived.Test.YtcpgnfohmeineaaG6
namespace Go.Proofs.Ytcpgnfohmeineaa.Ax
open Go
set_option maxRecDepth 100000
set_option maxHeartbeats 4000000
noncomputable def Dw (r0 : SRelation) (t0 : (List Int)) : Option Bool :=
 if (↑t0.length : Int) ≠ r0.Arity then
 some false
 else
 (Ft (r0.Tuples) (t0)).bind fun r2 =>
 some r2.snd
theorem Kq {r0 : SRelation} {t0 : (List Int)} {v : Bool} (h : Dw r0 t0 = some v) : Ret Try.prog Hb [(Ai false) r0, (slr false 1 Af) t0] (V.bool v) := by
 refine A8 Ak2 (Nat.le_of_ble_eq_true rfl) ?_
 unfold Dw at h
 conv => whnf
 refine Len.map ?_
 conv => whnf
 refine Cells.lit rfl rfl ?_
 conv => whnf
 refine Br.on h (fun p1 h => ?_) (fun p1 h => ?_)
 ·conv => whnf
  cases h; exact (by rfl)
 conv => whnf
 refine Cells.lit rfl rfl ?_
 conv => whnf
 refine CallQ.o (fun r => V.tup [Af r.1, V.bool r.2]) (by rfl) h (fun r h => Aac h) (fun r2 h => ?_)
 conv => whnf
 cases h; exact (by rfl)
noncomputable def Fl (a0 : SAlgebra) (p0 : (List Int)) : Option Bool :=
 (El (a0.Size) (p0)).bind fun r1 =>
 if (r1) = true then
 (Qf (p0)).bind fun r3 =>
 (Eb (a0) (r3)).bind fun (r4, _u5) =>
 some !r4
 else
 some false
theorem Zx {a0 : SAlgebra} {p0 : (List Int)} {v : Bool} (h : Fl a0 p0 = some v) : Ret Try.prog Kh [(Ak false) a0, (slr false 1 Af) p0] (V.bool v) := by
 refine A8 Zu (Nat.le_of_ble_eq_true rfl) ?_
 unfold Fl at h
 conv => whnf
 refine Cells.lit rfl rfl ?_
 conv => whnf
 refine CallP.o V.bool (by rfl) h (fun r h => Rx h) (fun r1 h => ?_)
 conv => whnf
 refine Br.ob h (fun p2 h => ?_) (fun p2 h => ?_)
 ·conv => whnf
  refine Cells.lit rfl rfl ?_
  conv => whnf
  refine Br.yes ?_
  conv => whnf
  refine Br.yes ?_
  conv => whnf
  refine CallP.o (slr true 1 Af) (by rfl) h (fun r h => Aoe h) (fun r3 h => ?_)
  conv => whnf
  refine Br.yes ?_
  conv => whnf
  refine CallQ.io V.bool (slr true 1 Af) (by rfl) rfl (fun _ => rfl) (fun _ => ⟨rfl, rfl⟩) rfl h (fun r h => Xv h) (fun r4 u5 h => ?_)
  conv => whnf
  refine Br.yes ?_
  conv => whnf
  refine Br.yes ?_
  conv => whnf
  cases h; exact (by rfl)
 conv => whnf
 refine Br.no ?_
 conv => whnf
 refine Br.no ?_
 conv => whnf
 refine Br.no ?_
 conv => whnf
 refine Br.no ?_
 conv => whnf
 refine Br.no ?_
 conv => whnf
 cases h; exact (by rfl)
noncomputable def M5 (list0 : (List (List Int))) (t0 : (List Int)) : Option (List (List Int)) :=
 (Ft (list0) (t0)).bind fun r1 =>
 if (r1.snd) = true then
 some list0
 else
 ask (0 ≤ (0 : Int) ∧ (0 : Int) ≤ r1.fst ∧ r1.fst ≤ ((list0.length : Nat) : Int)) <|
 ask ((Av (List Int)).length + (List.take (r1.fst.toNat - Int.toNat (0 : Int)) (List.drop (Int.toNat (0 : Int)) list0)).length ≤ LIM) <|
 ask ((Av (List Int) ++ List.take (r1.fst.toNat - Int.toNat (0 : Int)) (List.drop (Int.toNat (0 : Int)) list0)).length + ([t0]).length ≤ LIM) <|
 ask (0 ≤ r1.fst ∧ r1.fst ≤ (↑list0.length : Int) ∧ (↑list0.length : Int) ≤ ((list0.length : Nat) : Int)) <|
 ask ((Av (List Int) ++ List.take (r1.fst.toNat - Int.toNat (0 : Int)) (List.drop (Int.toNat (0 : Int)) list0) ++ [t0]).length + (List.take ((↑list0.length : Int).toNat - r1.fst.toNat) (List.drop r1.fst.toNat list0)).length ≤ LIM) <|
 some (Av (List Int) ++ List.take (r1.fst.toNat - Int.toNat (0 : Int)) (List.drop (Int.toNat (0 : Int)) list0) ++ [t0] ++ List.take ((↑list0.length : Int).toNat - r1.fst.toNat) (List.drop r1.fst.toNat list0))
theorem Anl {list0 : (List (List Int))} {t0 : (List Int)} {v : (List (List Int))} (h : M5 list0 t0 = some v) : Qs Try.prog Wv [(slr true 1 (slr false 1 Af)) list0, (slr false 1 Af) t0] ((slr true 1 (slr false 1 Af)) v) 0 V.dead := by
 refine Axy Am8 (Nat.le_of_ble_eq_true rfl) ?_
 unfold M5 at h
 conv => whnf
 refine CallQ.rd (fun r => V.tup [Af r.1, V.bool r.2]) (by first | rfl | simp only [V.fz, V.up, Ab, slr] | simp [Aa, V.fz, fzL, V.up, upL, Ab, Ac, Ad, slr]) (fun _ => by simp [V.noFz, B5]) h (fun r h => Aac h) (fun r1 h => ?_)
 conv => whnf
 refine Br.ob h (fun p2 h => ?_) (fun p2 h => ?_)
 ·conv => whnf
  cases h; exact ⟨(by rfl), (by rfl)⟩
 conv => whnf
 refine FrzQ.d (V.sl false (1 : Nat) (List.map (slr false (1 : Nat) Af) list0)) (by first | (simp only [A6, Ac, slr]; done) | (simp [A6, V.fz, Ab, Ac, slr]; done) | (simp [A6, V.fz, fzL, Ab, slr]; done)) ?_
 conv => whnf
 refine BslQ.o (slr true 1 Af) (Av (List Int)) (by exact fun _ => ⟨rfl, rfl⟩) (by rfl) ?_
 conv => whnf
 refine SlcQ.o (slr false 1 Af) h fun h => ?_
 conv => whnf
 refine AppQ.o (m := 1) (slr false 1 Af) (by exact fun _ => ⟨rfl, rfl⟩) (Av (List Int)) (List.take (r1.fst.toNat - Int.toNat (0 : Int)) (List.drop (Int.toNat (0 : Int)) list0)) (by rfl) (by rfl) h fun h => ?_
 conv => whnf
 refine BslQ.o (slr false 1 Af) [t0] (by exact fun _ => ⟨rfl, rfl⟩) (by rfl) ?_
 conv => whnf
 refine NoOwn.o (fun _ => rfl) ?_
 conv => whnf
 refine AppQ.o (m := 1) (slr false 1 Af) (by exact fun _ => ⟨rfl, rfl⟩) (Av (List Int) ++ List.take (r1.fst.toNat - Int.toNat (0 : Int)) (List.drop (Int.toNat (0 : Int)) list0)) ([t0]) (by rfl) (by rfl) h fun h => ?_
 conv => whnf
 refine Len.map ?_
 conv => whnf
 refine SlcQ.o (slr false 1 Af) h fun h => ?_
 conv => whnf
 refine AppQ.o (m := 1) (slr false 1 Af) (by exact fun _ => ⟨rfl, rfl⟩) (Av (List Int) ++ List.take (r1.fst.toNat - Int.toNat (0 : Int)) (List.drop (Int.toNat (0 : Int)) list0) ++ [t0]) (List.take ((↑list0.length : Int).toNat - r1.fst.toNat) (List.drop r1.fst.toNat list0)) (by rfl) (by rfl) h fun h => ?_
 conv => whnf
 cases h; exact ⟨(by rfl), (by rfl)⟩
noncomputable def Mj (n0 : Int) (k0 : Int) (t0 : (List Int)) : Option Bool :=
 if (↑t0.length : Int) = k0 then
 (Gq (n0) (t0)).bind fun r2 =>
 some r2
 else
 some false
theorem Ai5 {n0 : Int} {k0 : Int} {t0 : (List Int)} {v : Bool} (h : Mj n0 k0 t0 = some v) : Ret Try.prog R7 [Af n0, Af k0, (slr false 1 Af) t0] (V.bool v) := by
 refine A8 Agw (Nat.le_of_ble_eq_true rfl) ?_
 unfold Mj at h
 conv => whnf
 refine Len.map ?_
 conv => whnf
 refine Br.oe h (fun p1 h => ?_) (fun p1 h => ?_)
 ·conv => whnf
  refine Br.yes ?_
  conv => whnf
  refine Br.yes ?_
  conv => whnf
  refine CallQ.o V.bool (by rfl) h (fun r h => Abw h) (fun r2 h => ?_)
  conv => whnf
  refine Br.yes ?_
  conv => whnf
  cases h; exact (by rfl)
 conv => whnf
 refine Br.no ?_
 conv => whnf
 refine Br.no ?_
 conv => whnf
 refine Br.no ?_
 conv => whnf
 cases h; exact (by rfl)
noncomputable def F2 (q0 : List Int) : (Int × (List Int)) → Option ((Int × (List Int)) ⊕ (List Int)) := fun (x6, x5) =>
 if x6 < (↑q0.length : Int) then
 ask ((0 : Int) ≤ x6 ∧ x6 < (↑q0.length : Int)) <|
 (E3 (x5) (x6) (nth q0 x6.toNat)).bind fun r4 =>
 ask (InI (x6 + (1 : Int))) <|
 some (.inl (x6 + (1 : Int), r4))
 else
 some (.inr x5)
def N3 (q0 : List Int) : (Int × (List Int)) → St := fun s => [(6, A.val (Af s.1)), (5, A.val ((slr true 1 Af) s.2)), (1, A.val ((slr false 1 Af) (q0)))]
def Vj (_q0 : List Int) : (List Int) → Tgt
 | s => ((Ex.exit 0), [5], [(5, A.val ((slr true 1 Af) s))])
theorem Ady {q0 : List Int} (s : (Int × (List Int))) (o : (Int × (List Int)) ⊕ (List Int)) (h : F2 q0 s = some o) : vc Try.prog V6 (Cu [6, 5, 1] (N3 q0) (Vj q0) o) (N3 q0 s) := by
 obtain ⟨x6, x5⟩ := s
 unfold F2 at h
 try dsimp only at h
 conv => whnf
 refine Len.map ?_
 conv => whnf
 refine Br.od h (fun p2 h => ?_) (fun p2 h => ?_)
 ·conv => whnf
  refine Len.map ?_
  conv => whnf
  refine Ask.o h fun p3 h => ?_
  conv => whnf
  refine Elem.o (by first | omega | (simp [Ap] at *; omega)) ?_
  conv => whnf
  refine CallQ.rd (slr true 1 Af) (by first | rfl | simp only [V.fz, V.up, Ab, Ad, slr] | simp [Aa, V.fz, fzL, V.up, upL, Ab, Ac, Ad, slr]) (fun _ => by simp [V.noFz, Bs]) h (fun r h => M2 h) (fun r4 h => ?_)
  conv => whnf
  refine Ask.o h fun p5 h => ?_
  conv => whnf
  cases h; exact ⟨rfl, rfl⟩
 conv => whnf
 cases h; exact ⟨rfl, rfl⟩
noncomputable def Kp (p0 : (List Int)) (q0 : (List Int)) : Option (List Int) :=
 (Gx (p0)).bind fun r1 =>
 (Al (F2 q0) ((0 : Int), r1)).bind fun q6_5 =>
 some q6_5
theorem Akn {p0 : (List Int)} {q0 : (List Int)} {v : (List Int)} (h : Kp p0 q0 = some v) : Ret Try.prog T6 [(slr false 1 Af) p0, (slr false 1 Af) q0] ((slr true 1 Af) v) := by
 refine A8 Aks (Nat.le_of_ble_eq_true rfl) ?_
 unfold Kp at h
 conv => whnf
 refine CallQ.o (slr true 1 Af) (by rfl) h (fun r h => Qn h) (fun r1 h => ?_)
 conv => whnf
 refine LoopQ.o [6, 5, 1] (N3 q0) (Vj q0) h (fun s o h => Ady s o h) (by rfl) (fun _ => rfl) ?_
 rintro q6_5 h
 try dsimp only at h
 conv => whnf
 cases h; exact (by rfl)
noncomputable def Cg (a0 : SAlgebra) (p0 : List Int) (x6 : Int) (x7 : Int) (r6 : List Int) : (Int × (List Int)) → Option ((Int × (List Int)) ⊕ (List Int)) := fun (x9, x5'') =>
 if x9 < (↑r6.length : Int) then
 (Gx (r6)).bind fun r8 =>
 ask ((0 : Int) ≤ x9 ∧ x9 < (↑r6.length : Int)) <|
 ask ((0 : Int) ≤ nth r6 x9.toNat ∧ nth r6 x9.toNat < (↑p0.length : Int)) <|
 ask ((0 : Int) ≤ x9 ∧ x9 < (↑r8.length : Int)) <|
 ask ((0 : Int) ≤ x6 ∧ x6 < (↑a0.Ops.length : Int)) <|
 ask ((0 : Int) ≤ x7 ∧ x7 < (↑(nth a0.Ops x6.toNat).Table.length : Int)) <|
 (Jc (a0) (x6) (r8.set x9.toNat (nth p0 (nth r6 x9.toNat).toNat))).bind fun r14 =>
 (E3 (x5'') (nth (nth a0.Ops x6.toNat).Table x7.toNat) (r14)).bind fun r15 =>
 ask (InI (x9 + (1 : Int))) <|
 some (.inl (x9 + (1 : Int), r15))
 else
 some (.inr x5'')
def Oi (a0 : SAlgebra) (p0 : List Int) (x6 : Int) (x7 : Int) (r6 : List Int) : (Int × (List Int)) → St := fun s => [(9, A.val (Af s.1)), (8, A.val ((slr true 1 Af) (r6))), (7, A.val (Af (x7))), (6, A.val (Af (x6))), (5, A.val ((slr true 1 Af) s.2)), (2, A.val ((rP true (Ak false)) (a0))), (1, A.val ((slr false 1 Af) (p0)))]
def Uv (a0 : SAlgebra) (p0 : List Int) (x6 : Int) (x7 : Int) (_r6 : List Int) : (List Int) → Tgt
 | s => ((Ex.exit 4), [7, 6, 5, 2, 1], [(7, A.val (Af (x7))), (6, A.val (Af (x6))), (5, A.val ((slr true 1 Af) s)), (2, A.val ((rP true (Ak false)) (a0))), (1, A.val ((slr false 1 Af) (p0)))])
theorem Ae0 {a0 : SAlgebra} {p0 : List Int} {x6 : Int} {x7 : Int} {r6 : List Int} (s : (Int × (List Int))) (o : (Int × (List Int)) ⊕ (List Int)) (h : Cg a0 p0 x6 x7 r6 s = some o) : vc Try.prog Va (Cu [9, 8, 7, 6, 5, 2, 1] (Oi a0 p0 x6 x7 r6) (Uv a0 p0 x6 x7 r6) o) (Oi a0 p0 x6 x7 r6 s) := by
 obtain ⟨x9, x5''⟩ := s
 unfold Cg at h
 try dsimp only at h
 conv => whnf
 refine Len.map ?_
 conv => whnf
 refine Br.od h (fun p7 h => ?_) (fun p7 h => ?_)
 ·conv => whnf
  refine CallQ.rd (slr true 1 Af) (by first | rfl | simp only [V.fz, Ab, slr] | simp [Aa, V.fz, fzL, V.up, upL, Ab, Ac, Ad, slr]) (fun _ => by simp [V.noFz, Bs]) h (fun r h => Qn h) (fun r8 h => ?_)
  conv => whnf
  refine Len.map ?_
  conv => whnf
  refine Ask.o h fun p9 h => ?_
  conv => whnf
  refine Cells.one (fun _ => ⟨rfl, rfl⟩) (by first | omega | (simp [Ap] at *; omega)) ?_
  conv => whnf
  refine Len.map ?_
  conv => whnf
  refine Ask.o h fun p10 h => ?_
  conv => whnf
  refine Elem.o (by first | omega | (simp [Ap] at *; omega)) ?_
  conv => whnf
  refine Len.map ?_
  conv => whnf
  refine Ask.o h fun p11 h => ?_
  conv => whnf
  refine SetKids.one (fun _ => ⟨rfl, rfl⟩) (nth p0 (nth r6 x9.toNat).toNat) (by rfl) (by first | omega | (simp [Ap] at *; omega)) ?_
  conv => whnf
  refine Cells.lit rfl rfl ?_
  conv => whnf
  refine Len.map ?_
  conv => whnf
  refine Ask.o h fun p12 h => ?_
  conv => whnf
  refine Elem.o (by first | omega | (simp [Ap] at *; omega)) ?_
  conv => whnf
  refine Len.map ?_
  conv => whnf
  refine Ask.o h fun p13 h => ?_
  conv => whnf
  refine Elem.o (by first | omega | (simp [Ap] at *; omega)) ?_
  conv => whnf
  refine Cells.lit rfl rfl ?_
  conv => whnf
  refine CallP.rd Af (by first | rfl | simp only [Aa, V.fz, fzL, V.up, Ab, Ad, slr] | simp [Aa, V.fz, fzL, V.up, upL, Ab, Ac, Ad, slr]) (fun _ => rfl) h (fun r h => Agz h) (fun r14 h => ?_)
  conv => whnf
  refine CallQ.rd (slr true 1 Af) (by first | rfl | simp only [V.fz, Ab, slr] | simp [Aa, V.fz, fzL, V.up, upL, Ab, Ac, Ad, slr]) (fun _ => by simp [V.noFz, Bs]) h (fun r h => M2 h) (fun r15 h => ?_)
  conv => whnf
  refine Ask.o h fun p16 h => ?_
  conv => whnf
  cases h; exact ⟨rfl, rfl⟩
 conv => whnf
 cases h; exact ⟨rfl, rfl⟩
noncomputable def Ci (a0 : SAlgebra) (p0 : List Int) (x6 : Int) : (Int × (List Int)) → Option ((Int × (List Int)) ⊕ (List Int)) := fun (x7, x5') =>
 ask ((0 : Int) ≤ x6 ∧ x6 < (↑a0.Ops.length : Int)) <|
 if x7 < (↑(nth a0.Ops x6.toNat).Table.length : Int) then
 ask ((0 : Int) ≤ x6 ∧ x6 < (↑a0.Ops.length : Int)) <|
 (Fq (a0.Size) ((nth a0.Ops x6.toNat).Arity) (x7)).bind fun r6 =>
 (Al (Cg a0 p0 x6 x7 r6) ((0 : Int), x5')).bind fun q17_5 =>
 ask (InI (x7 + (1 : Int))) <|
 some (.inl (x7 + (1 : Int), q17_5))
 else
 some (.inr x5')
def Of (a0 : SAlgebra) (p0 : List Int) (x6 : Int) : (Int × (List Int)) → St := fun s => [(7, A.val (Af s.1)), (6, A.val (Af (x6))), (5, A.val ((slr true 1 Af) s.2)), (2, A.val ((rP true (Ak false)) (a0))), (1, A.val ((slr false 1 Af) (p0)))]
def U6 (a0 : SAlgebra) (p0 : List Int) (x6 : Int) : (List Int) → Tgt
 | s => ((Ex.exit 2), [6, 5, 2, 1], [(6, A.val (Af (x6))), (5, A.val ((slr true 1 Af) s)), (2, A.val ((rP true (Ak false)) (a0))), (1, A.val ((slr false 1 Af) (p0)))])
theorem Adp {a0 : SAlgebra} {p0 : List Int} {x6 : Int} (s : (Int × (List Int))) (o : (Int × (List Int)) ⊕ (List Int)) (h : Ci a0 p0 x6 s = some o) : vc Try.prog U9 (Cu [7, 6, 5, 2, 1] (Of a0 p0 x6) (U6 a0 p0 x6) o) (Of a0 p0 x6 s) := by
 obtain ⟨x7, x5'⟩ := s
 unfold Ci at h
 try dsimp only at h
 conv => whnf
 refine Cells.lit rfl rfl ?_
 conv => whnf
 refine Len.map ?_
 conv => whnf
 refine Ask.o h fun p3 h => ?_
 conv => whnf
 refine Elem.o (by first | omega | (simp [Ap] at *; omega)) ?_
 conv => whnf
 refine Len.map ?_
 conv => whnf
 refine Br.od h (fun p4 h => ?_) (fun p4 h => ?_)
 ·conv => whnf
  refine Cells.lit rfl rfl ?_
  conv => whnf
  refine Cells.lit rfl rfl ?_
  conv => whnf
  refine Len.map ?_
  conv => whnf
  refine Ask.o h fun p5 h => ?_
  conv => whnf
  refine Elem.o (by first | omega | (simp [Ap] at *; omega)) ?_
  conv => whnf
  refine CallQ.o (slr true 1 Af) (by rfl) h (fun r h => Aad h) (fun r6 h => ?_)
  conv => whnf
  refine LoopQ.o [9, 8, 7, 6, 5, 2, 1] (Oi a0 p0 x6 x7 r6) (Uv a0 p0 x6 x7 r6) h (fun s o h => Ae0 s o h) (by rfl) (fun _ => rfl) ?_
  rintro q17_5 h
  try dsimp only at h
  conv => whnf
  refine Ask.o h fun p18 h => ?_
  conv => whnf
  cases h; exact ⟨rfl, rfl⟩
 conv => whnf
 cases h; exact ⟨rfl, rfl⟩
noncomputable def C5 (a0 : SAlgebra) (p0 : List Int) : (Int × (List Int)) → Option ((Int × (List Int)) ⊕ (List Int)) := fun (x6, x5) =>
 if x6 < (↑a0.Ops.length : Int) then
 (Al (Ci a0 p0 x6) ((0 : Int), x5)).bind fun q19_5 =>
 ask (InI (x6 + (1 : Int))) <|
 some (.inl (x6 + (1 : Int), q19_5))
 else
 some (.inr x5)
def N2 (a0 : SAlgebra) (p0 : List Int) : (Int × (List Int)) → St := fun s => [(6, A.val (Af s.1)), (5, A.val ((slr true 1 Af) s.2)), (2, A.val ((rP true (Ak false)) (a0))), (1, A.val ((slr false 1 Af) (p0)))]
def Vq (_a0 : SAlgebra) (_p0 : List Int) : (List Int) → Tgt
 | s => ((Ex.exit 0), [5], [(5, A.val ((slr true 1 Af) s))])
theorem Ad5 {a0 : SAlgebra} {p0 : List Int} (s : (Int × (List Int))) (o : (Int × (List Int)) ⊕ (List Int)) (h : C5 a0 p0 s = some o) : vc Try.prog Vg (Cu [6, 5, 2, 1] (N2 a0 p0) (Vq a0 p0) o) (N2 a0 p0 s) := by
 obtain ⟨x6, x5⟩ := s
 unfold C5 at h
 try dsimp only at h
 conv => whnf
 refine Cells.lit rfl rfl ?_
 conv => whnf
 refine Len.map ?_
 conv => whnf
 refine Br.od h (fun p2 h => ?_) (fun p2 h => ?_)
 ·conv => whnf
  refine LoopQ.o [7, 6, 5, 2, 1] (Of a0 p0 x6) (U6 a0 p0 x6) h (fun s o h => Adp s o h) (by rfl) (fun _ => rfl) ?_
  rintro q19_5 h
  try dsimp only at h
  conv => whnf
  refine Ask.o h fun p20 h => ?_
  conv => whnf
  cases h; exact ⟨rfl, rfl⟩
 conv => whnf
 cases h; exact ⟨rfl, rfl⟩
noncomputable def Fu (a0 : SAlgebra) (p0 : (List Int)) : Option (List Int) :=
 (Gx (p0)).bind fun r1 =>
 (Al (C5 a0 p0) ((0 : Int), r1)).bind fun q21_5 =>
 some q21_5
theorem Akh {a0 : SAlgebra} {p0 : (List Int)} {v : (List Int)} (h : Fu a0 p0 = some v) : Ret Try.prog Tw [(Ak false) a0, (slr false 1 Af) p0] ((slr true 1 Af) v) := by
 refine A8 Alf (Nat.le_of_ble_eq_true rfl) ?_
 unfold Fu at h
 conv => whnf
 refine CallQ.o (slr true 1 Af) (by rfl) h (fun r h => Qn h) (fun r1 h => ?_)
 conv => whnf
 refine LoopQ.o [6, 5, 2, 1] (N2 a0 p0) (Vq a0 p0) h (fun s o h => Ad5 s o h) (by rfl) (fun _ => rfl) ?_
 rintro q21_5 h
 try dsimp only at h
 conv => whnf
 cases h; exact (by rfl)
noncomputable def Ct (n0 : Int) (r5 : List (List Bool)) (x7 : Int) (x8 : Int) : Int → Option (Int ⊕ (Unit ⊕ Unit)) := fun x9 =>
 if x9 < n0 then
 ask ((0 : Int) ≤ x7 ∧ x7 < (↑r5.length : Int)) <|
 ask ((0 : Int) ≤ x8 ∧ x8 < (↑(nth r5 x7.toNat).length : Int)) <|
 if (nth (nth r5 x7.toNat) x8.toNat) = true then
 ask ((0 : Int) ≤ x8 ∧ x8 < (↑r5.length : Int)) <|
 ask ((0 : Int) ≤ x9 ∧ x9 < (↑(nth r5 x8.toNat).length : Int)) <|
 if (nth (nth r5 x8.toNat) x9.toNat) = true then
 ask ((0 : Int) ≤ x7 ∧ x7 < (↑r5.length : Int)) <|
 ask ((0 : Int) ≤ x9 ∧ x9 < (↑(nth r5 x7.toNat).length : Int)) <|
 if (nth (nth r5 x7.toNat) x9.toNat) = true then
 ask (InI (x9 + (1 : Int))) <|
 some (.inl (x9 + (1 : Int)))
 else
 some (.inr (.inl ()))
 else
 ask (InI (x9 + (1 : Int))) <|
 some (.inl (x9 + (1 : Int)))
 else
 ask (InI (x9 + (1 : Int))) <|
 some (.inl (x9 + (1 : Int)))
 else
 some (.inr (.inr ()))
def Hz (n0 : Int) (r5 : List (List Bool)) (x7 : Int) (x8 : Int) : Int → St := fun s => [(9, A.val (Af s)), (8, A.val (Af (x8))), (7, A.val (Af (x7))), (6, A.val ((slr true 1 (slr true 1 V.bool)) (r5))), (0, A.val (Af (n0)))]
def L1 (n0 : Int) (r5 : List (List Bool)) (x7 : Int) (x8 : Int) : (Unit ⊕ Unit) → Tgt
 | (.inl _s) => (Ex.ret, [5, 4], [(5, A.val (V.bool (true))), (4, A.val (V.bool (false)))])
 | (.inr _s) => ((Ex.exit 4), [8, 7, 6, 0], [(8, A.val (Af (x8))), (7, A.val (Af (x7))), (6, A.val ((slr true 1 (slr true 1 V.bool)) (r5))), (0, A.val (Af (n0)))])
theorem Vo {n0 : Int} {r5 : List (List Bool)} {x7 : Int} {x8 : Int} (x9 : Int) (o : Int ⊕ (Unit ⊕ Unit)) (h : Ct n0 r5 x7 x8 x9 = some o) : vc Try.prog L7 (Cu [9, 8, 7, 6, 0] (Hz n0 r5 x7 x8) (L1 n0 r5 x7 x8) o) (Hz n0 r5 x7 x8 x9) := by
 unfold Ct at h
 try dsimp only at h
 conv => whnf
 refine Br.od h (fun p16 h => ?_) (fun p16 h => ?_)
 ·conv => whnf
  refine Len.map ?_
  conv => whnf
  refine Ask.o h fun p17 h => ?_
  conv => whnf
  refine Cells.one (fun _ => ⟨rfl, rfl⟩) (by first | omega | (simp [Ap] at *; omega)) ?_
  conv => whnf
  refine Kid.one (fun _ => ⟨rfl, rfl⟩) (by first | omega | (simp [Ap] at *; omega)) ?_
  conv => whnf
  refine Len.map ?_
  conv => whnf
  refine Ask.o h fun p18 h => ?_
  conv => whnf
  refine Kid.one (fun _ => ⟨rfl, rfl⟩) (by first | omega | (simp [Ap] at *; omega)) ?_
  conv => whnf
  refine Cells.one (fun _ => ⟨rfl, rfl⟩) (by first | omega | (simp [Ap] at *; omega)) ?_
  conv => whnf
  refine Br.ob h (fun p19 h => ?_) (fun p19 h => ?_)
  ·conv => whnf
   refine Br.yes ?_
   conv => whnf
   refine Br.yes ?_
   conv => whnf
   refine Len.map ?_
   conv => whnf
   refine Ask.o h fun p20 h => ?_
   conv => whnf
   refine Br.yes ?_
   conv => whnf
   refine Cells.one (fun _ => ⟨rfl, rfl⟩) (by first | omega | (simp [Ap] at *; omega)) ?_
   conv => whnf
   refine Br.yes ?_
   conv => whnf
   refine Br.yes ?_
   conv => whnf
   refine Kid.one (fun _ => ⟨rfl, rfl⟩) (by first | omega | (simp [Ap] at *; omega)) ?_
   conv => whnf
   refine Len.map ?_
   conv => whnf
   refine Ask.o h fun p21 h => ?_
   conv => whnf
   refine Br.yes ?_
   conv => whnf
   refine Kid.one (fun _ => ⟨rfl, rfl⟩) (by first | omega | (simp [Ap] at *; omega)) ?_
   conv => whnf
   refine Cells.one (fun _ => ⟨rfl, rfl⟩) (by first | omega | (simp [Ap] at *; omega)) ?_
   conv => whnf
   refine Br.yes ?_
   conv => whnf
   refine Br.ob h (fun p22 h => ?_) (fun p22 h => ?_)
   ·conv => whnf
    refine Br.yes ?_
    conv => whnf
    refine Br.yes ?_
    conv => whnf
    refine Len.map ?_
    conv => whnf
    refine Ask.o h fun p23 h => ?_
    conv => whnf
    refine Br.yes ?_
    conv => whnf
    refine Cells.one (fun _ => ⟨rfl, rfl⟩) (by first | omega | (simp [Ap] at *; omega)) ?_
    conv => whnf
    refine Br.yes ?_
    conv => whnf
    refine Br.yes ?_
    conv => whnf
    refine Kid.one (fun _ => ⟨rfl, rfl⟩) (by first | omega | (simp [Ap] at *; omega)) ?_
    conv => whnf
    refine Len.map ?_
    conv => whnf
    refine Ask.o h fun p24 h => ?_
    conv => whnf
    refine Br.yes ?_
    conv => whnf
    refine Kid.one (fun _ => ⟨rfl, rfl⟩) (by first | omega | (simp [Ap] at *; omega)) ?_
    conv => whnf
    refine Cells.one (fun _ => ⟨rfl, rfl⟩) (by first | omega | (simp [Ap] at *; omega)) ?_
    conv => whnf
    refine Br.yes ?_
    conv => whnf
    refine Br.yes ?_
    conv => whnf
    refine Br.flip ?_
    conv => whnf
    refine Br.ob h (fun p25 h => ?_) (fun p25 h => ?_)
    ·conv => whnf
     refine Ask.o h fun p26 h => ?_
     conv => whnf
     cases h; exact ⟨rfl, rfl⟩
    conv => whnf
    cases h; exact ⟨rfl, rfl⟩
   conv => whnf
   refine Br.no ?_
   conv => whnf
   refine Br.no ?_
   conv => whnf
   refine Br.no ?_
   conv => whnf
   refine Br.no ?_
   conv => whnf
   refine Br.no ?_
   conv => whnf
   refine Br.no ?_
   conv => whnf
   refine Br.no ?_
   conv => whnf
   refine Br.no ?_
   conv => whnf
   refine Br.no ?_
   conv => whnf
   refine Ask.o h fun p27 h => ?_
   conv => whnf
   cases h; exact ⟨rfl, rfl⟩
  conv => whnf
  refine Br.no ?_
  conv => whnf
  refine Br.no ?_
  conv => whnf
  refine Br.no ?_
  conv => whnf
  refine Br.no ?_
  conv => whnf
  refine Br.no ?_
  conv => whnf
  refine Br.no ?_
  conv => whnf
  refine Br.no ?_
  conv => whnf
  refine Br.no ?_
  conv => whnf
  refine Br.no ?_
  conv => whnf
  refine Br.no ?_
  conv => whnf
  refine Br.no ?_
  conv => whnf
  refine Br.no ?_
  conv => whnf
  refine Br.no ?_
  conv => whnf
  refine Br.no ?_
  conv => whnf
  refine Br.no ?_
  conv => whnf
  refine Br.no ?_
  conv => whnf
  refine Br.no ?_
  conv => whnf
  refine Ask.o h fun p28 h => ?_
  conv => whnf
  cases h; exact ⟨rfl, rfl⟩
 conv => whnf
 cases h; exact ⟨rfl, rfl⟩
noncomputable def Cp (n0 : Int) (r5 : List (List Bool)) (x7 : Int) : Int → Option (Int ⊕ (Unit ⊕ Unit)) := fun x8 =>
 if x8 < n0 then
 ask ((0 : Int) ≤ x7 ∧ x7 < (↑r5.length : Int)) <|
 ask ((0 : Int) ≤ x8 ∧ x8 < (↑(nth r5 x7.toNat).length : Int)) <|
 ask ((0 : Int) ≤ x8 ∧ x8 < (↑r5.length : Int)) <|
 ask ((0 : Int) ≤ x7 ∧ x7 < (↑(nth r5 x8.toNat).length : Int)) <|
 if (nth (nth r5 x7.toNat) x8.toNat == nth (nth r5 x8.toNat) x7.toNat) = true then
 (Al (Ct n0 r5 x7 x8) (0 : Int)).bind fun t => match t with
 | (.inl _) => (some (.inr (.inl ())))
 | (.inr _) => (ask (InI (x8 + (1 : Int))) <|
 some (.inl (x8 + (1 : Int))))
 else
 some (.inr (.inl ()))
 else
 some (.inr (.inr ()))
def Hn (n0 : Int) (r5 : List (List Bool)) (x7 : Int) : Int → St := fun s => [(8, A.val (Af s)), (7, A.val (Af (x7))), (6, A.val ((slr true 1 (slr true 1 V.bool)) (r5))), (0, A.val (Af (n0)))]
def Ma (n0 : Int) (r5 : List (List Bool)) (x7 : Int) : (Unit ⊕ Unit) → Tgt
 | (.inl _s) => (Ex.ret, [5, 4], [(5, A.val (V.bool (true))), (4, A.val (V.bool (false)))])
 | (.inr _s) => ((Ex.exit 2), [7, 6, 0], [(7, A.val (Af (x7))), (6, A.val ((slr true 1 (slr true 1 V.bool)) (r5))), (0, A.val (Af (n0)))])
theorem U7 {n0 : Int} {r5 : List (List Bool)} {x7 : Int} (x8 : Int) (o : Int ⊕ (Unit ⊕ Unit)) (h : Cp n0 r5 x7 x8 = some o) : vc Try.prog L6 (Cu [8, 7, 6, 0] (Hn n0 r5 x7) (Ma n0 r5 x7) o) (Hn n0 r5 x7 x8) := by
 unfold Cp at h
 try dsimp only at h
 conv => whnf
 refine Br.od h (fun p10 h => ?_) (fun p10 h => ?_)
 ·conv => whnf
  refine Len.map ?_
  conv => whnf
  refine Ask.o h fun p11 h => ?_
  conv => whnf
  refine Cells.one (fun _ => ⟨rfl, rfl⟩) (by first | omega | (simp [Ap] at *; omega)) ?_
  conv => whnf
  refine Kid.one (fun _ => ⟨rfl, rfl⟩) (by first | omega | (simp [Ap] at *; omega)) ?_
  conv => whnf
  refine Len.map ?_
  conv => whnf
  refine Ask.o h fun p12 h => ?_
  conv => whnf
  refine Kid.one (fun _ => ⟨rfl, rfl⟩) (by first | omega | (simp [Ap] at *; omega)) ?_
  conv => whnf
  refine Cells.one (fun _ => ⟨rfl, rfl⟩) (by first | omega | (simp [Ap] at *; omega)) ?_
  conv => whnf
  refine Len.map ?_
  conv => whnf
  refine Ask.o h fun p13 h => ?_
  conv => whnf
  refine Cells.one (fun _ => ⟨rfl, rfl⟩) (by first | omega | (simp [Ap] at *; omega)) ?_
  conv => whnf
  refine Kid.one (fun _ => ⟨rfl, rfl⟩) (by first | omega | (simp [Ap] at *; omega)) ?_
  conv => whnf
  refine Len.map ?_
  conv => whnf
  refine Ask.o h fun p14 h => ?_
  conv => whnf
  refine Kid.one (fun _ => ⟨rfl, rfl⟩) (by first | omega | (simp [Ap] at *; omega)) ?_
  conv => whnf
  refine Cells.one (fun _ => ⟨rfl, rfl⟩) (by first | omega | (simp [Ap] at *; omega)) ?_
  conv => whnf
  refine Br.flip ?_
  conv => whnf
  refine Br.ob h (fun p15 h => ?_) (fun p15 h => ?_)
  ·conv => whnf
   refine LoopQ.o [9, 8, 7, 6, 0] (Hz n0 r5 x7 x8) (L1 n0 r5 x7 x8) h (fun s o h => Vo s o h) (by rfl) (by rintro (_ | _) <;> rfl) ?_
   rintro (⟨⟩ | ⟨⟩) h
   ·try dsimp only at h
    conv => whnf
    cases h; exact ⟨rfl, rfl⟩
   try dsimp only at h
   conv => whnf
   refine Ask.o h fun p30 h => ?_
   conv => whnf
   cases h; exact ⟨rfl, rfl⟩
  conv => whnf
  cases h; exact ⟨rfl, rfl⟩
 conv => whnf
 cases h; exact ⟨rfl, rfl⟩
noncomputable def Cq (n0 : Int) (r5 : List (List Bool)) : Int → Option (Int ⊕ (Unit ⊕ Unit)) := fun x7 =>
 if x7 < n0 then
 ask ((0 : Int) ≤ x7 ∧ x7 < (↑r5.length : Int)) <|
 ask ((0 : Int) ≤ x7 ∧ x7 < (↑(nth r5 x7.toNat).length : Int)) <|
 if (nth (nth r5 x7.toNat) x7.toNat) = true then
 (Al (Cp n0 r5 x7) (0 : Int)).bind fun t => match t with
 | (.inl _) => (some (.inr (.inl ())))
 | (.inr _) => (ask (InI (x7 + (1 : Int))) <|
 some (.inl (x7 + (1 : Int))))
 else
 some (.inr (.inl ()))
 else
 some (.inr (.inr ()))
def Hr (n0 : Int) (r5 : List (List Bool)) : Int → St := fun s => [(7, A.val (Af s)), (6, A.val ((slr true 1 (slr true 1 V.bool)) (r5))), (0, A.val (Af (n0)))]
def L5 (_n0 : Int) (_r5 : List (List Bool)) : (Unit ⊕ Unit) → Tgt
 | (.inl _s) => (Ex.ret, [5, 4], [(5, A.val (V.bool (true))), (4, A.val (V.bool (false)))])
 | (.inr _s) => ((Ex.exit 0), [], [])
theorem Vz {n0 : Int} {r5 : List (List Bool)} (x7 : Int) (o : Int ⊕ (Unit ⊕ Unit)) (h : Cq n0 r5 x7 = some o) : vc Try.prog L0 (Cu [7, 6, 0] (Hr n0 r5) (L5 n0 r5) o) (Hr n0 r5 x7) := by
 unfold Cq at h
 try dsimp only at h
 conv => whnf
 refine Br.od h (fun p6 h => ?_) (fun p6 h => ?_)
 ·conv => whnf
  refine Len.map ?_
  conv => whnf
  refine Ask.o h fun p7 h => ?_
  conv => whnf
  refine Cells.one (fun _ => ⟨rfl, rfl⟩) (by first | omega | (simp [Ap] at *; omega)) ?_
  conv => whnf
  refine Kid.one (fun _ => ⟨rfl, rfl⟩) (by first | omega | (simp [Ap] at *; omega)) ?_
  conv => whnf
  refine Len.map ?_
  conv => whnf
  refine Ask.o h fun p8 h => ?_
  conv => whnf
  refine Kid.one (fun _ => ⟨rfl, rfl⟩) (by first | omega | (simp [Ap] at *; omega)) ?_
  conv => whnf
  refine Cells.one (fun _ => ⟨rfl, rfl⟩) (by first | omega | (simp [Ap] at *; omega)) ?_
  conv => whnf
  refine Br.flip ?_
  conv => whnf
  refine Br.ob h (fun p9 h => ?_) (fun p9 h => ?_)
  ·conv => whnf
   refine LoopQ.o [8, 7, 6, 0] (Hn n0 r5 x7) (Ma n0 r5 x7) h (fun s o h => U7 s o h) (by rfl) (by rintro (_ | _) <;> rfl) ?_
   rintro (⟨⟩ | ⟨⟩) h
   ·try dsimp only at h
    conv => whnf
    cases h; exact ⟨rfl, rfl⟩
   try dsimp only at h
   conv => whnf
   refine Ask.o h fun p32 h => ?_
   conv => whnf
   cases h; exact ⟨rfl, rfl⟩
  conv => whnf
  cases h; exact ⟨rfl, rfl⟩
 conv => whnf
 cases h; exact ⟨rfl, rfl⟩
noncomputable def B6 (n0 : Int) (r0 : SRelation) : Option (Bool × Bool) :=
 (((Dl (n0) (r0)).bind fun r1 =>
 if (r1) = true then
 if r0.Arity ≠ (2 : Int) then
 some (.inl ())
 else
 some (.inr ())
 else
 some (.inl ()) : Option (Unit ⊕ Unit))).bind fun t => match t with
 | (.inl _) => (some (false, false))
 | (.inr _) => ((Ew (n0) (r0)).bind fun r5 =>
 (Al (Cq n0 r5) (0 : Int)).bind fun t => match t with
 | (.inl _) => (some (false, true))
 | (.inr _) => (some (true, true)))
theorem Pn {n0 : Int} {r0 : SRelation} {v : (Bool × Bool)} (h : B6 n0 r0 = some v) : Ret Try.prog Gv [Af n0, (Ai false) r0] ((fun r => V.tup [V.bool r.1, V.bool r.2]) v) := by
 refine A8 Yg (Nat.le_of_ble_eq_true rfl) ?_
 unfold B6 at h
 conv => whnf
 refine CutQ.o (fun t : (Unit ⊕ Unit) => match t with | (.inl s) => (Ex.ret, [5, 4], [(5, A.val (V.bool (false))), (4, A.val (V.bool (false)))]) | (.inr s) => (Ex.normal, [3, 0], [(3, A.val ((rP true (Ai false)) (r0))), (0, A.val (Af (n0)))])) h ?_ ?_
 ·intro t h
  conv => whnf
  refine Cells.lit rfl rfl ?_
  conv => whnf
  refine CallQ.o V.bool (by rfl) h (fun r h => Rd h) (fun r1 h => ?_)
  conv => whnf
  refine Br.flip ?_
  conv => whnf
  refine Br.ob h (fun p2 h => ?_) (fun p2 h => ?_)
  ·conv => whnf
   refine Br.no ?_
   conv => whnf
   refine Cells.lit rfl rfl ?_
   conv => whnf
   refine Br.no ?_
   conv => whnf
   refine Br.no ?_
   conv => whnf
   refine Br.on h (fun p3 h => ?_) (fun p3 h => ?_)
   ·conv => whnf
    cases h; exact ⟨rfl, rfl⟩
   conv => whnf
   cases h; exact ⟨rfl, rfl⟩
  conv => whnf
  refine Br.yes ?_
  conv => whnf
  refine Br.yes ?_
  conv => whnf
  refine Br.yes ?_
  conv => whnf
  refine Br.yes ?_
  conv => whnf
  cases h; exact ⟨rfl, rfl⟩
 rintro (⟨⟩ | ⟨⟩) h
 ·try dsimp only at h
  conv => whnf
  cases h; exact (by rfl)
 try dsimp only at h
 conv => whnf
 refine Cells.lit rfl rfl ?_
 conv => whnf
 refine CallQ.o (slr true 1 (slr true 1 V.bool)) (by rfl) h (fun r h => Y1 h) (fun r5 h => ?_)
 conv => whnf
 refine LoopQ.o [7, 6, 0] (Hr n0 r5) (L5 n0 r5) h (fun s o h => Vz s o h) (by rfl) (by rintro (_ | _) <;> rfl) ?_
 rintro (⟨⟩ | ⟨⟩) h
 ·try dsimp only at h
  conv => whnf
  cases h; exact (by rfl)
 try dsimp only at h
 conv => whnf
 cases h; exact (by rfl)
noncomputable def Hh (a0 : SAlgebra) (p0 : (List Int)) : Option (Bool × Bool) :=
 (F1 (a0)).bind fun r1 =>
 if (r1) = true then
 (Fl (a0) (p0)).bind fun r3 =>
 some (r3, true)
 else
 some (false, false)
theorem Z5 {a0 : SAlgebra} {p0 : (List Int)} {v : (Bool × Bool)} (h : Hh a0 p0 = some v) : Ret Try.prog Kf [(Ak false) a0, (slr false 1 Af) p0] ((fun r => V.tup [V.bool r.1, V.bool r.2]) v) := by
 refine A8 Zq (Nat.le_of_ble_eq_true rfl) ?_
 unfold Hh at h
 conv => whnf
 refine Cells.lit rfl rfl ?_
 conv => whnf
 refine CallQ.o V.bool (by rfl) h (fun r h => V5 h) (fun r1 h => ?_)
 conv => whnf
 refine Br.flip ?_
 conv => whnf
 refine Br.ob h (fun p2 h => ?_) (fun p2 h => ?_)
 ·conv => whnf
  refine Cells.lit rfl rfl ?_
  conv => whnf
  refine CallQ.o V.bool (by rfl) h (fun r h => Zx h) (fun r3 h => ?_)
  conv => whnf
  cases h; exact (by rfl)
 conv => whnf
 cases h; exact (by rfl)
end Go.Proofs.Ytcpgnfohmeineaa.Ax
