/-
 What the functions compute, as functions on plain data, and that the program does compute it; written by program.
-/
import Derived.Test.YtiakjbigaaanhaaCode
import Derived.Test.YtiakjbigaaanhaaG1
import Derived.Test.YtiakjbigaaanhaaG2
namespace Go.Proofs.Ytiakjbigaaanhaa.Ax
open Go
set_option maxRecDepth 100000
set_option maxHeartbeats 4000000
noncomputable def Ak (c0 : Sl1Cur) (n0 : Int) : Option (Int × Sl1Cur) :=
 if n0 ≤ (1 : Int) then
 some ((0 : Int), c0)
 else
 (Dx (c0)).bind fun (r2, u3) =>
 if n0 > (200 : Int) then
 ask (InI (r2 * (256 : Int))) <|
 (Dx (u3)).bind fun (r6, u7) =>
 ask (InI (r2 * (256 : Int) + r6)) <|
 ask (n0 ≠ (0 : Int)) <|
 some ((r2 * (256 : Int) + r6).tmod n0, u7)
 else
 ask (n0 ≠ (0 : Int)) <|
 some (r2.tmod n0, u3)
theorem Ar {c0 : Sl1Cur} {n0 : Int} {v : (Int × Sl1Cur)} (h : Ak c0 n0 = some v) : Tu Try.prog Ao [(rP true (Aj false)) c0, Ag n0] (Ag v.1) 0 ((rP true (Aj false)) v.2) := by
 refine Qh Zy (Nat.le_of_ble_eq_true rfl) ?_
 unfold Ak at h
 conv => whnf
 refine Br.od h (fun p1 h => ?_) (fun p1 h => ?_)
 ·conv => whnf
  cases h; exact ⟨(by first | rfl | simp only [Ah, Aa, V.fz, fzL, V.up, upL, Ab, Ac, Ad, slr] | simp [Ah, Aa, V.fz, fzL, V.up, upL, Ab, Ac, Ad, slr]), (by first | rfl | simp only [Ah, Aa, V.fz, fzL, V.up, upL, Ab, Ac, Ad, slr] | simp [Ah, Aa, V.fz, fzL, V.up, upL, Ab, Ac, Ad, slr])⟩
 conv => whnf
 refine CallQ.io Ag (rP true (Aj false)) (by first | rfl | simp only [Aa, V.fz, fzL, V.up, upL, Ab, Ac, Ad, slr, List.cons_append, List.nil_append] | simp [Aa, V.fz, fzL, V.up, upL, Ab, Ac, Ad, slr]) rfl (fun _ => rfl) (fun _ => ⟨rfl, rfl⟩) rfl h (fun r h => Ps h) (fun r2 u3 h => ?_)
 conv => whnf
 refine Br.od h (fun p4 h => ?_) (fun p4 h => ?_)
 ·conv => whnf
  refine Ask.o h fun p5 h => ?_
  conv => whnf
  refine CallQ.io Ag (rP true (Aj false)) (by first | rfl | simp only [Aa, V.fz, fzL, V.up, upL, Ab, Ac, Ad, slr, List.cons_append, List.nil_append] | simp [Aa, V.fz, fzL, V.up, upL, Ab, Ac, Ad, slr]) rfl (fun _ => rfl) (fun _ => ⟨rfl, rfl⟩) rfl h (fun r h => Ps h) (fun r6 u7 h => ?_)
  conv => whnf
  refine Ask.o h fun p8 h => ?_
  conv => whnf
  refine Ask.o h fun p9 h => ?_
  conv => whnf
  cases h; exact ⟨(by first | rfl | simp only [Ah, Aa, V.fz, fzL, V.up, upL, Ab, Ac, Ad, slr] | simp [Ah, Aa, V.fz, fzL, V.up, upL, Ab, Ac, Ad, slr]), (by first | rfl | simp only [Ah, Aa, V.fz, fzL, V.up, upL, Ab, Ac, Ad, slr] | simp [Ah, Aa, V.fz, fzL, V.up, upL, Ab, Ac, Ad, slr])⟩
 conv => whnf
 refine Ask.o h fun p10 h => ?_
 conv => whnf
 cases h; exact ⟨(by first | rfl | simp only [Ah, Aa, V.fz, fzL, V.up, upL, Ab, Ac, Ad, slr] | simp [Ah, Aa, V.fz, fzL, V.up, upL, Ab, Ac, Ad, slr]), (by first | rfl | simp only [Ah, Aa, V.fz, fzL, V.up, upL, Ab, Ac, Ad, slr] | simp [Ah, Aa, V.fz, fzL, V.up, upL, Ab, Ac, Ad, slr])⟩
noncomputable def Ib (a0 : SAlgebra) (b0 : SAlgebra) (f0 : (List Int)) : Option Bool :=
 if (↑f0.length : Int) = a0.Size then
 (Er (f0) (b0.Size)).bind fun r2 =>
 some r2
 else
 some false
theorem Yg {a0 : SAlgebra} {b0 : SAlgebra} {f0 : (List Int)} {v : Bool} (h : Ib a0 b0 f0 = some v) : Ret Try.prog Ns [(Ae false) a0, (Ae false) b0, (slr false 1 Ag) f0] (V.bool v) := by
 refine Av Alu (Nat.le_of_ble_eq_true rfl) ?_
 unfold Ib at h
 conv => whnf
 refine Len.map ?_
 conv => whnf
 refine Cells.lit rfl rfl ?_
 conv => whnf
 refine Br.oe h (fun p1 h => ?_) (fun p1 h => ?_)
 ·conv => whnf
  refine Br.yes ?_
  conv => whnf
  refine Br.yes ?_
  conv => whnf
  refine Cells.lit rfl rfl ?_
  conv => whnf
  refine Br.yes ?_
  conv => whnf
  refine CallQ.o V.bool (by first | rfl | simp only [Aa, V.fz, fzL, V.up, upL, Ab, Ac, Ad, slr, List.cons_append, List.nil_append] | simp [Aa, V.fz, fzL, V.up, upL, Ab, Ac, Ad, slr]) h (fun r h => L4 h) (fun r2 h => ?_)
  conv => whnf
  refine Br.yes ?_
  conv => whnf
  cases h; exact (by first | rfl | simp only [Ah, Aa, V.fz, fzL, V.up, upL, Ab, Ac, Ad, slr] | simp [Ah, Aa, V.fz, fzL, V.up, upL, Ab, Ac, Ad, slr])
 conv => whnf
 refine Br.no ?_
 conv => whnf
 refine Br.no ?_
 conv => whnf
 refine Br.no ?_
 conv => whnf
 refine Br.no ?_
 conv => whnf
 cases h; exact (by first | rfl | simp only [Ah, Aa, V.fz, fzL, V.up, upL, Ab, Ac, Ad, slr] | simp [Ah, Aa, V.fz, fzL, V.up, upL, Ab, Ac, Ad, slr])
noncomputable def Dv (a0 : SAlgebra) (b0 : SAlgebra) (f0 : List Int) (x15 : Int) : Int → Option (Int ⊕ (Int ⊕ Unit)) := fun x23 =>
 if x23 < (↑(nth a0.Ops x15.toNat).Table.length : Int) then
 ask ((0 : Int) ≤ x23 ∧ x23 < (↑(nth a0.Ops x15.toNat).Table.length : Int)) <|
 ask ((0 : Int) ≤ nth (nth a0.Ops x15.toNat).Table x23.toNat ∧ nth (nth a0.Ops x15.toNat).Table x23.toNat < (↑f0.length : Int)) <|
 ask ((0 : Int) ≤ x15 ∧ x15 < (↑b0.Ops.length : Int)) <|
 (Fc (x23) ((nth a0.Ops x15.toNat).Arity) (a0) (b0) (f0)).bind fun r7 =>
 ask ((0 : Int) ≤ r7 ∧ r7 < (↑(nth b0.Ops x15.toNat).Table.length : Int)) <|
 if nth f0 (nth (nth a0.Ops x15.toNat).Table x23.toNat).toNat ≠ nth (nth b0.Ops x15.toNat).Table r7.toNat then
 some (.inr (.inl x23))
 else
 ask (InI (x23 + (1 : Int))) <|
 some (.inl (x23 + (1 : Int)))
 else
 some (.inr (.inr ()))
def Kk (a0 : SAlgebra) (b0 : SAlgebra) (f0 : List Int) (x15 : Int) : Int → St := fun s => [(23, A.val (Ag s)), (22, A.val (Ag ((↑(nth a0.Ops x15.toNat).Table.length : Int)))), (21, A.val ((slr false 1 Ag) ((nth a0.Ops x15.toNat).Table))), (8, A.val (Ag (x15))), (9, A.val ((rP true (A1 false)) (nth a0.Ops x15.toNat))), (15, A.val (Ag (x15))), (14, A.val (Ag ((↑a0.Ops.length : Int)))), (13, A.val ((slr false 2 (A1 false)) (a0.Ops))), (4, A.val ((rP true (Ae false)) (b0))), (3, A.val ((rP true (Ae false)) (a0))), (2, A.val ((slr false 1 Ag) (f0)))]
def P3 (a0 : SAlgebra) (b0 : SAlgebra) (f0 : List Int) (x15 : Int) : (Int ⊕ Unit) → Tgt
 | (.inl s) => (Ex.ret, [7, 6], [(7, A.val (Ag s)), (6, A.val (Ag (x15)))])
 | (.inr _s) => ((Ex.exit 2), [15, 14, 13, 4, 3, 2], [(15, A.val (Ag (x15))), (14, A.val (Ag ((↑a0.Ops.length : Int)))), (13, A.val ((slr false 2 (A1 false)) (a0.Ops))), (4, A.val ((rP true (Ae false)) (b0))), (3, A.val ((rP true (Ae false)) (a0))), (2, A.val ((slr false 1 Ag) (f0)))])
theorem Ym {a0 : SAlgebra} {b0 : SAlgebra} {f0 : List Int} {x15 : Int} (x23 : Int) (o : Int ⊕ (Int ⊕ Unit)) (h : Dv a0 b0 f0 x15 x23 = some o) : vc Try.prog Pi (Cc [23, 22, 21, 8, 9, 15, 14, 13, 4, 3, 2] (Kk a0 b0 f0 x15) (P3 a0 b0 f0 x15) o) (Kk a0 b0 f0 x15 x23) := by
 unfold Dv at h
 try dsimp only at h
 conv => whnf
 refine Br.od h (fun p3 h => ?_) (fun p3 h => ?_)
 ·conv => whnf
  refine Len.map ?_
  conv => whnf
  refine Ask.o h fun p4 h => ?_
  conv => whnf
  refine Elem.o (by first | omega | (simp [Ap] at *; omega)) ?_
  conv => whnf
  refine Len.map ?_
  conv => whnf
  refine Ask.o h fun p5 h => ?_
  conv => whnf
  refine Elem.o (by first | omega | (simp [Ap] at *; omega)) ?_
  conv => whnf
  refine Cells.lit rfl rfl ?_
  conv => whnf
  refine Len.map ?_
  conv => whnf
  refine Ask.o h fun p6 h => ?_
  conv => whnf
  refine Elem.o (by first | omega | (simp [Ap] at *; omega)) ?_
  conv => whnf
  refine Cells.lit rfl rfl ?_
  conv => whnf
  refine Cells.lit rfl rfl ?_
  conv => whnf
  refine Cells.lit rfl rfl ?_
  conv => whnf
  refine CallP.o Ag (by first | rfl | simp only [Aa, V.fz, fzL, V.up, upL, Ab, Ac, Ad, slr, List.cons_append, List.nil_append] | simp [Aa, V.fz, fzL, V.up, upL, Ab, Ac, Ad, slr]) h (fun r h => Yq h) (fun r7 h => ?_)
  conv => whnf
  refine Len.map ?_
  conv => whnf
  refine Ask.o h fun p8 h => ?_
  conv => whnf
  refine Elem.o (by first | omega | (simp [Ap] at *; omega)) ?_
  conv => whnf
  refine Br.on h (fun p9 h => ?_) (fun p9 h => ?_)
  ·conv => whnf
   cases h; exact ⟨rfl, rfl⟩
  conv => whnf
  refine Ask.o h fun p10 h => ?_
  conv => whnf
  cases h; exact ⟨rfl, rfl⟩
 conv => whnf
 cases h; exact ⟨rfl, rfl⟩
noncomputable def D4 (a0 : SAlgebra) (b0 : SAlgebra) (f0 : List Int) : Int → Option (Int ⊕ ((Int × Int) ⊕ Unit)) := fun x15 =>
 if x15 < (↑a0.Ops.length : Int) then
 ask ((0 : Int) ≤ x15 ∧ x15 < (↑a0.Ops.length : Int)) <|
 (Am (Dv a0 b0 f0 x15) (0 : Int)).bind fun t => match t with
 | (.inl q11_7) => (some (.inr (.inl (q11_7, x15))))
 | (.inr _) => (ask (InI (x15 + (1 : Int))) <|
 some (.inl (x15 + (1 : Int))))
 else
 some (.inr (.inr ()))
def Jz (a0 : SAlgebra) (b0 : SAlgebra) (f0 : List Int) : Int → St := fun s => [(15, A.val (Ag s)), (14, A.val (Ag ((↑a0.Ops.length : Int)))), (13, A.val ((slr false 2 (A1 false)) (a0.Ops))), (4, A.val ((rP true (Ae false)) (b0))), (3, A.val ((rP true (Ae false)) (a0))), (2, A.val ((slr false 1 Ag) (f0)))]
def Pz (_a0 : SAlgebra) (_b0 : SAlgebra) (_f0 : List Int) : ((Int × Int) ⊕ Unit) → Tgt
 | (.inl s) => (Ex.ret, [7, 6], [(7, A.val (Ag s.1)), (6, A.val (Ag s.2))])
 | (.inr _s) => ((Ex.exit 0), [], [])
theorem Zh {a0 : SAlgebra} {b0 : SAlgebra} {f0 : List Int} (x15 : Int) (o : Int ⊕ ((Int × Int) ⊕ Unit)) (h : D4 a0 b0 f0 x15 = some o) : vc Try.prog P4 (Cc [15, 14, 13, 4, 3, 2] (Jz a0 b0 f0) (Pz a0 b0 f0) o) (Jz a0 b0 f0 x15) := by
 unfold D4 at h
 try dsimp only at h
 conv => whnf
 refine Br.od h (fun p1 h => ?_) (fun p1 h => ?_)
 ·conv => whnf
  refine Len.map ?_
  conv => whnf
  refine Ask.o h fun p2 h => ?_
  conv => whnf
  refine Elem.o (by first | omega | (simp [Ap] at *; omega)) ?_
  conv => whnf
  refine SetKids.lit rfl ?_
  conv => whnf
  refine Cells.lit rfl rfl ?_
  conv => whnf
  refine Len.map ?_
  conv => whnf
  refine LoopQ.o [23, 22, 21, 8, 9, 15, 14, 13, 4, 3, 2] (Kk a0 b0 f0 x15) (P3 a0 b0 f0 x15) h (fun s o h => Ym s o h) (by first | rfl | simp [restrict, look, Aa, V.fz, fzL, V.up, upL, Ab, Ac, Ad, slr]) (by rintro (_ | _) <;> rfl) ?_
  rintro (q11_7 | ⟨⟩) h
  ·try dsimp only at h
   conv => whnf
   cases h; exact ⟨rfl, rfl⟩
  try dsimp only at h
  conv => whnf
  refine Ask.o h fun p12 h => ?_
  conv => whnf
  cases h; exact ⟨rfl, rfl⟩
 conv => whnf
 cases h; exact ⟨rfl, rfl⟩
noncomputable def E3 (a0 : SAlgebra) (b0 : SAlgebra) (f0 : (List Int)) : Option (Int × Int) :=
 (Am (D4 a0 b0 f0) (0 : Int)).bind fun t => match t with
 | (.inl (q13_7, q13_6)) => (some (q13_6, q13_7))
 | (.inr _) => (some ((-1 : Int), (0 : Int)))
theorem V1 {a0 : SAlgebra} {b0 : SAlgebra} {f0 : (List Int)} {v : (Int × Int)} (h : E3 a0 b0 f0 = some v) : Ret Try.prog Jo [(Ae false) a0, (Ae false) b0, (slr false 1 Ag) f0] ((fun r => V.tup [Ag r.1, Ag r.2]) v) := by
 refine Av Ag0 (Nat.le_of_ble_eq_true rfl) ?_
 unfold E3 at h
 conv => whnf
 refine Cells.lit rfl rfl ?_
 conv => whnf
 refine Len.map ?_
 conv => whnf
 refine LoopQ.o [15, 14, 13, 4, 3, 2] (Jz a0 b0 f0) (Pz a0 b0 f0) h (fun s o h => Zh s o h) (by first | rfl | simp [restrict, look, Aa, V.fz, fzL, V.up, upL, Ab, Ac, Ad, slr]) (by rintro (_ | _) <;> rfl) ?_
 rintro (⟨q13_7, q13_6⟩ | ⟨⟩) h
 ·try dsimp only at h
  conv => whnf
  cases h; exact (by first | rfl | simp only [Ah, Aa, V.fz, fzL, V.up, upL, Ab, Ac, Ad, slr] | simp [Ah, Aa, V.fz, fzL, V.up, upL, Ab, Ac, Ad, slr])
 try dsimp only at h
 conv => whnf
 cases h; exact (by first | rfl | simp only [Ah, Aa, V.fz, fzL, V.up, upL, Ab, Ac, Ad, slr] | simp [Ah, Aa, V.fz, fzL, V.up, upL, Ab, Ac, Ad, slr])
noncomputable def D2 (a0 : SAlgebra) (b0 : SAlgebra) (f0 : List Int) (x9 : Int) : Int → Option (Int ⊕ ((List Int) ⊕ Unit)) := fun x10 =>
 ask ((0 : Int) ≤ x9 ∧ x9 < (↑a0.Ops.length : Int)) <|
 if x10 < (↑(nth a0.Ops x9.toNat).Table.length : Int) then
 ask ((0 : Int) ≤ x9 ∧ x9 < (↑a0.Ops.length : Int)) <|
 (Cw (a0.Size) ((nth a0.Ops x9.toNat).Arity) (x10)).bind fun r5 =>
 ask ((0 : Int) ≤ x9 ∧ x9 < (↑a0.Ops.length : Int)) <|
 ask ((0 : Int) ≤ x10 ∧ x10 < (↑(nth a0.Ops x9.toNat).Table.length : Int)) <|
 ask ((0 : Int) ≤ nth (nth a0.Ops x9.toNat).Table x10.toNat ∧ nth (nth a0.Ops x9.toNat).Table x10.toNat < (↑f0.length : Int)) <|
 (Cf (f0) (r5)).bind fun r9 =>
 (Ev (b0) (x9) (r9)).bind fun r10 =>
 if nth f0 (nth (nth a0.Ops x9.toNat).Table x10.toNat).toNat ≠ r10 then
 some (.inr (.inl r5))
 else
 ask (InI (x10 + (1 : Int))) <|
 some (.inl (x10 + (1 : Int)))
 else
 some (.inr (.inr ()))
def J1 (a0 : SAlgebra) (b0 : SAlgebra) (f0 : List Int) (x9 : Int) : Int → St := fun s => [(10, A.val (Ag s)), (9, A.val (Ag (x9))), (4, A.val ((rP true (Ae false)) (b0))), (3, A.val ((rP true (Ae false)) (a0))), (2, A.val ((slr false 1 Ag) (f0)))]
def P5 (a0 : SAlgebra) (b0 : SAlgebra) (f0 : List Int) (x9 : Int) : ((List Int) ⊕ Unit) → Tgt
 | (.inl s) => (Ex.ret, [8, 7, 6], [(8, A.val (V.bool (true))), (7, A.val ((slr true 1 Ag) s)), (6, A.val (Ag (x9)))])
 | (.inr _s) => ((Ex.exit 2), [9, 4, 3, 2], [(9, A.val (Ag (x9))), (4, A.val ((rP true (Ae false)) (b0))), (3, A.val ((rP true (Ae false)) (a0))), (2, A.val ((slr false 1 Ag) (f0)))])
theorem Y8 {a0 : SAlgebra} {b0 : SAlgebra} {f0 : List Int} {x9 : Int} (x10 : Int) (o : Int ⊕ ((List Int) ⊕ Unit)) (h : D2 a0 b0 f0 x9 x10 = some o) : vc Try.prog Pv (Cc [10, 9, 4, 3, 2] (J1 a0 b0 f0 x9) (P5 a0 b0 f0 x9) o) (J1 a0 b0 f0 x9 x10) := by
 unfold D2 at h
 try dsimp only at h
 conv => whnf
 refine Cells.lit rfl rfl ?_
 conv => whnf
 refine Len.map ?_
 conv => whnf
 refine Ask.o h fun p2 h => ?_
 conv => whnf
 refine Elem.o (by first | omega | (simp [Ap] at *; omega)) ?_
 conv => whnf
 refine Len.map ?_
 conv => whnf
 refine Br.od h (fun p3 h => ?_) (fun p3 h => ?_)
 ·conv => whnf
  refine Cells.lit rfl rfl ?_
  conv => whnf
  refine Cells.lit rfl rfl ?_
  conv => whnf
  refine Len.map ?_
  conv => whnf
  refine Ask.o h fun p4 h => ?_
  conv => whnf
  refine Elem.o (by first | omega | (simp [Ap] at *; omega)) ?_
  conv => whnf
  refine CallQ.o (slr true 1 Ag) (by first | rfl | simp only [Aa, V.fz, fzL, V.up, upL, Ab, Ac, Ad, slr, List.cons_append, List.nil_append] | simp [Aa, V.fz, fzL, V.up, upL, Ab, Ac, Ad, slr]) h (fun r h => Iq h) (fun r5 h => ?_)
  conv => whnf
  refine Cells.lit rfl rfl ?_
  conv => whnf
  refine Len.map ?_
  conv => whnf
  refine Ask.o h fun p6 h => ?_
  conv => whnf
  refine Elem.o (by first | omega | (simp [Ap] at *; omega)) ?_
  conv => whnf
  refine Len.map ?_
  conv => whnf
  refine Ask.o h fun p7 h => ?_
  conv => whnf
  refine Elem.o (by first | omega | (simp [Ap] at *; omega)) ?_
  conv => whnf
  refine Len.map ?_
  conv => whnf
  refine Ask.o h fun p8 h => ?_
  conv => whnf
  refine Elem.o (by first | omega | (simp [Ap] at *; omega)) ?_
  conv => whnf
  refine Cells.lit rfl rfl ?_
  conv => whnf
  refine CallP.rd (slr true 1 Ag) (by first | rfl | simp only [V.fz, V.up, Ab, slr] | simp [Aa, V.fz, fzL, V.up, upL, Ab, Ac, Ad, slr]) (fun _ => by simp [V.noFz, Bp]) h (fun r h => M8 h) (fun r9 h => ?_)
  conv => whnf
  refine CallP.rd Ag (by first | rfl | simp only [V.fz, fzL, V.up, Ab, Ad, slr] | simp [Aa, V.fz, fzL, V.up, upL, Ab, Ac, Ad, slr]) (fun _ => rfl) h (fun r h => Ox h) (fun r10 h => ?_)
  conv => whnf
  refine Br.on h (fun p11 h => ?_) (fun p11 h => ?_)
  ·conv => whnf
   cases h; exact ⟨rfl, rfl⟩
  conv => whnf
  refine Ask.o h fun p12 h => ?_
  conv => whnf
  cases h; exact ⟨rfl, rfl⟩
 conv => whnf
 cases h; exact ⟨rfl, rfl⟩
noncomputable def D0 (a0 : SAlgebra) (b0 : SAlgebra) (f0 : List Int) : Int → Option (Int ⊕ (((List Int) × Int) ⊕ Unit)) := fun x9 =>
 if x9 < (↑a0.Ops.length : Int) then
 (Am (D2 a0 b0 f0 x9) (0 : Int)).bind fun t => match t with
 | (.inl q13_7) => (some (.inr (.inl (q13_7, x9))))
 | (.inr _) => (ask (InI (x9 + (1 : Int))) <|
 some (.inl (x9 + (1 : Int))))
 else
 some (.inr (.inr ()))
def Js (a0 : SAlgebra) (b0 : SAlgebra) (f0 : List Int) : Int → St := fun s => [(9, A.val (Ag s)), (4, A.val ((rP true (Ae false)) (b0))), (3, A.val ((rP true (Ae false)) (a0))), (2, A.val ((slr false 1 Ag) (f0)))]
def Pj (_a0 : SAlgebra) (_b0 : SAlgebra) (_f0 : List Int) : (((List Int) × Int) ⊕ Unit) → Tgt
 | (.inl s) => (Ex.ret, [8, 7, 6], [(8, A.val (V.bool (true))), (7, A.val ((slr true 1 Ag) s.1)), (6, A.val (Ag s.2))])
 | (.inr _s) => ((Ex.exit 0), [], [])
theorem Z5 {a0 : SAlgebra} {b0 : SAlgebra} {f0 : List Int} (x9 : Int) (o : Int ⊕ (((List Int) × Int) ⊕ Unit)) (h : D0 a0 b0 f0 x9 = some o) : vc Try.prog Pm (Cc [9, 4, 3, 2] (Js a0 b0 f0) (Pj a0 b0 f0) o) (Js a0 b0 f0 x9) := by
 unfold D0 at h
 try dsimp only at h
 conv => whnf
 refine Cells.lit rfl rfl ?_
 conv => whnf
 refine Len.map ?_
 conv => whnf
 refine Br.od h (fun p1 h => ?_) (fun p1 h => ?_)
 ·conv => whnf
  refine LoopQ.o [10, 9, 4, 3, 2] (J1 a0 b0 f0 x9) (P5 a0 b0 f0 x9) h (fun s o h => Y8 s o h) (by first | rfl | simp [restrict, look, Aa, V.fz, fzL, V.up, upL, Ab, Ac, Ad, slr]) (by rintro (_ | _) <;> rfl) ?_
  rintro (q13_7 | ⟨⟩) h
  ·try dsimp only at h
   conv => whnf
   cases h; exact ⟨rfl, rfl⟩
  try dsimp only at h
  conv => whnf
  refine Ask.o h fun p14 h => ?_
  conv => whnf
  cases h; exact ⟨rfl, rfl⟩
 conv => whnf
 cases h; exact ⟨rfl, rfl⟩
noncomputable def E4 (a0 : SAlgebra) (b0 : SAlgebra) (f0 : (List Int)) : Option (Int × (List Int) × Bool) :=
 (Am (D0 a0 b0 f0) (0 : Int)).bind fun t => match t with
 | (.inl (q15_7, q15_6)) => (some (q15_6, q15_7, true))
 | (.inr _) => (some ((0 : Int), Al Int, false))
theorem Uz {a0 : SAlgebra} {b0 : SAlgebra} {f0 : (List Int)} {v : (Int × (List Int) × Bool)} (h : E4 a0 b0 f0 = some v) : Ret Try.prog Jp [(Ae false) a0, (Ae false) b0, (slr false 1 Ag) f0] ((fun r => V.tup [Ag r.1, (slr true 1 Ag) r.2.1, V.bool r.2.2]) v) := by
 refine Av Aey (Nat.le_of_ble_eq_true rfl) ?_
 unfold E4 at h
 conv => whnf
 refine LoopQ.o [9, 4, 3, 2] (Js a0 b0 f0) (Pj a0 b0 f0) h (fun s o h => Z5 s o h) (by first | rfl | simp [restrict, look, Aa, V.fz, fzL, V.up, upL, Ab, Ac, Ad, slr]) (by rintro (_ | _) <;> rfl) ?_
 rintro (⟨q15_7, q15_6⟩ | ⟨⟩) h
 ·try dsimp only at h
  conv => whnf
  cases h; exact (by first | rfl | simp only [Ah, Aa, V.fz, fzL, V.up, upL, Ab, Ac, Ad, slr] | simp [Ah, Aa, V.fz, fzL, V.up, upL, Ab, Ac, Ad, slr])
 try dsimp only at h
 conv => whnf
 refine BslQ.o Ag (Al Int) (by exact fun _ => ⟨rfl, rfl⟩) (by first | rfl | simp only [Aa, V.fz, fzL, V.up, upL, Ab, Ac, Ad, slr, List.cons_append, List.nil_append] | simp [Aa, V.fz, fzL, V.up, upL, Ab, Ac, Ad, slr]) ?_
 conv => whnf
 cases h; exact (by first | rfl | simp only [Ah, Aa, V.fz, fzL, V.up, upL, Ab, Ac, Ad, slr] | simp [Ah, Aa, V.fz, fzL, V.up, upL, Ab, Ac, Ad, slr])
noncomputable def Cx (list0 : List Int) : (Int × (List Bool)) → Option ((Int × (List Bool)) ⊕ (Unit ⊕ Unit)) := fun (x22, x5) =>
 if x22 < (↑list0.length : Int) then
 ask ((0 : Int) ≤ x22 ∧ x22 < (↑list0.length : Int)) <|
 ask ((0 : Int) ≤ nth list0 x22.toNat ∧ nth list0 x22.toNat < (↑x5.length : Int)) <|
 if (nth x5 (nth list0 x22.toNat).toNat) = true then
 some (.inr (.inl ()))
 else
 ask ((0 : Int) ≤ nth list0 x22.toNat ∧ nth list0 x22.toNat < (↑x5.length : Int)) <|
 ask (InI (x22 + (1 : Int))) <|
 some (.inl (x22 + (1 : Int), x5.set (nth list0 x22.toNat).toNat true))
 else
 some (.inr (.inr ()))
def Jr (list0 : List Int) : (Int × (List Bool)) → St := fun s => [(22, A.val (Ag s.1)), (21, A.val (Ag ((↑list0.length : Int)))), (20, A.val ((slr false 1 Ag) (list0))), (5, A.val ((slr true 1 V.bool) s.2))]
def Qa (_list0 : List Int) : (Unit ⊕ Unit) → Tgt
 | (.inl _s) => (Ex.ret, [4], [(4, A.val (V.bool (false)))])
 | (.inr _s) => ((Ex.exit 0), [], [])
theorem Aai {list0 : List Int} (s : (Int × (List Bool))) (o : (Int × (List Bool)) ⊕ (Unit ⊕ Unit)) (h : Cx list0 s = some o) : vc Try.prog Px (Cc [22, 21, 20, 5] (Jr list0) (Qa list0) o) (Jr list0 s) := by
 obtain ⟨x22, x5⟩ := s
 unfold Cx at h
 try dsimp only at h
 conv => whnf
 refine Br.od h (fun p6 h => ?_) (fun p6 h => ?_)
 ·conv => whnf
  refine Len.map ?_
  conv => whnf
  refine Ask.o h fun p7 h => ?_
  conv => whnf
  refine Elem.o (by first | omega | (simp [Ap] at *; omega)) ?_
  conv => whnf
  refine Len.map ?_
  conv => whnf
  refine Ask.o h fun p8 h => ?_
  conv => whnf
  refine Cells.one (fun _ => ⟨rfl, rfl⟩) (by first | omega | (simp [Ap] at *; omega)) ?_
  conv => whnf
  refine Br.ob h (fun p9 h => ?_) (fun p9 h => ?_)
  ·conv => whnf
   cases h; exact ⟨rfl, rfl⟩
  conv => whnf
  refine Len.map ?_
  conv => whnf
  refine Ask.o h fun p10 h => ?_
  conv => whnf
  refine SetKids.one (fun _ => ⟨rfl, rfl⟩) (true) (by first | rfl | simp only [Aa, V.fz, fzL, V.up, upL, Ab, Ac, Ad, slr, List.cons_append, List.nil_append] | simp [Aa, V.fz, fzL, V.up, upL, Ab, Ac, Ad, slr]) (by first | omega | (simp [Ap] at *; omega)) ?_
  conv => whnf
  refine Ask.o h fun p11 h => ?_
  conv => whnf
  cases h; exact ⟨rfl, rfl⟩
 conv => whnf
 cases h; exact ⟨rfl, rfl⟩
noncomputable def Hp (list0 : (List Int)) (n0 : Int) : Option Bool :=
 ((if (↑list0.length : Int) ≠ n0 then
 some (.inl ())
 else
 (Er (list0) (n0)).bind fun r2 =>
 if (r2) = true then
 some (.inr ())
 else
 some (.inl ()) : Option (Unit ⊕ Unit))).bind fun t => match t with
 | (.inl _) => (some false)
 | (.inr _) => (ask ((0 : Int) ≤ n0 ∧ n0 ≤ (↑LIM : Int)) <|
 (Am (Cx list0) ((0 : Int), List.replicate n0.toNat false)).bind fun t => match t with
 | (.inl _) => (some false)
 | (.inr _) => (some true))
theorem Ae2 {list0 : (List Int)} {n0 : Int} {v : Bool} (h : Hp list0 n0 = some v) : Ret Try.prog Pa [(slr false 1 Ag) list0, Ag n0] (V.bool v) := by
 refine Av Aha (Nat.le_of_ble_eq_true rfl) ?_
 unfold Hp at h
 conv => whnf
 refine CutQ.o (fun t : (Unit ⊕ Unit) => match t with | (.inl s) => (Ex.ret, [4], [(4, A.val (V.bool (false)))]) | (.inr s) => (Ex.normal, [0, 1], [(0, A.val ((slr false 1 Ag) (list0))), (1, A.val (Ag (n0)))])) h ?_ ?_
 ·intro t h
  conv => whnf
  refine Len.map ?_
  conv => whnf
  refine Br.on h (fun p1 h => ?_) (fun p1 h => ?_)
  ·conv => whnf
   refine Br.yes ?_
   conv => whnf
   refine Br.yes ?_
   conv => whnf
   refine Br.yes ?_
   conv => whnf
   refine Br.yes ?_
   conv => whnf
   refine Br.yes ?_
   conv => whnf
   cases h; exact ⟨rfl, rfl⟩
  conv => whnf
  refine Br.no ?_
  conv => whnf
  refine Br.no ?_
  conv => whnf
  refine CallQ.o V.bool (by first | rfl | simp only [Aa, V.fz, fzL, V.up, upL, Ab, Ac, Ad, slr, List.cons_append, List.nil_append] | simp [Aa, V.fz, fzL, V.up, upL, Ab, Ac, Ad, slr]) h (fun r h => L4 h) (fun r2 h => ?_)
  conv => whnf
  refine Br.no ?_
  conv => whnf
  refine Br.no ?_
  conv => whnf
  refine Br.flip ?_
  conv => whnf
  refine Br.ob h (fun p3 h => ?_) (fun p3 h => ?_)
  ·conv => whnf
   cases h; exact ⟨rfl, rfl⟩
  conv => whnf
  cases h; exact ⟨rfl, rfl⟩
 rintro (⟨⟩ | ⟨⟩) h
 ·try dsimp only at h
  conv => whnf
  cases h; exact (by first | rfl | simp only [Ah, Aa, V.fz, fzL, V.up, upL, Ab, Ac, Ad, slr] | simp [Ah, Aa, V.fz, fzL, V.up, upL, Ab, Ac, Ad, slr])
 try dsimp only at h
 conv => whnf
 refine Ask.o h fun p5 h => ?_
 conv => whnf
 refine MkQ.o V.bool (false) rfl ?_
 conv => whnf
 refine Len.map ?_
 conv => whnf
 refine LoopQ.o [22, 21, 20, 5] (Jr list0) (Qa list0) h (fun s o h => Aai s o h) (by first | rfl | simp [restrict, look, Aa, V.fz, fzL, V.up, upL, Ab, Ac, Ad, slr]) (by rintro (_ | _) <;> rfl) ?_
 rintro (⟨⟩ | ⟨⟩) h
 ·try dsimp only at h
  conv => whnf
  cases h; exact (by first | rfl | simp only [Ah, Aa, V.fz, fzL, V.up, upL, Ab, Ac, Ad, slr] | simp [Ah, Aa, V.fz, fzL, V.up, upL, Ab, Ac, Ad, slr])
 try dsimp only at h
 conv => whnf
 cases h; exact (by first | rfl | simp only [Ah, Aa, V.fz, fzL, V.up, upL, Ab, Ac, Ad, slr] | simp [Ah, Aa, V.fz, fzL, V.up, upL, Ab, Ac, Ad, slr])
noncomputable def B9 (f0 : List Int) : Int → Option (Int ⊕ (Unit ⊕ Unit)) := fun x3 =>
 if x3 < (↑f0.length : Int) then
 ask ((0 : Int) ≤ x3 ∧ x3 < (↑f0.length : Int)) <|
 if nth f0 x3.toNat ≥ (0 : Int) then
 ask (0 ≤ (0 : Int) ∧ (0 : Int) ≤ x3 ∧ x3 ≤ ((f0.length : Nat) : Int)) <|
 ask ((0 : Int) ≤ x3 ∧ x3 < (↑f0.length : Int)) <|
 (Gj (List.take (x3.toNat - Int.toNat (0 : Int)) (List.drop (Int.toNat (0 : Int)) f0)) (nth f0 x3.toNat)).bind fun r5 =>
 if (r5) = true then
 some (.inr (.inl ()))
 else
 ask (InI (x3 + (1 : Int))) <|
 some (.inl (x3 + (1 : Int)))
 else
 ask (InI (x3 + (1 : Int))) <|
 some (.inl (x3 + (1 : Int)))
 else
 some (.inr (.inr ()))
def Li (f0 : List Int) : Int → St := fun s => [(3, A.val (Ag s)), (0, A.val ((slr false 1 Ag) (f0)))]
def Sq (_f0 : List Int) : (Unit ⊕ Unit) → Tgt
 | (.inl _s) => (Ex.ret, [2], [(2, A.val (V.bool (false)))])
 | (.inr _s) => ((Ex.exit 0), [], [])
theorem Ab9 {f0 : List Int} (x3 : Int) (o : Int ⊕ (Unit ⊕ Unit)) (h : B9 f0 x3 = some o) : vc Try.prog R2 (Cc [3, 0] (Li f0) (Sq f0) o) (Li f0 x3) := by
 unfold B9 at h
 try dsimp only at h
 conv => whnf
 refine Len.map ?_
 conv => whnf
 refine Br.od h (fun p1 h => ?_) (fun p1 h => ?_)
 ·conv => whnf
  refine Len.map ?_
  conv => whnf
  refine Ask.o h fun p2 h => ?_
  conv => whnf
  refine Elem.o (by first | omega | (simp [Ap] at *; omega)) ?_
  conv => whnf
  refine Br.od h (fun p3 h => ?_) (fun p3 h => ?_)
  ·conv => whnf
   refine Br.yes ?_
   conv => whnf
   refine Br.yes ?_
   conv => whnf
   refine SlcQ.o Ag h fun h => ?_
   conv => whnf
   refine Br.yes ?_
   conv => whnf
   refine Br.yes ?_
   conv => whnf
   refine Br.yes ?_
   conv => whnf
   refine Len.map ?_
   conv => whnf
   refine Ask.o h fun p4 h => ?_
   conv => whnf
   refine Elem.o (by first | omega | (simp [Ap] at *; omega)) ?_
   conv => whnf
   refine Br.yes ?_
   conv => whnf
   refine Br.yes ?_
   conv => whnf
   refine CallQ.o V.bool (by first | rfl | simp only [Aa, V.fz, fzL, V.up, upL, Ab, Ac, Ad, slr, List.cons_append, List.nil_append] | simp [Aa, V.fz, fzL, V.up, upL, Ab, Ac, Ad, slr]) h (fun r h => Te h) (fun r5 h => ?_)
   conv => whnf
   refine Br.yes ?_
   conv => whnf
   refine Br.ob h (fun p6 h => ?_) (fun p6 h => ?_)
   ·conv => whnf
    cases h; exact ⟨rfl, rfl⟩
   conv => whnf
   refine Ask.o h fun p7 h => ?_
   conv => whnf
   cases h; exact ⟨rfl, rfl⟩
  conv => whnf
  refine Br.no ?_
  conv => whnf
  refine Br.no ?_
  conv => whnf
  refine Br.no ?_
  conv => whnf
  refine Br.no ?_
  conv => whnf
  refine Br.no ?_
  conv => whnf
  refine Br.no ?_
  conv => whnf
  refine Br.no ?_
  conv => whnf
  refine Br.no ?_
  conv => whnf
  refine Br.no ?_
  conv => whnf
  refine Ask.o h fun p8 h => ?_
  conv => whnf
  cases h; exact ⟨rfl, rfl⟩
 conv => whnf
 cases h; exact ⟨rfl, rfl⟩
noncomputable def Dr (f0 : (List Int)) : Option Bool :=
 (Am (B9 f0) (0 : Int)).bind fun t => match t with
 | (.inl _) => (some false)
 | (.inr _) => (some true)
theorem Q1 {f0 : (List Int)} {v : Bool} (h : Dr f0 = some v) : Ret Try.prog Iu [(slr false 1 Ag) f0] (V.bool v) := by
 refine Av Aho (Nat.le_of_ble_eq_true rfl) ?_
 unfold Dr at h
 conv => whnf
 refine LoopQ.o [3, 0] (Li f0) (Sq f0) h (fun s o h => Ab9 s o h) (by first | rfl | simp [restrict, look, Aa, V.fz, fzL, V.up, upL, Ab, Ac, Ad, slr]) (by rintro (_ | _) <;> rfl) ?_
 rintro (⟨⟩ | ⟨⟩) h
 ·try dsimp only at h
  conv => whnf
  cases h; exact (by first | rfl | simp only [Ah, Aa, V.fz, fzL, V.up, upL, Ab, Ac, Ad, slr] | simp [Ah, Aa, V.fz, fzL, V.up, upL, Ab, Ac, Ad, slr])
 try dsimp only at h
 conv => whnf
 cases h; exact (by first | rfl | simp only [Ah, Aa, V.fz, fzL, V.up, upL, Ab, Ac, Ad, slr] | simp [Ah, Aa, V.fz, fzL, V.up, upL, Ab, Ac, Ad, slr])
noncomputable def Cj (l0 : List Int) (lo0 : Int) (hi0 : Int) : Int → Option (Int ⊕ (Unit ⊕ Unit)) := fun x7 =>
 if x7 < (↑l0.length : Int) then
 ask ((0 : Int) ≤ x7 ∧ x7 < (↑l0.length : Int)) <|
 (Fj (nth l0 x7.toNat) (lo0) (hi0)).bind fun r3 =>
 if (r3) = true then
 if x7 > (0 : Int) then
 ask (InI (x7 - (1 : Int))) <|
 ask ((0 : Int) ≤ x7 - (1 : Int) ∧ x7 - (1 : Int) < (↑l0.length : Int)) <|
 ask ((0 : Int) ≤ x7 ∧ x7 < (↑l0.length : Int)) <|
 if nth l0 (x7 - (1 : Int)).toNat ≥ nth l0 x7.toNat then
 some (.inr (.inl ()))
 else
 ask (InI (x7 + (1 : Int))) <|
 some (.inl (x7 + (1 : Int)))
 else
 ask (InI (x7 + (1 : Int))) <|
 some (.inl (x7 + (1 : Int)))
 else
 some (.inr (.inl ()))
 else
 some (.inr (.inr ()))
def I1 (l0 : List Int) (lo0 : Int) (hi0 : Int) : Int → St := fun s => [(7, A.val (Ag s)), (0, A.val ((slr false 1 Ag) (l0))), (1, A.val (Ag (lo0))), (2, A.val (Ag (hi0)))]
def Oh (_l0 : List Int) (_lo0 : Int) (_hi0 : Int) : (Unit ⊕ Unit) → Tgt
 | (.inl _s) => (Ex.ret, [6], [(6, A.val (V.bool (false)))])
 | (.inr _s) => ((Ex.exit 0), [], [])
theorem X3 {l0 : List Int} {lo0 : Int} {hi0 : Int} (x7 : Int) (o : Int ⊕ (Unit ⊕ Unit)) (h : Cj l0 lo0 hi0 x7 = some o) : vc Try.prog N7 (Cc [7, 0, 1, 2] (I1 l0 lo0 hi0) (Oh l0 lo0 hi0) o) (I1 l0 lo0 hi0 x7) := by
 unfold Cj at h
 try dsimp only at h
 conv => whnf
 refine Len.map ?_
 conv => whnf
 refine Br.od h (fun p1 h => ?_) (fun p1 h => ?_)
 ·conv => whnf
  refine Len.map ?_
  conv => whnf
  refine Ask.o h fun p2 h => ?_
  conv => whnf
  refine Elem.o (by first | omega | (simp [Ap] at *; omega)) ?_
  conv => whnf
  refine CallP.o V.bool (by first | rfl | simp only [Aa, V.fz, fzL, V.up, upL, Ab, Ac, Ad, slr, List.cons_append, List.nil_append] | simp [Aa, V.fz, fzL, V.up, upL, Ab, Ac, Ad, slr]) h (fun r h => Mr h) (fun r3 h => ?_)
  conv => whnf
  refine Br.flip ?_
  conv => whnf
  refine Br.ob h (fun p4 h => ?_) (fun p4 h => ?_)
  ·conv => whnf
   refine Br.no ?_
   conv => whnf
   refine Br.no ?_
   conv => whnf
   refine Br.od h (fun p5 h => ?_) (fun p5 h => ?_)
   ·conv => whnf
    refine Br.yes ?_
    conv => whnf
    refine Br.yes ?_
    conv => whnf
    refine Ask.o h fun p6 h => ?_
    conv => whnf
    refine Br.yes ?_
    conv => whnf
    refine Len.map ?_
    conv => whnf
    refine Ask.o h fun p7 h => ?_
    conv => whnf
    refine Elem.o (by first | omega | (simp [Ap] at *; omega)) ?_
    conv => whnf
    refine Br.yes ?_
    conv => whnf
    refine Br.yes ?_
    conv => whnf
    refine Br.yes ?_
    conv => whnf
    refine Br.yes ?_
    conv => whnf
    refine Len.map ?_
    conv => whnf
    refine Ask.o h fun p8 h => ?_
    conv => whnf
    refine Elem.o (by first | omega | (simp [Ap] at *; omega)) ?_
    conv => whnf
    refine Br.yes ?_
    conv => whnf
    refine Br.yes ?_
    conv => whnf
    refine Br.no ?_
    conv => whnf
    refine Br.yes ?_
    conv => whnf
    refine Br.no ?_
    conv => whnf
    refine Br.od h (fun p9 h => ?_) (fun p9 h => ?_)
    ·conv => whnf
     cases h; exact ⟨rfl, rfl⟩
    conv => whnf
    refine Ask.o h fun p10 h => ?_
    conv => whnf
    cases h; exact ⟨rfl, rfl⟩
   conv => whnf
   refine Br.no ?_
   conv => whnf
   refine Br.no ?_
   conv => whnf
   refine Br.no ?_
   conv => whnf
   refine Br.no ?_
   conv => whnf
   refine Br.no ?_
   conv => whnf
   refine Br.no ?_
   conv => whnf
   refine Br.no ?_
   conv => whnf
   refine Br.no ?_
   conv => whnf
   refine Br.no ?_
   conv => whnf
   refine Br.no ?_
   conv => whnf
   refine Br.no ?_
   conv => whnf
   refine Br.no ?_
   conv => whnf
   refine Br.no ?_
   conv => whnf
   refine Ask.o h fun p11 h => ?_
   conv => whnf
   cases h; exact ⟨rfl, rfl⟩
  conv => whnf
  refine Br.yes ?_
  conv => whnf
  refine Br.yes ?_
  conv => whnf
  refine Br.yes ?_
  conv => whnf
  refine Br.yes ?_
  conv => whnf
  refine Br.yes ?_
  conv => whnf
  cases h; exact ⟨rfl, rfl⟩
 conv => whnf
 cases h; exact ⟨rfl, rfl⟩
noncomputable def Gz (l0 : (List Int)) (lo0 : Int) (hi0 : Int) : Option Bool :=
 (Am (Cj l0 lo0 hi0) (0 : Int)).bind fun t => match t with
 | (.inl _) => (some false)
 | (.inr _) => (some true)
theorem Ad1 {l0 : (List Int)} {lo0 : Int} {hi0 : Int} {v : Bool} (h : Gz l0 lo0 hi0 = some v) : Ret Try.prog M6 [(slr false 1 Ag) l0, Ag lo0, Ag hi0] (V.bool v) := by
 refine Av Ady (Nat.le_of_ble_eq_true rfl) ?_
 unfold Gz at h
 conv => whnf
 refine LoopQ.o [7, 0, 1, 2] (I1 l0 lo0 hi0) (Oh l0 lo0 hi0) h (fun s o h => X3 s o h) (by first | rfl | simp [restrict, look, Aa, V.fz, fzL, V.up, upL, Ab, Ac, Ad, slr]) (by rintro (_ | _) <;> rfl) ?_
 rintro (⟨⟩ | ⟨⟩) h
 ·try dsimp only at h
  conv => whnf
  cases h; exact (by first | rfl | simp only [Ah, Aa, V.fz, fzL, V.up, upL, Ab, Ac, Ad, slr] | simp [Ah, Aa, V.fz, fzL, V.up, upL, Ab, Ac, Ad, slr])
 try dsimp only at h
 conv => whnf
 cases h; exact (by first | rfl | simp only [Ah, Aa, V.fz, fzL, V.up, upL, Ab, Ac, Ad, slr] | simp [Ah, Aa, V.fz, fzL, V.up, upL, Ab, Ac, Ad, slr])
end Go.Proofs.Ytiakjbigaaanhaa.Ax
