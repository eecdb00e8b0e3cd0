/-
 What the functions compute, as functions on plain data, and that the program does compute it; written by program.
-/
import Derived.Test.YtiakjbigaaanhaaCode
import Derived.Test.YtiakjbigaaanhaaG1
import Derived.Test.YtiakjbigaaanhaaG2
import Derived.Test.YtiakjbigaaanhaaG3
import Derived.Test.YtiakjbigaaanhaaG4
namespace Go.Proofs.Ytiakjbigaaanhaa.Ax
open Go
set_option maxRecDepth 100000
set_option maxHeartbeats 4000000
noncomputable def D3 (a0 : SAlgebra) (b0 : SAlgebra) (x10 : Int) : (Int × Bool × (List Int)) → Option ((Int × Bool × (List Int)) ⊕ (Unit ⊕ (Bool × (List Int)))) := fun (x11, x9'', x8'') =>
 ask ((0 : Int) ≤ x10 ∧ x10 < (↑a0.Ops.length : Int)) <|
 if x11 < (↑(nth a0.Ops x10.toNat).Table.length : Int) then
 ask ((0 : Int) ≤ x10 ∧ x10 < (↑a0.Ops.length : Int)) <|
 (Cw (a0.Size) ((nth a0.Ops x10.toNat).Arity) (x11)).bind fun r7 =>
 (Cf (x8'') (r7)).bind fun r8 =>
 (Gj (r8) ((-1 : Int))).bind fun r9 =>
 if (r9) = true then
 ask (InI (x11 + (1 : Int))) <|
 some (.inl (x11 + (1 : Int), x9'', x8''))
 else
 ask ((0 : Int) ≤ x10 ∧ x10 < (↑a0.Ops.length : Int)) <|
 ask ((0 : Int) ≤ x11 ∧ x11 < (↑(nth a0.Ops x10.toNat).Table.length : Int)) <|
 (Ev (b0) (x10) (r8)).bind fun r14 =>
 ((ask ((0 : Int) ≤ nth (nth a0.Ops x10.toNat).Table x11.toNat ∧ nth (nth a0.Ops x10.toNat).Table x11.toNat < (↑x8''.length : Int)) <|
 if nth x8'' (nth (nth a0.Ops x10.toNat).Table x11.toNat).toNat ≥ (0 : Int) then
 ask ((0 : Int) ≤ nth (nth a0.Ops x10.toNat).Table x11.toNat ∧ nth (nth a0.Ops x10.toNat).Table x11.toNat < (↑x8''.length : Int)) <|
 if nth x8'' (nth (nth a0.Ops x10.toNat).Table x11.toNat).toNat ≠ r14 then
 some (.inl ())
 else
 some (.inr ())
 else
 some (.inr ()) : Option (Unit ⊕ Unit))).bind fun t => match t with
 | (.inl _) => (some (.inr (.inl ())))
 | (.inr _) => (ask ((0 : Int) ≤ nth (nth a0.Ops x10.toNat).Table x11.toNat ∧ nth (nth a0.Ops x10.toNat).Table x11.toNat < (↑x8''.length : Int)) <|
 if nth x8'' (nth (nth a0.Ops x10.toNat).Table x11.toNat).toNat < (0 : Int) then
 ask ((0 : Int) ≤ nth (nth a0.Ops x10.toNat).Table x11.toNat ∧ nth (nth a0.Ops x10.toNat).Table x11.toNat < (↑x8''.length : Int)) <|
 ask (InI (x11 + (1 : Int))) <|
 some (.inl (x11 + (1 : Int), true, x8''.set (nth (nth a0.Ops x10.toNat).Table x11.toNat).toNat r14))
 else
 ask (InI (x11 + (1 : Int))) <|
 some (.inl (x11 + (1 : Int), x9'', x8'')))
 else
 some (.inr (.inr (x9'', x8'')))
def Jy (a0 : SAlgebra) (b0 : SAlgebra) (x10 : Int) : (Int × Bool × (List Int)) → St := fun s => [(11, A.val (Ag s.1)), (10, A.val (Ag (x10))), (9, A.val (V.bool s.2.1)), (8, A.val ((slr true 1 Ag) s.2.2)), (4, A.val ((rP true (Ae false)) (b0))), (3, A.val ((rP true (Ae false)) (a0)))]
def Qg (a0 : SAlgebra) (b0 : SAlgebra) (x10 : Int) : (Unit ⊕ (Bool × (List Int))) → Tgt
 | (.inl _s) => (Ex.ret, [7, 6], [(7, A.val (V.bool (false))), (6, A.val ((slr true 1 Ag) (Al Int)))])
 | (.inr s) => ((Ex.exit 4), [10, 9, 8, 4, 3], [(10, A.val (Ag (x10))), (9, A.val (V.bool s.1)), (8, A.val ((slr true 1 Ag) s.2)), (4, A.val ((rP true (Ae false)) (b0))), (3, A.val ((rP true (Ae false)) (a0)))])
theorem Y2 {a0 : SAlgebra} {b0 : SAlgebra} {x10 : Int} (s : (Int × Bool × (List Int))) (o : (Int × Bool × (List Int)) ⊕ (Unit ⊕ (Bool × (List Int)))) (h : D3 a0 b0 x10 s = some o) : vc Try.prog Pq (Cc [11, 10, 9, 8, 4, 3] (Jy a0 b0 x10) (Qg a0 b0 x10) o) (Jy a0 b0 x10 s) := by
 obtain ⟨x11, x9'', x8''⟩ := s
 unfold D3 at h
 try dsimp only at h
 conv => whnf
 refine Cells.lit rfl rfl ?_
 conv => whnf
 refine Len.map ?_
 conv => whnf
 refine Ask.o h fun p4 h => ?_
 conv => whnf
 refine Elem.o (by first | omega | (simp [Ap] at *; omega)) ?_
 conv => whnf
 refine Len.map ?_
 conv => whnf
 refine Br.od h (fun p5 h => ?_) (fun p5 h => ?_)
 ·conv => whnf
  refine Cells.lit rfl rfl ?_
  conv => whnf
  refine Cells.lit rfl rfl ?_
  conv => whnf
  refine Len.map ?_
  conv => whnf
  refine Ask.o h fun p6 h => ?_
  conv => whnf
  refine Elem.o (by first | omega | (simp [Ap] at *; omega)) ?_
  conv => whnf
  refine CallP.o (slr true 1 Ag) (by first | rfl | simp only [Aa, V.fz, fzL, V.up, upL, Ab, Ac, Ad, slr, List.cons_append, List.nil_append] | simp [Aa, V.fz, fzL, V.up, upL, Ab, Ac, Ad, slr]) h (fun r h => Iq h) (fun r7 h => ?_)
  conv => whnf
  refine CallQ.rd (slr true 1 Ag) (by first | rfl | simp only [V.fz, Ab, slr] | simp [Aa, V.fz, fzL, V.up, upL, Ab, Ac, Ad, slr]) (fun _ => by simp [V.noFz, Bp]) h (fun r h => M8 h) (fun r8 h => ?_)
  conv => whnf
  refine CallQ.rd V.bool (by first | rfl | simp only [V.fz, Ab, slr] | simp [Aa, V.fz, fzL, V.up, upL, Ab, Ac, Ad, slr]) (fun _ => rfl) h (fun r h => Te h) (fun r9 h => ?_)
  conv => whnf
  refine Br.ob h (fun p10 h => ?_) (fun p10 h => ?_)
  ·conv => whnf
   refine Ask.o h fun p11 h => ?_
   conv => whnf
   cases h; exact ⟨rfl, rfl⟩
  conv => whnf
  refine Cells.lit rfl rfl ?_
  conv => whnf
  refine Len.map ?_
  conv => whnf
  refine Ask.o h fun p12 h => ?_
  conv => whnf
  refine Elem.o (by first | omega | (simp [Ap] at *; omega)) ?_
  conv => whnf
  refine Len.map ?_
  conv => whnf
  refine Ask.o h fun p13 h => ?_
  conv => whnf
  refine Elem.o (by first | omega | (simp [Ap] at *; omega)) ?_
  conv => whnf
  refine Cells.lit rfl rfl ?_
  conv => whnf
  refine CallP.rd Ag (by first | rfl | simp only [V.fz, fzL, V.up, Ab, Ad, slr] | simp [Aa, V.fz, fzL, V.up, upL, Ab, Ac, Ad, slr]) (fun _ => rfl) h (fun r h => Ox h) (fun r14 h => ?_)
  conv => whnf
  refine CutQ.o (fun t : (Unit ⊕ Unit) => match t with | (.inl s) => (Ex.ret, [7, 6], [(7, A.val (V.bool (false))), (6, A.val ((slr true 1 Ag) (Al Int)))]) | (.inr s) => (Ex.normal, [14, 13, 11, 10, 9, 8, 4, 3], [(14, A.val (Ag (r14))), (13, A.val (Ag (nth (nth a0.Ops x10.toNat).Table x11.toNat))), (11, A.val (Ag (x11))), (10, A.val (Ag (x10))), (9, A.val (V.bool (x9''))), (8, A.val ((slr true 1 Ag) (x8''))), (4, A.val ((rP true (Ae false)) (b0))), (3, A.val ((rP true (Ae false)) (a0)))])) h ?_ ?_
  ·intro t h
   conv => whnf
   refine Len.map ?_
   conv => whnf
   refine Ask.o h fun p15 h => ?_
   conv => whnf
   refine Cells.one (fun _ => ⟨rfl, rfl⟩) (by first | omega | (simp [Ap] at *; omega)) ?_
   conv => whnf
   refine Br.od h (fun p16 h => ?_) (fun p16 h => ?_)
   ·conv => whnf
    refine Br.yes ?_
    conv => whnf
    refine Br.yes ?_
    conv => whnf
    refine Len.map ?_
    conv => whnf
    refine Ask.o h fun p17 h => ?_
    conv => whnf
    refine Br.yes ?_
    conv => whnf
    refine Cells.one (fun _ => ⟨rfl, rfl⟩) (by first | omega | (simp [Ap] at *; omega)) ?_
    conv => whnf
    refine Br.yes ?_
    conv => whnf
    refine Br.yes ?_
    conv => whnf
    refine Br.yes ?_
    conv => whnf
    refine Br.on h (fun p18 h => ?_) (fun p18 h => ?_)
    ·conv => whnf
     refine BslQ.o Ag (Al Int) (by exact fun _ => ⟨rfl, rfl⟩) (by first | rfl | simp only [Aa, V.fz, fzL, V.up, upL, Ab, Ac, Ad, slr, List.cons_append, List.nil_append] | simp [Aa, V.fz, fzL, V.up, upL, Ab, Ac, Ad, slr]) ?_
     conv => whnf
     cases h; exact ⟨rfl, rfl⟩
    conv => whnf
    cases h; exact ⟨rfl, rfl⟩
   conv => whnf
   refine Br.no ?_
   conv => whnf
   refine Br.no ?_
   conv => whnf
   refine Br.no ?_
   conv => whnf
   refine Br.no ?_
   conv => whnf
   refine Br.no ?_
   conv => whnf
   refine Br.no ?_
   conv => whnf
   refine Br.no ?_
   conv => whnf
   cases h; exact ⟨rfl, rfl⟩
  rintro (⟨⟩ | ⟨⟩) h
  ·try dsimp only at h
   conv => whnf
   cases h; exact ⟨rfl, rfl⟩
  try dsimp only at h
  conv => whnf
  refine Len.map ?_
  conv => whnf
  refine Ask.o h fun p20 h => ?_
  conv => whnf
  refine Cells.one (fun _ => ⟨rfl, rfl⟩) (by first | omega | (simp [Ap] at *; omega)) ?_
  conv => whnf
  refine Br.od h (fun p21 h => ?_) (fun p21 h => ?_)
  ·conv => whnf
   refine Len.map ?_
   conv => whnf
   refine Ask.o h fun p22 h => ?_
   conv => whnf
   refine SetKids.one (fun _ => ⟨rfl, rfl⟩) (r14) (by first | rfl | simp only [Aa, V.fz, fzL, V.up, upL, Ab, Ac, Ad, slr, List.cons_append, List.nil_append] | simp [Aa, V.fz, fzL, V.up, upL, Ab, Ac, Ad, slr]) (by first | omega | (simp [Ap] at *; omega)) ?_
   conv => whnf
   refine Ask.o h fun p23 h => ?_
   conv => whnf
   cases h; exact ⟨rfl, rfl⟩
  conv => whnf
  refine Ask.o h fun p24 h => ?_
  conv => whnf
  cases h; exact ⟨rfl, rfl⟩
 conv => whnf
 cases h; exact ⟨rfl, rfl⟩
noncomputable def D1 (a0 : SAlgebra) (b0 : SAlgebra) : (Int × Bool × (List Int)) → Option ((Int × Bool × (List Int)) ⊕ (Unit ⊕ (Bool × (List Int)))) := fun (x10, x9', x8') =>
 if x10 < (↑a0.Ops.length : Int) then
 (Am (D3 a0 b0 x10) ((0 : Int), x9', x8')).bind fun t => match t with
 | (.inl _) => (some (.inr (.inl ())))
 | (.inr (q25_9, q25_8)) => (ask (InI (x10 + (1 : Int))) <|
 some (.inl (x10 + (1 : Int), q25_9, q25_8)))
 else
 some (.inr (.inr (x9', x8')))
def Kq (a0 : SAlgebra) (b0 : SAlgebra) : (Int × Bool × (List Int)) → St := fun s => [(10, A.val (Ag s.1)), (9, A.val (V.bool s.2.1)), (8, A.val ((slr true 1 Ag) s.2.2)), (4, A.val ((rP true (Ae false)) (b0))), (3, A.val ((rP true (Ae false)) (a0)))]
def Qe (a0 : SAlgebra) (b0 : SAlgebra) : (Unit ⊕ (Bool × (List Int))) → Tgt
 | (.inl _s) => (Ex.ret, [7, 6], [(7, A.val (V.bool (false))), (6, A.val ((slr true 1 Ag) (Al Int)))])
 | (.inr s) => ((Ex.exit 2), [9, 8, 4, 3], [(9, A.val (V.bool s.1)), (8, A.val ((slr true 1 Ag) s.2)), (4, A.val ((rP true (Ae false)) (b0))), (3, A.val ((rP true (Ae false)) (a0)))])
theorem Z6 {a0 : SAlgebra} {b0 : SAlgebra} (s : (Int × Bool × (List Int))) (o : (Int × Bool × (List Int)) ⊕ (Unit ⊕ (Bool × (List Int)))) (h : D1 a0 b0 s = some o) : vc Try.prog Pl (Cc [10, 9, 8, 4, 3] (Kq a0 b0) (Qe a0 b0) o) (Kq a0 b0 s) := by
 obtain ⟨x10, x9', x8'⟩ := s
 unfold D1 at h
 try dsimp only at h
 conv => whnf
 refine Cells.lit rfl rfl ?_
 conv => whnf
 refine Len.map ?_
 conv => whnf
 refine Br.od h (fun p3 h => ?_) (fun p3 h => ?_)
 ·conv => whnf
  refine LoopQ.o [11, 10, 9, 8, 4, 3] (Jy a0 b0 x10) (Qg a0 b0 x10) h (fun s o h => Y2 s o h) (by first | rfl | simp [restrict, look, Aa, V.fz, fzL, V.up, upL, Ab, Ac, Ad, slr]) (by rintro (_ | _) <;> rfl) ?_
  rintro (⟨⟩ | ⟨q25_9, q25_8⟩) h
  ·try dsimp only at h
   conv => whnf
   cases h; exact ⟨rfl, rfl⟩
  try dsimp only at h
  conv => whnf
  refine Ask.o h fun p26 h => ?_
  conv => whnf
  cases h; exact ⟨rfl, rfl⟩
 conv => whnf
 cases h; exact ⟨rfl, rfl⟩
noncomputable def Fm (a0 : SAlgebra) (b0 : SAlgebra) : (Bool × (List Int)) → Option ((Bool × (List Int)) ⊕ (Unit ⊕ (List Int))) := fun (x9, x8) =>
 if (x9) = true then
 (Am (D1 a0 b0) ((0 : Int), false, x8)).bind fun t => match t with
 | (.inl _) => (some (.inr (.inl ())))
 | (.inr (q27_9, q27_8)) => (some (.inl (q27_9, q27_8)))
 else
 some (.inr (.inr x8))
def Kl (a0 : SAlgebra) (b0 : SAlgebra) : (Bool × (List Int)) → St := fun s => [(9, A.val (V.bool s.1)), (8, A.val ((slr true 1 Ag) s.2)), (4, A.val ((rP true (Ae false)) (b0))), (3, A.val ((rP true (Ae false)) (a0)))]
def Ph (_a0 : SAlgebra) (_b0 : SAlgebra) : (Unit ⊕ (List Int)) → Tgt
 | (.inl _s) => (Ex.ret, [7, 6], [(7, A.val (V.bool (false))), (6, A.val ((slr true 1 Ag) (Al Int)))])
 | (.inr s) => ((Ex.exit 0), [8], [(8, A.val ((slr true 1 Ag) s))])
theorem Za {a0 : SAlgebra} {b0 : SAlgebra} (s : (Bool × (List Int))) (o : (Bool × (List Int)) ⊕ (Unit ⊕ (List Int))) (h : Fm a0 b0 s = some o) : vc Try.prog Qj (Cc [9, 8, 4, 3] (Kl a0 b0) (Ph a0 b0) o) (Kl a0 b0 s) := by
 obtain ⟨x9, x8⟩ := s
 unfold Fm at h
 try dsimp only at h
 conv => whnf
 refine Br.ob h (fun p2 h => ?_) (fun p2 h => ?_)
 ·conv => whnf
  refine LoopQ.o [10, 9, 8, 4, 3] (Kq a0 b0) (Qe a0 b0) h (fun s o h => Z6 s o h) (by first | rfl | simp [restrict, look, Aa, V.fz, fzL, V.up, upL, Ab, Ac, Ad, slr]) (by rintro (_ | _) <;> rfl) ?_
  rintro (⟨⟩ | ⟨q27_9, q27_8⟩) h
  ·try dsimp only at h
   conv => whnf
   cases h; exact ⟨rfl, rfl⟩
  try dsimp only at h
  conv => whnf
  cases h; exact ⟨rfl, rfl⟩
 conv => whnf
 cases h; exact ⟨rfl, rfl⟩
noncomputable def Gf (a0 : SAlgebra) (b0 : SAlgebra) (f0 : (List Int)) : Option ((List Int) × Bool) :=
 (Ei (f0)).bind fun r1 =>
 (Am (Fm a0 b0) (true, r1)).bind fun t => match t with
 | (.inl _) => (some (Al Int, false))
 | (.inr q28_8) => (some (q28_8, true))
theorem U6 {a0 : SAlgebra} {b0 : SAlgebra} {f0 : (List Int)} {v : ((List Int) × Bool)} (h : Gf a0 b0 f0 = some v) : Ret Try.prog Kf [(Ae false) a0, (Ae false) b0, (slr false 1 Ag) f0] ((fun r => V.tup [(slr true 1 Ag) r.1, V.bool r.2]) v) := by
 refine Av Afy (Nat.le_of_ble_eq_true rfl) ?_
 unfold Gf at h
 conv => whnf
 refine CallQ.o (slr true 1 Ag) (by first | rfl | simp only [Aa, V.fz, fzL, V.up, upL, Ab, Ac, Ad, slr, List.cons_append, List.nil_append] | simp [Aa, V.fz, fzL, V.up, upL, Ab, Ac, Ad, slr]) h (fun r h => Nq h) (fun r1 h => ?_)
 conv => whnf
 refine LoopQ.o [9, 8, 4, 3] (Kl a0 b0) (Ph a0 b0) h (fun s o h => Za s o h) (by first | rfl | simp [restrict, look, Aa, V.fz, fzL, V.up, upL, Ab, Ac, Ad, slr]) (by rintro (_ | _) <;> rfl) ?_
 rintro (⟨⟩ | q28_8) h
 ·try dsimp only at h
  conv => whnf
  cases h; exact (by first | rfl | simp only [Ah, Aa, V.fz, fzL, V.up, upL, Ab, Ac, Ad, slr] | simp [Ah, Aa, V.fz, fzL, V.up, upL, Ab, Ac, Ad, slr])
 try dsimp only at h
 conv => whnf
 cases h; exact (by first | rfl | simp only [Ah, Aa, V.fz, fzL, V.up, upL, Ab, Ac, Ad, slr] | simp [Ah, Aa, V.fz, fzL, V.up, upL, Ab, Ac, Ad, slr])
noncomputable def F2 (n0 : Int) (f0 : List Int) : Int → Option (Int ⊕ (Unit ⊕ Unit)) := fun x5 =>
 if x5 < n0 then
 (Gj (f0) (x5)).bind fun r2 =>
 if (r2) = true then
 ask (InI (x5 + (1 : Int))) <|
 some (.inl (x5 + (1 : Int)))
 else
 some (.inr (.inl ()))
 else
 some (.inr (.inr ()))
def K4 (n0 : Int) (f0 : List Int) : Int → St := fun s => [(5, A.val (Ag s)), (0, A.val (Ag (n0))), (1, A.val ((slr false 1 Ag) (f0)))]
def R9 (_n0 : Int) (_f0 : List Int) : (Unit ⊕ Unit) → Tgt
 | (.inl _s) => (Ex.ret, [4], [(4, A.val (V.bool (false)))])
 | (.inr _s) => ((Ex.exit 0), [], [])
theorem Abu {n0 : Int} {f0 : List Int} (x5 : Int) (o : Int ⊕ (Unit ⊕ Unit)) (h : F2 n0 f0 x5 = some o) : vc Try.prog Rs (Cc [5, 0, 1] (K4 n0 f0) (R9 n0 f0) o) (K4 n0 f0 x5) := by
 unfold F2 at h
 try dsimp only at h
 conv => whnf
 refine Br.od h (fun p1 h => ?_) (fun p1 h => ?_)
 ·conv => whnf
  refine CallQ.o V.bool (by first | rfl | simp only [Aa, V.fz, fzL, V.up, upL, Ab, Ac, Ad, slr, List.cons_append, List.nil_append] | simp [Aa, V.fz, fzL, V.up, upL, Ab, Ac, Ad, slr]) h (fun r h => Te h) (fun r2 h => ?_)
  conv => whnf
  refine Br.flip ?_
  conv => whnf
  refine Br.ob h (fun p3 h => ?_) (fun p3 h => ?_)
  ·conv => whnf
   refine Ask.o h fun p4 h => ?_
   conv => whnf
   cases h; exact ⟨rfl, rfl⟩
  conv => whnf
  cases h; exact ⟨rfl, rfl⟩
 conv => whnf
 cases h; exact ⟨rfl, rfl⟩
noncomputable def Ir (n0 : Int) (f0 : (List Int)) : Option Bool :=
 (Am (F2 n0 f0) (0 : Int)).bind fun t => match t with
 | (.inl _) => (some false)
 | (.inr _) => (some true)
theorem Ai0 {n0 : Int} {f0 : (List Int)} {v : Bool} (h : Ir n0 f0 = some v) : Ret Try.prog Qu [Ag n0, (slr false 1 Ag) f0] (V.bool v) := by
 refine Av Ais (Nat.le_of_ble_eq_true rfl) ?_
 unfold Ir at h
 conv => whnf
 refine LoopQ.o [5, 0, 1] (K4 n0 f0) (R9 n0 f0) h (fun s o h => Abu s o h) (by first | rfl | simp [restrict, look, Aa, V.fz, fzL, V.up, upL, Ab, Ac, Ad, slr]) (by rintro (_ | _) <;> rfl) ?_
 rintro (⟨⟩ | ⟨⟩) h
 ·try dsimp only at h
  conv => whnf
  cases h; exact (by first | rfl | simp only [Ah, Aa, V.fz, fzL, V.up, upL, Ab, Ac, Ad, slr] | simp [Ah, Aa, V.fz, fzL, V.up, upL, Ab, Ac, Ad, slr])
 try dsimp only at h
 conv => whnf
 cases h; exact (by first | rfl | simp only [Ah, Aa, V.fz, fzL, V.up, upL, Ab, Ac, Ad, slr] | simp [Ah, Aa, V.fz, fzL, V.up, upL, Ab, Ac, Ad, slr])
noncomputable def Dk (_a0 : SAlgebra) (in0 : List Bool) (_x6 : Int) (_x7 : Int) (_x5' : List Bool) (r5 : List Int) : (Int × Bool) → Option ((Int × Bool) ⊕ Bool) := fun (x10, x9) =>
 if x10 < (↑r5.length : Int) then
 if (x9) = true then
 ask ((0 : Int) ≤ x10 ∧ x10 < (↑r5.length : Int)) <|
 ask ((0 : Int) ≤ nth r5 x10.toNat ∧ nth r5 x10.toNat < (↑in0.length : Int)) <|
 ask (InI (x10 + (1 : Int))) <|
 some (.inl (x10 + (1 : Int), nth in0 (nth r5 x10.toNat).toNat))
 else
 ask (InI (x10 + (1 : Int))) <|
 some (.inl (x10 + (1 : Int), false))
 else
 some (.inr x9)
def Kz (a0 : SAlgebra) (in0 : List Bool) (x6 : Int) (x7 : Int) (x5' : List Bool) (r5 : List Int) : (Int × Bool) → St := fun s => [(10, A.val (Ag s.1)), (9, A.val (V.bool s.2)), (8, A.val ((slr true 1 Ag) (r5))), (7, A.val (Ag (x7))), (6, A.val (Ag (x6))), (5, A.val ((slr true 1 V.bool) (x5'))), (2, A.val ((rP true (Ae false)) (a0))), (1, A.val ((slr false 1 V.bool) (in0)))]
def So (a0 : SAlgebra) (in0 : List Bool) (x6 : Int) (x7 : Int) (x5' : List Bool) (_r5 : List Int) : Bool → Tgt
 | s => ((Ex.exit 4), [9, 7, 6, 5, 2, 1], [(9, A.val (V.bool s)), (7, A.val (Ag (x7))), (6, A.val (Ag (x6))), (5, A.val ((slr true 1 V.bool) (x5'))), (2, A.val ((rP true (Ae false)) (a0))), (1, A.val ((slr false 1 V.bool) (in0)))])
theorem Ab7 {a0 : SAlgebra} {in0 : List Bool} {x6 : Int} {x7 : Int} {x5' : List Bool} {r5 : List Int} (s : (Int × Bool)) (o : (Int × Bool) ⊕ Bool) (h : Dk a0 in0 x6 x7 x5' r5 s = some o) : vc Try.prog Rw (Cc [10, 9, 8, 7, 6, 5, 2, 1] (Kz a0 in0 x6 x7 x5' r5) (So a0 in0 x6 x7 x5' r5) o) (Kz a0 in0 x6 x7 x5' r5 s) := by
 obtain ⟨x10, x9⟩ := s
 unfold Dk at h
 try dsimp only at h
 conv => whnf
 refine Len.map ?_
 conv => whnf
 refine Br.od h (fun p6 h => ?_) (fun p6 h => ?_)
 ·conv => whnf
  refine Br.ob h (fun p7 h => ?_) (fun p7 h => ?_)
  ·conv => whnf
   refine Br.yes ?_
   conv => whnf
   refine Br.yes ?_
   conv => whnf
   refine Br.yes ?_
   conv => whnf
   refine Len.map ?_
   conv => whnf
   refine Ask.o h fun p8 h => ?_
   conv => whnf
   refine Br.yes ?_
   conv => whnf
   refine Cells.one (fun _ => ⟨rfl, rfl⟩) (by first | omega | (simp [Ap] at *; omega)) ?_
   conv => whnf
   refine Br.yes ?_
   conv => whnf
   refine Len.map ?_
   conv => whnf
   refine Ask.o h fun p9 h => ?_
   conv => whnf
   refine Elem.o (by first | omega | (simp [Ap] at *; omega)) ?_
   conv => whnf
   refine Br.yes ?_
   conv => whnf
   refine Br.yes ?_
   conv => whnf
   refine Ask.o h fun p10 h => ?_
   conv => whnf
   cases h; exact ⟨rfl, rfl⟩
  conv => whnf
  refine Br.no ?_
  conv => whnf
  refine Br.no ?_
  conv => whnf
  refine Br.no ?_
  conv => whnf
  refine Br.no ?_
  conv => whnf
  refine Br.no ?_
  conv => whnf
  refine Br.no ?_
  conv => whnf
  refine Br.no ?_
  conv => whnf
  refine Ask.o h fun p11 h => ?_
  conv => whnf
  cases h; exact ⟨rfl, rfl⟩
 conv => whnf
 cases h; exact ⟨rfl, rfl⟩
noncomputable def Es (a0 : SAlgebra) (in0 : List Bool) (x6 : Int) : (Int × (List Bool)) → Option ((Int × (List Bool)) ⊕ (List Bool)) := fun (x7, x5') =>
 ask ((0 : Int) ≤ x6 ∧ x6 < (↑a0.Ops.length : Int)) <|
 if x7 < (↑(nth a0.Ops x6.toNat).Table.length : Int) then
 ask ((0 : Int) ≤ x6 ∧ x6 < (↑a0.Ops.length : Int)) <|
 (Cw (a0.Size) ((nth a0.Ops x6.toNat).Arity) (x7)).bind fun r5 =>
 (Am (Dk a0 in0 x6 x7 x5' r5) ((0 : Int), true)).bind fun q12_9 =>
 if (q12_9) = true then
 ask ((0 : Int) ≤ x6 ∧ x6 < (↑a0.Ops.length : Int)) <|
 ask ((0 : Int) ≤ x7 ∧ x7 < (↑(nth a0.Ops x6.toNat).Table.length : Int)) <|
 ask ((0 : Int) ≤ nth (nth a0.Ops x6.toNat).Table x7.toNat ∧ nth (nth a0.Ops x6.toNat).Table x7.toNat < (↑x5'.length : Int)) <|
 ask (InI (x7 + (1 : Int))) <|
 some (.inl (x7 + (1 : Int), x5'.set (nth (nth a0.Ops x6.toNat).Table x7.toNat).toNat true))
 else
 ask (InI (x7 + (1 : Int))) <|
 some (.inl (x7 + (1 : Int), x5'))
 else
 some (.inr x5')
def Lh (a0 : SAlgebra) (in0 : List Bool) (x6 : Int) : (Int × (List Bool)) → St := fun s => [(7, A.val (Ag s.1)), (6, A.val (Ag (x6))), (5, A.val ((slr true 1 V.bool) s.2)), (2, A.val ((rP true (Ae false)) (a0))), (1, A.val ((slr false 1 V.bool) (in0)))]
def Sg (a0 : SAlgebra) (in0 : List Bool) (x6 : Int) : (List Bool) → Tgt
 | s => ((Ex.exit 2), [6, 5, 2, 1], [(6, A.val (Ag (x6))), (5, A.val ((slr true 1 V.bool) s)), (2, A.val ((rP true (Ae false)) (a0))), (1, A.val ((slr false 1 V.bool) (in0)))])
theorem Aak {a0 : SAlgebra} {in0 : List Bool} {x6 : Int} (s : (Int × (List Bool))) (o : (Int × (List Bool)) ⊕ (List Bool)) (h : Es a0 in0 x6 s = some o) : vc Try.prog Su (Cc [7, 6, 5, 2, 1] (Lh a0 in0 x6) (Sg a0 in0 x6) o) (Lh a0 in0 x6 s) := by
 obtain ⟨x7, x5'⟩ := s
 unfold Es at h
 try dsimp only at h
 conv => whnf
 refine Cells.lit rfl rfl ?_
 conv => whnf
 refine Len.map ?_
 conv => whnf
 refine Ask.o h fun p2 h => ?_
 conv => whnf
 refine Elem.o (by first | omega | (simp [Ap] at *; omega)) ?_
 conv => whnf
 refine Len.map ?_
 conv => whnf
 refine Br.od h (fun p3 h => ?_) (fun p3 h => ?_)
 ·conv => whnf
  refine Cells.lit rfl rfl ?_
  conv => whnf
  refine Cells.lit rfl rfl ?_
  conv => whnf
  refine Len.map ?_
  conv => whnf
  refine Ask.o h fun p4 h => ?_
  conv => whnf
  refine Elem.o (by first | omega | (simp [Ap] at *; omega)) ?_
  conv => whnf
  refine CallQ.o (slr true 1 Ag) (by first | rfl | simp only [Aa, V.fz, fzL, V.up, upL, Ab, Ac, Ad, slr, List.cons_append, List.nil_append] | simp [Aa, V.fz, fzL, V.up, upL, Ab, Ac, Ad, slr]) h (fun r h => Iq h) (fun r5 h => ?_)
  conv => whnf
  refine LoopQ.o [10, 9, 8, 7, 6, 5, 2, 1] (Kz a0 in0 x6 x7 x5' r5) (So a0 in0 x6 x7 x5' r5) h (fun s o h => Ab7 s o h) (by first | rfl | simp [restrict, look, Aa, V.fz, fzL, V.up, upL, Ab, Ac, Ad, slr]) (fun _ => rfl) ?_
  rintro q12_9 h
  try dsimp only at h
  conv => whnf
  refine Br.ob h (fun p13 h => ?_) (fun p13 h => ?_)
  ·conv => whnf
   refine Cells.lit rfl rfl ?_
   conv => whnf
   refine Len.map ?_
   conv => whnf
   refine Ask.o h fun p14 h => ?_
   conv => whnf
   refine Elem.o (by first | omega | (simp [Ap] at *; omega)) ?_
   conv => whnf
   refine Len.map ?_
   conv => whnf
   refine Ask.o h fun p15 h => ?_
   conv => whnf
   refine Elem.o (by first | omega | (simp [Ap] at *; omega)) ?_
   conv => whnf
   refine Len.map ?_
   conv => whnf
   refine Ask.o h fun p16 h => ?_
   conv => whnf
   refine SetKids.one (fun _ => ⟨rfl, rfl⟩) (true) (by first | rfl | simp only [Aa, V.fz, fzL, V.up, upL, Ab, Ac, Ad, slr, List.cons_append, List.nil_append] | simp [Aa, V.fz, fzL, V.up, upL, Ab, Ac, Ad, slr]) (by first | omega | (simp [Ap] at *; omega)) ?_
   conv => whnf
   refine Ask.o h fun p17 h => ?_
   conv => whnf
   cases h; exact ⟨rfl, rfl⟩
  conv => whnf
  refine Ask.o h fun p18 h => ?_
  conv => whnf
  cases h; exact ⟨rfl, rfl⟩
 conv => whnf
 cases h; exact ⟨rfl, rfl⟩
noncomputable def F4 (a0 : SAlgebra) (in0 : List Bool) : (Int × (List Bool)) → Option ((Int × (List Bool)) ⊕ (List Bool)) := fun (x6, x5) =>
 if x6 < (↑a0.Ops.length : Int) then
 (Am (Es a0 in0 x6) ((0 : Int), x5)).bind fun q19_5 =>
 ask (InI (x6 + (1 : Int))) <|
 some (.inl (x6 + (1 : Int), q19_5))
 else
 some (.inr x5)
def Lq (a0 : SAlgebra) (in0 : List Bool) : (Int × (List Bool)) → St := fun s => [(6, A.val (Ag s.1)), (5, A.val ((slr true 1 V.bool) s.2)), (2, A.val ((rP true (Ae false)) (a0))), (1, A.val ((slr false 1 V.bool) (in0)))]
def Rn (_a0 : SAlgebra) (_in0 : List Bool) : (List Bool) → Tgt
 | s => ((Ex.exit 0), [5], [(5, A.val ((slr true 1 V.bool) s))])
theorem Ab5 {a0 : SAlgebra} {in0 : List Bool} (s : (Int × (List Bool))) (o : (Int × (List Bool)) ⊕ (List Bool)) (h : F4 a0 in0 s = some o) : vc Try.prog Rg (Cc [6, 5, 2, 1] (Lq a0 in0) (Rn a0 in0) o) (Lq a0 in0 s) := by
 obtain ⟨x6, x5⟩ := s
 unfold F4 at h
 try dsimp only at h
 conv => whnf
 refine Cells.lit rfl rfl ?_
 conv => whnf
 refine Len.map ?_
 conv => whnf
 refine Br.od h (fun p1 h => ?_) (fun p1 h => ?_)
 ·conv => whnf
  refine LoopQ.o [7, 6, 5, 2, 1] (Lh a0 in0 x6) (Sg a0 in0 x6) h (fun s o h => Aak s o h) (by first | rfl | simp [restrict, look, Aa, V.fz, fzL, V.up, upL, Ab, Ac, Ad, slr]) (fun _ => rfl) ?_
  rintro q19_5 h
  try dsimp only at h
  conv => whnf
  refine Ask.o h fun p20 h => ?_
  conv => whnf
  cases h; exact ⟨rfl, rfl⟩
 conv => whnf
 cases h; exact ⟨rfl, rfl⟩
noncomputable def Iv (a0 : SAlgebra) (in0 : (List Bool)) : Option (List Bool) :=
 ask ((Al Bool).length + (in0).length ≤ LIM) <|
 (Am (F4 a0 in0) ((0 : Int), Al Bool ++ in0)).bind fun q21_5 =>
 some q21_5
theorem Aiq {a0 : SAlgebra} {in0 : (List Bool)} {v : (List Bool)} (h : Iv a0 in0 = some v) : Ret Try.prog Qz [(Ae false) a0, (slr false 1 V.bool) in0] ((slr true 1 V.bool) v) := by
 refine Av Aie (Nat.le_of_ble_eq_true rfl) ?_
 unfold Iv at h
 conv => whnf
 refine BslQ.o V.bool (Al Bool) (by exact fun _ => ⟨rfl, rfl⟩) (by first | rfl | simp only [Aa, V.fz, fzL, V.up, upL, Ab, Ac, Ad, slr, List.cons_append, List.nil_append] | simp [Aa, V.fz, fzL, V.up, upL, Ab, Ac, Ad, slr]) ?_
 conv => whnf
 refine AppQ.o (m := 1) V.bool (by exact fun _ => ⟨rfl, rfl⟩) (Al Bool) (in0) (by first | rfl | simp only [Aa, V.fz, fzL, V.up, upL, Ab, Ac, Ad, slr, List.cons_append, List.nil_append] | simp [Aa, V.fz, fzL, V.up, upL, Ab, Ac, Ad, slr]) (by first | rfl | simp only [Aa, V.fz, fzL, V.up, upL, Ab, Ac, Ad, slr, List.cons_append, List.nil_append] | simp [Aa, V.fz, fzL, V.up, upL, Ab, Ac, Ad, slr]) h fun h => ?_
 conv => whnf
 refine LoopQ.o [6, 5, 2, 1] (Lq a0 in0) (Rn a0 in0) h (fun s o h => Ab5 s o h) (by first | rfl | simp [restrict, look, Aa, V.fz, fzL, V.up, upL, Ab, Ac, Ad, slr]) (fun _ => rfl) ?_
 rintro q21_5 h
 try dsimp only at h
 conv => whnf
 cases h; exact (by first | rfl | simp only [Ah, Aa, V.fz, fzL, V.up, upL, Ab, Ac, Ad, slr] | simp [Ah, Aa, V.fz, fzL, V.up, upL, Ab, Ac, Ad, slr])
noncomputable def Cb (a0 : SAlgebra) : Int → Option (Int ⊕ (Unit ⊕ Unit)) := fun x22 =>
 if x22 < (↑a0.Ops.length : Int) then
 ask ((0 : Int) ≤ x22 ∧ x22 < (↑a0.Ops.length : Int)) <|
 (Mp (nth a0.Ops x22.toNat) (a0.Size)).bind fun r7 =>
 if (r7) = true then
 ask (InI (x22 + (1 : Int))) <|
 some (.inl (x22 + (1 : Int)))
 else
 some (.inr (.inl ()))
 else
 some (.inr (.inr ()))
def Ig (a0 : SAlgebra) : Int → St := fun s => [(22, A.val (Ag s)), (21, A.val (Ag ((↑a0.Ops.length : Int)))), (20, A.val ((slr false 2 (A1 false)) (a0.Ops))), (1, A.val ((rP true (Ae false)) (a0)))]
def Np (_a0 : SAlgebra) : (Unit ⊕ Unit) → Tgt
 | (.inl _s) => (Ex.ret, [2], [(2, A.val (V.bool (false)))])
 | (.inr _s) => ((Ex.exit 0), [], [])
theorem Wt {a0 : SAlgebra} (x22 : Int) (o : Int ⊕ (Unit ⊕ Unit)) (h : Cb a0 x22 = some o) : vc Try.prog Nm (Cc [22, 21, 20, 1] (Ig a0) (Np a0) o) (Ig a0 x22) := by
 unfold Cb at h
 try dsimp only at h
 conv => whnf
 refine Br.od h (fun p5 h => ?_) (fun p5 h => ?_)
 ·conv => whnf
  refine Len.map ?_
  conv => whnf
  refine Ask.o h fun p6 h => ?_
  conv => whnf
  refine Elem.o (by first | omega | (simp [Ap] at *; omega)) ?_
  conv => whnf
  refine SetKids.lit rfl ?_
  conv => whnf
  refine Cells.lit rfl rfl ?_
  conv => whnf
  refine Cells.lit rfl rfl ?_
  conv => whnf
  refine CallQ.o V.bool (by first | rfl | simp only [Aa, V.fz, fzL, V.up, upL, Ab, Ac, Ad, slr, List.cons_append, List.nil_append] | simp [Aa, V.fz, fzL, V.up, upL, Ab, Ac, Ad, slr]) h (fun r h => Am9 h) (fun r7 h => ?_)
  conv => whnf
  refine Br.flip ?_
  conv => whnf
  refine Br.ob h (fun p8 h => ?_) (fun p8 h => ?_)
  ·conv => whnf
   refine Ask.o h fun p9 h => ?_
   conv => whnf
   cases h; exact ⟨rfl, rfl⟩
  conv => whnf
  cases h; exact ⟨rfl, rfl⟩
 conv => whnf
 cases h; exact ⟨rfl, rfl⟩
noncomputable def B8 (a0 : SAlgebra) : Option Bool :=
 ((if a0.Size < (1 : Int) then
 some (.inl ())
 else
 if a0.Size > (8 : Int) then
 some (.inl ())
 else
 if (↑a0.Ops.length : Int) > (4 : Int) then
 some (.inl ())
 else
 some (.inr ()) : Option (Unit ⊕ Unit))).bind fun t => match t with
 | (.inl _) => (some false)
 | (.inr _) => ((Am (Cb a0) (0 : Int)).bind fun t => match t with
 | (.inl _) => (some false)
 | (.inr _) => (some true))
theorem Ga {a0 : SAlgebra} {v : Bool} (h : B8 a0 = some v) : Ret Try.prog Dc [(Ae false) a0] (V.bool v) := by
 refine Av Aa7 (Nat.le_of_ble_eq_true rfl) ?_
 unfold B8 at h
 conv => whnf
 refine CutQ.o (fun t : (Unit ⊕ Unit) => match t with | (.inl s) => (Ex.ret, [2], [(2, A.val (V.bool (false)))]) | (.inr s) => (Ex.normal, [1], [(1, A.val ((rP true (Ae false)) (a0)))])) h ?_ ?_
 ·intro t h
  conv => whnf
  refine Cells.lit rfl rfl ?_
  conv => whnf
  refine Br.od h (fun p1 h => ?_) (fun p1 h => ?_)
  ·conv => whnf
   refine Br.yes ?_
   conv => whnf
   refine Br.yes ?_
   conv => whnf
   refine Br.yes ?_
   conv => whnf
   refine Br.yes ?_
   conv => whnf
   refine Br.yes ?_
   conv => whnf
   refine Br.yes ?_
   conv => whnf
   refine Br.yes ?_
   conv => whnf
   refine Br.yes ?_
   conv => whnf
   refine Br.yes ?_
   conv => whnf
   cases h; exact ⟨rfl, rfl⟩
  conv => whnf
  refine Br.no ?_
  conv => whnf
  refine Cells.lit rfl rfl ?_
  conv => whnf
  refine Br.no ?_
  conv => whnf
  refine Br.no ?_
  conv => whnf
  refine Br.od h (fun p2 h => ?_) (fun p2 h => ?_)
  ·conv => whnf
   refine Br.yes ?_
   conv => whnf
   refine Br.yes ?_
   conv => whnf
   refine Br.yes ?_
   conv => whnf
   refine Br.yes ?_
   conv => whnf
   refine Br.yes ?_
   conv => whnf
   cases h; exact ⟨rfl, rfl⟩
  conv => whnf
  refine Br.no ?_
  conv => whnf
  refine Cells.lit rfl rfl ?_
  conv => whnf
  refine Br.no ?_
  conv => whnf
  refine Len.map ?_
  conv => whnf
  refine Br.no ?_
  conv => whnf
  refine Br.no ?_
  conv => whnf
  refine Br.od h (fun p3 h => ?_) (fun p3 h => ?_)
  ·conv => whnf
   cases h; exact ⟨rfl, rfl⟩
  conv => whnf
  cases h; exact ⟨rfl, rfl⟩
 rintro (⟨⟩ | ⟨⟩) h
 ·try dsimp only at h
  conv => whnf
  cases h; exact (by first | rfl | simp only [Ah, Aa, V.fz, fzL, V.up, upL, Ab, Ac, Ad, slr] | simp [Ah, Aa, V.fz, fzL, V.up, upL, Ab, Ac, Ad, slr])
 try dsimp only at h
 conv => whnf
 refine Cells.lit rfl rfl ?_
 conv => whnf
 refine Len.map ?_
 conv => whnf
 refine LoopQ.o [22, 21, 20, 1] (Ig a0) (Np a0) h (fun s o h => Wt s o h) (by first | rfl | simp [restrict, look, Aa, V.fz, fzL, V.up, upL, Ab, Ac, Ad, slr]) (by rintro (_ | _) <;> rfl) ?_
 rintro (⟨⟩ | ⟨⟩) h
 ·try dsimp only at h
  conv => whnf
  cases h; exact (by first | rfl | simp only [Ah, Aa, V.fz, fzL, V.up, upL, Ab, Ac, Ad, slr] | simp [Ah, Aa, V.fz, fzL, V.up, upL, Ab, Ac, Ad, slr])
 try dsimp only at h
 conv => whnf
 cases h; exact (by first | rfl | simp only [Ah, Aa, V.fz, fzL, V.up, upL, Ab, Ac, Ad, slr] | simp [Ah, Aa, V.fz, fzL, V.up, upL, Ab, Ac, Ad, slr])
noncomputable def Dd (a0 : SAlgebra) : Int → Option (Int ⊕ (Unit ⊕ Unit)) := fun x3 =>
 if x3 < (↑a0.Ops.length : Int) then
 ask ((0 : Int) ≤ x3 ∧ x3 < (↑a0.Ops.length : Int)) <|
 (Ml (a0.Size) (nth a0.Ops x3.toNat)).bind fun r7 =>
 if (r7) = true then
 ask (InI (x3 + (1 : Int))) <|
 some (.inl (x3 + (1 : Int)))
 else
 some (.inr (.inl ()))
 else
 some (.inr (.inr ()))
def Lj (a0 : SAlgebra) : Int → St := fun s => [(3, A.val (Ag s)), (1, A.val ((rP true (Ae false)) (a0)))]
def Rd (_a0 : SAlgebra) : (Unit ⊕ Unit) → Tgt
 | (.inl _s) => (Ex.ret, [2], [(2, A.val (V.bool (false)))])
 | (.inr _s) => ((Ex.exit 0), [], [])
theorem Ab6 {a0 : SAlgebra} (x3 : Int) (o : Int ⊕ (Unit ⊕ Unit)) (h : Dd a0 x3 = some o) : vc Try.prog Rt (Cc [3, 1] (Lj a0) (Rd a0) o) (Lj a0 x3) := by
 unfold Dd at h
 try dsimp only at h
 conv => whnf
 refine Cells.lit rfl rfl ?_
 conv => whnf
 refine Len.map ?_
 conv => whnf
 refine Br.od h (fun p5 h => ?_) (fun p5 h => ?_)
 ·conv => whnf
  refine Cells.lit rfl rfl ?_
  conv => whnf
  refine Cells.lit rfl rfl ?_
  conv => whnf
  refine Len.map ?_
  conv => whnf
  refine Ask.o h fun p6 h => ?_
  conv => whnf
  refine Elem.o (by first | omega | (simp [Ap] at *; omega)) ?_
  conv => whnf
  refine CallQ.o V.bool (by first | rfl | simp only [Aa, V.fz, fzL, V.up, upL, Ab, Ac, Ad, slr, List.cons_append, List.nil_append] | simp [Aa, V.fz, fzL, V.up, upL, Ab, Ac, Ad, slr]) h (fun r h => Aoe h) (fun r7 h => ?_)
  conv => whnf
  refine Br.flip ?_
  conv => whnf
  refine Br.ob h (fun p8 h => ?_) (fun p8 h => ?_)
  ·conv => whnf
   refine Ask.o h fun p9 h => ?_
   conv => whnf
   cases h; exact ⟨rfl, rfl⟩
  conv => whnf
  cases h; exact ⟨rfl, rfl⟩
 conv => whnf
 cases h; exact ⟨rfl, rfl⟩
noncomputable def Cv (a0 : SAlgebra) : Option Bool :=
 (((Fj (a0.Size) ((1 : Int)) ((8 : Int))).bind fun r1 =>
 if (r1) = true then
 if (↑a0.Ops.length : Int) > (4 : Int) then
 some (.inl ())
 else
 some (.inr ())
 else
 some (.inl ()) : Option (Unit ⊕ Unit))).bind fun t => match t with
 | (.inl _) => (some false)
 | (.inr _) => ((Am (Dd a0) (0 : Int)).bind fun t => match t with
 | (.inl _) => (some false)
 | (.inr _) => (some true))
theorem G1 {a0 : SAlgebra} {v : Bool} (h : Cv a0 = some v) : Ret Try.prog Em [(Ae false) a0] (V.bool v) := by
 refine Av Ah1 (Nat.le_of_ble_eq_true rfl) ?_
 unfold Cv at h
 conv => whnf
 refine CutQ.o (fun t : (Unit ⊕ Unit) => match t with | (.inl s) => (Ex.ret, [2], [(2, A.val (V.bool (false)))]) | (.inr s) => (Ex.normal, [1], [(1, A.val ((rP true (Ae false)) (a0)))])) h ?_ ?_
 ·intro t h
  conv => whnf
  refine Cells.lit rfl rfl ?_
  conv => whnf
  refine CallQ.o V.bool (by first | rfl | simp only [Aa, V.fz, fzL, V.up, upL, Ab, Ac, Ad, slr, List.cons_append, List.nil_append] | simp [Aa, V.fz, fzL, V.up, upL, Ab, Ac, Ad, slr]) h (fun r h => Mr h) (fun r1 h => ?_)
  conv => whnf
  refine Br.flip ?_
  conv => whnf
  refine Br.ob h (fun p2 h => ?_) (fun p2 h => ?_)
  ·conv => whnf
   refine Br.no ?_
   conv => whnf
   refine Cells.lit rfl rfl ?_
   conv => whnf
   refine Br.no ?_
   conv => whnf
   refine Len.map ?_
   conv => whnf
   refine Br.no ?_
   conv => whnf
   refine Br.no ?_
   conv => whnf
   refine Br.od h (fun p3 h => ?_) (fun p3 h => ?_)
   ·conv => whnf
    cases h; exact ⟨rfl, rfl⟩
   conv => whnf
   cases h; exact ⟨rfl, rfl⟩
  conv => whnf
  refine Br.yes ?_
  conv => whnf
  refine Br.yes ?_
  conv => whnf
  refine Br.yes ?_
  conv => whnf
  refine Br.yes ?_
  conv => whnf
  refine Br.yes ?_
  conv => whnf
  cases h; exact ⟨rfl, rfl⟩
 rintro (⟨⟩ | ⟨⟩) h
 ·try dsimp only at h
  conv => whnf
  cases h; exact (by first | rfl | simp only [Ah, Aa, V.fz, fzL, V.up, upL, Ab, Ac, Ad, slr] | simp [Ah, Aa, V.fz, fzL, V.up, upL, Ab, Ac, Ad, slr])
 try dsimp only at h
 conv => whnf
 refine LoopQ.o [3, 1] (Lj a0) (Rd a0) h (fun s o h => Ab6 s o h) (by first | rfl | simp [restrict, look, Aa, V.fz, fzL, V.up, upL, Ab, Ac, Ad, slr]) (by rintro (_ | _) <;> rfl) ?_
 rintro (⟨⟩ | ⟨⟩) h
 ·try dsimp only at h
  conv => whnf
  cases h; exact (by first | rfl | simp only [Ah, Aa, V.fz, fzL, V.up, upL, Ab, Ac, Ad, slr] | simp [Ah, Aa, V.fz, fzL, V.up, upL, Ab, Ac, Ad, slr])
 try dsimp only at h
 conv => whnf
 cases h; exact (by first | rfl | simp only [Ah, Aa, V.fz, fzL, V.up, upL, Ab, Ac, Ad, slr] | simp [Ah, Aa, V.fz, fzL, V.up, upL, Ab, Ac, Ad, slr])
noncomputable def Bz (c0 : Sl1Cur) (n0 : Int) : Option (Bool × Sl1Cur) :=
 (Ak (c0) (n0)).bind fun (r1, u2) =>
 some (r1 == (0 : Int), u2)
theorem Gb {c0 : Sl1Cur} {n0 : Int} {v : (Bool × Sl1Cur)} (h : Bz c0 n0 = some v) : Tu Try.prog De [(rP true (Aj false)) c0, Ag n0] (V.bool v.1) 0 ((rP true (Aj false)) v.2) := by
 refine Qh Aa1 (Nat.le_of_ble_eq_true rfl) ?_
 unfold Bz at h
 conv => whnf
 refine CallQ.io Ag (rP true (Aj false)) (by first | rfl | simp only [Aa, V.fz, fzL, V.up, upL, Ab, Ac, Ad, slr, List.cons_append, List.nil_append] | simp [Aa, V.fz, fzL, V.up, upL, Ab, Ac, Ad, slr]) rfl (fun _ => rfl) (fun _ => ⟨rfl, rfl⟩) rfl h (fun r h => Ar h) (fun r1 u2 h => ?_)
 conv => whnf
 cases h; exact ⟨(by first | rfl | simp only [Ah, Aa, V.fz, fzL, V.up, upL, Ab, Ac, Ad, slr] | simp [Ah, Aa, V.fz, fzL, V.up, upL, Ab, Ac, Ad, slr]), (by first | rfl | simp only [Ah, Aa, V.fz, fzL, V.up, upL, Ab, Ac, Ad, slr] | simp [Ah, Aa, V.fz, fzL, V.up, upL, Ab, Ac, Ad, slr])⟩
noncomputable def H5 (a0 : SAlgebra) (b0 : SAlgebra) (f0 : (List Int)) : Option Bool :=
 if (↑f0.length : Int) = a0.Size then
 (D5 (b0.Size) (f0)).bind fun r2 =>
 some r2
 else
 some false
theorem Zj {a0 : SAlgebra} {b0 : SAlgebra} {f0 : (List Int)} {v : Bool} (h : H5 a0 b0 f0 = some v) : Ret Try.prog Ny [(Ae false) a0, (Ae false) b0, (slr false 1 Ag) f0] (V.bool v) := by
 refine Av Ala (Nat.le_of_ble_eq_true rfl) ?_
 unfold H5 at h
 conv => whnf
 refine Len.map ?_
 conv => whnf
 refine Cells.lit rfl rfl ?_
 conv => whnf
 refine Br.oe h (fun p1 h => ?_) (fun p1 h => ?_)
 ·conv => whnf
  refine Br.yes ?_
  conv => whnf
  refine Cells.lit rfl rfl ?_
  conv => whnf
  refine Br.yes ?_
  conv => whnf
  refine Br.yes ?_
  conv => whnf
  refine CallQ.o V.bool (by first | rfl | simp only [Aa, V.fz, fzL, V.up, upL, Ab, Ac, Ad, slr, List.cons_append, List.nil_append] | simp [Aa, V.fz, fzL, V.up, upL, Ab, Ac, Ad, slr]) h (fun r h => Pu h) (fun r2 h => ?_)
  conv => whnf
  refine Br.yes ?_
  conv => whnf
  cases h; exact (by first | rfl | simp only [Ah, Aa, V.fz, fzL, V.up, upL, Ab, Ac, Ad, slr] | simp [Ah, Aa, V.fz, fzL, V.up, upL, Ab, Ac, Ad, slr])
 conv => whnf
 refine Br.no ?_
 conv => whnf
 refine Br.no ?_
 conv => whnf
 refine Br.no ?_
 conv => whnf
 refine Br.no ?_
 conv => whnf
 cases h; exact (by first | rfl | simp only [Ah, Aa, V.fz, fzL, V.up, upL, Ab, Ac, Ad, slr] | simp [Ah, Aa, V.fz, fzL, V.up, upL, Ab, Ac, Ad, slr])
end Go.Proofs.Ytiakjbigaaanhaa.Ax
