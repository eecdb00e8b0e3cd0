/-
 What the functions compute, as functions on plain data, and that the program does compute it; written by program.
-/
import Derived.Test.YtidaaijecmkndaaCode
import Derived.Test.YtidaaijecmkndaaG1
import Derived.Test.YtidaaijecmkndaaG2
namespace Go.Proofs.Ytidaaijecmkndaa.Ax
open Go
set_option maxRecDepth 100000
set_option maxHeartbeats 4000000
noncomputable def Ct (tables0 : List (List Int)) (t0 : List Int) : Int → Option (Int ⊕ (Int ⊕ Unit)) := fun x5 =>
 if x5 < (↑tables0.length : Int) then
 ask ((0 : Int) ≤ x5 ∧ x5 < (↑tables0.length : Int)) <|
 (Bw (nth tables0 x5.toNat) (t0)).bind fun r3 =>
 if (r3) = true then
 some (.inr (.inl x5))
 else
 ask (InI (x5 + (1 : Int))) <|
 some (.inl (x5 + (1 : Int)))
 else
 some (.inr (.inr ()))
def Kp (tables0 : List (List Int)) (t0 : List Int) : Int → St := fun s => [(5, A.val (Af s)), (0, A.val ((slr false 1 (slr false 1 Af)) (tables0))), (1, A.val ((slr false 1 Af) (t0)))]
def Py (_tables0 : List (List Int)) (_t0 : List Int) : (Int ⊕ Unit) → Tgt
 | (.inl s) => (Ex.ret, [4], [(4, A.val (Af s))])
 | (.inr _s) => ((Ex.exit 0), [], [])
theorem Z0 {tables0 : List (List Int)} {t0 : List Int} (x5 : Int) (o : Int ⊕ (Int ⊕ Unit)) (h : Ct tables0 t0 x5 = some o) : vc Try.prog Qw (Dl [5, 0, 1] (Kp tables0 t0) (Py tables0 t0) o) (Kp tables0 t0 x5) := by
 unfold Ct at h
 try dsimp only at h
 conv => whnf
 refine Len.map ?_
 conv => whnf
 refine Br.od h (fun p1 h => ?_) (fun p1 h => ?_)
 ·conv => whnf
  refine Len.map ?_
  conv => whnf
  refine Ask.o h fun p2 h => ?_
  conv => whnf
  refine Elem.o (by first | omega | (simp [Au] at *; omega)) ?_
  conv => whnf
  refine CallQ.o V.bool (by first | rfl | simp only [Aa, V.fz, fzL, V.up, upL, Ab, Ac, Ad, slr, List.cons_append, List.nil_append] | simp [Aa, V.fz, fzL, V.up, upL, Ab, Ac, Ad, slr]) h (fun r h => Hz h) (fun r3 h => ?_)
  conv => whnf
  refine Br.ob h (fun p4 h => ?_) (fun p4 h => ?_)
  ·conv => whnf
   cases h; exact ⟨rfl, rfl⟩
  conv => whnf
  refine Ask.o h fun p5 h => ?_
  conv => whnf
  cases h; exact ⟨rfl, rfl⟩
 conv => whnf
 cases h; exact ⟨rfl, rfl⟩
noncomputable def Gv (tables0 : (List (List Int))) (t0 : (List Int)) : Option Int :=
 (Ap (Ct tables0 t0) (0 : Int)).bind fun t => match t with
 | (.inl q6_4) => (some q6_4)
 | (.inr _) => (some (-1 : Int))
theorem Vy {tables0 : (List (List Int))} {t0 : (List Int)} {v : Int} (h : Gv tables0 t0 = some v) : Ret Try.prog Lf [(slr false 1 (slr false 1 Af)) tables0, (slr false 1 Af) t0] (Af v) := by
 refine A7 Afj (Nat.le_of_ble_eq_true rfl) ?_
 unfold Gv at h
 conv => whnf
 refine LoopQ.o [5, 0, 1] (Kp tables0 t0) (Py tables0 t0) h (fun s o h => Z0 s o h) (by first | rfl | simp [restrict, look, Aa, V.fz, fzL, V.up, upL, Ab, Ac, Ad, slr]) (by rintro (_ | _) <;> rfl) ?_
 rintro (q6_4 | ⟨⟩) h
 ·try dsimp only at h
  conv => whnf
  cases h; exact (by first | rfl | simp only [Ag, Aa, V.fz, fzL, V.up, upL, Ab, Ac, Ad, slr] | simp [Ag, Aa, V.fz, fzL, V.up, upL, Ab, Ac, Ad, slr])
 try dsimp only at h
 conv => whnf
 cases h; exact (by first | rfl | simp only [Ag, Aa, V.fz, fzL, V.up, upL, Ab, Ac, Ad, slr] | simp [Ag, Aa, V.fz, fzL, V.up, upL, Ab, Ac, Ad, slr])
noncomputable def A3 (c0 : Sl1Cur) (n0 : Int) : Option (Int × Sl1Cur) :=
 if n0 ≤ (1 : Int) then
 some ((0 : Int), c0)
 else
 (Dz (c0)).bind fun (r2, u3) =>
 if n0 > (200 : Int) then
 ask (InI (r2 * (256 : Int))) <|
 (Dz (u3)).bind fun (r6, u7) =>
 ask (InI (r2 * (256 : Int) + r6)) <|
 ask (n0 ≠ (0 : Int)) <|
 some ((r2 * (256 : Int) + r6).tmod n0, u7)
 else
 ask (n0 ≠ (0 : Int)) <|
 some (r2.tmod n0, u3)
theorem Bd {c0 : Sl1Cur} {n0 : Int} {v : (Int × Sl1Cur)} (h : A3 c0 n0 = some v) : Vm Try.prog A6 [(rP true (Aj false)) c0, Af n0] (Af v.1) 0 ((rP true (Aj false)) v.2) := by
 refine N8 X6 (Nat.le_of_ble_eq_true rfl) ?_
 unfold A3 at h
 conv => whnf
 refine Br.od h (fun p1 h => ?_) (fun p1 h => ?_)
 ·conv => whnf
  cases h; exact ⟨(by first | rfl | simp only [Ag, Aa, V.fz, fzL, V.up, upL, Ab, Ac, Ad, slr] | simp [Ag, Aa, V.fz, fzL, V.up, upL, Ab, Ac, Ad, slr]), (by first | rfl | simp only [Ag, Aa, V.fz, fzL, V.up, upL, Ab, Ac, Ad, slr] | simp [Ag, Aa, V.fz, fzL, V.up, upL, Ab, Ac, Ad, slr])⟩
 conv => whnf
 refine CallQ.io Af (rP true (Aj false)) (by first | rfl | simp only [Aa, V.fz, fzL, V.up, upL, Ab, Ac, Ad, slr, List.cons_append, List.nil_append] | simp [Aa, V.fz, fzL, V.up, upL, Ab, Ac, Ad, slr]) rfl (fun _ => rfl) (fun _ => ⟨rfl, rfl⟩) rfl h (fun r h => Ox h) (fun r2 u3 h => ?_)
 conv => whnf
 refine Br.od h (fun p4 h => ?_) (fun p4 h => ?_)
 ·conv => whnf
  refine Ask.o h fun p5 h => ?_
  conv => whnf
  refine CallQ.io Af (rP true (Aj false)) (by first | rfl | simp only [Aa, V.fz, fzL, V.up, upL, Ab, Ac, Ad, slr, List.cons_append, List.nil_append] | simp [Aa, V.fz, fzL, V.up, upL, Ab, Ac, Ad, slr]) rfl (fun _ => rfl) (fun _ => ⟨rfl, rfl⟩) rfl h (fun r h => Ox h) (fun r6 u7 h => ?_)
  conv => whnf
  refine Ask.o h fun p8 h => ?_
  conv => whnf
  refine Ask.o h fun p9 h => ?_
  conv => whnf
  cases h; exact ⟨(by first | rfl | simp only [Ag, Aa, V.fz, fzL, V.up, upL, Ab, Ac, Ad, slr] | simp [Ag, Aa, V.fz, fzL, V.up, upL, Ab, Ac, Ad, slr]), (by first | rfl | simp only [Ag, Aa, V.fz, fzL, V.up, upL, Ab, Ac, Ad, slr] | simp [Ag, Aa, V.fz, fzL, V.up, upL, Ab, Ac, Ad, slr])⟩
 conv => whnf
 refine Ask.o h fun p10 h => ?_
 conv => whnf
 cases h; exact ⟨(by first | rfl | simp only [Ag, Aa, V.fz, fzL, V.up, upL, Ab, Ac, Ad, slr] | simp [Ag, Aa, V.fz, fzL, V.up, upL, Ab, Ac, Ad, slr]), (by first | rfl | simp only [Ag, Aa, V.fz, fzL, V.up, upL, Ab, Ac, Ad, slr] | simp [Ag, Aa, V.fz, fzL, V.up, upL, Ab, Ac, Ad, slr])⟩
noncomputable def Db (_a0 : SAlgebra) (in0 : List Bool) (_x6 : Int) (_x7 : Int) (_x5' : List Bool) (r5 : List Int) : (Int × Bool) → Option ((Int × Bool) ⊕ Bool) := fun (x10, x9) =>
 if x10 < (↑r5.length : Int) then
 if (x9) = true then
 ask ((0 : Int) ≤ x10 ∧ x10 < (↑r5.length : Int)) <|
 ask ((0 : Int) ≤ nth r5 x10.toNat ∧ nth r5 x10.toNat < (↑in0.length : Int)) <|
 ask (InI (x10 + (1 : Int))) <|
 some (.inl (x10 + (1 : Int), nth in0 (nth r5 x10.toNat).toNat))
 else
 ask (InI (x10 + (1 : Int))) <|
 some (.inl (x10 + (1 : Int), false))
 else
 some (.inr x9)
def Kr (a0 : SAlgebra) (in0 : List Bool) (x6 : Int) (x7 : Int) (x5' : List Bool) (r5 : List Int) : (Int × Bool) → St := fun s => [(10, A.val (Af s.1)), (9, A.val (V.bool s.2)), (8, A.val ((slr true 1 Af) (r5))), (7, A.val (Af (x7))), (6, A.val (Af (x6))), (5, A.val ((slr true 1 V.bool) (x5'))), (2, A.val ((rP true (Ah false)) (a0))), (1, A.val ((slr false 1 V.bool) (in0)))]
def Ra (a0 : SAlgebra) (in0 : List Bool) (x6 : Int) (x7 : Int) (x5' : List Bool) (_r5 : List Int) : Bool → Tgt
 | s => ((Ex.exit 4), [9, 7, 6, 5, 2, 1], [(9, A.val (V.bool s)), (7, A.val (Af (x7))), (6, A.val (Af (x6))), (5, A.val ((slr true 1 V.bool) (x5'))), (2, A.val ((rP true (Ah false)) (a0))), (1, A.val ((slr false 1 V.bool) (in0)))])
theorem Z6 {a0 : SAlgebra} {in0 : List Bool} {x6 : Int} {x7 : Int} {x5' : List Bool} {r5 : List Int} (s : (Int × Bool)) (o : (Int × Bool) ⊕ Bool) (h : Db a0 in0 x6 x7 x5' r5 s = some o) : vc Try.prog Qb (Dl [10, 9, 8, 7, 6, 5, 2, 1] (Kr a0 in0 x6 x7 x5' r5) (Ra a0 in0 x6 x7 x5' r5) o) (Kr a0 in0 x6 x7 x5' r5 s) := by
 obtain ⟨x10, x9⟩ := s
 unfold Db at h
 try dsimp only at h
 conv => whnf
 refine Len.map ?_
 conv => whnf
 refine Br.od h (fun p6 h => ?_) (fun p6 h => ?_)
 ·conv => whnf
  refine Br.ob h (fun p7 h => ?_) (fun p7 h => ?_)
  ·conv => whnf
   refine Br.yes ?_
   conv => whnf
   refine Br.yes ?_
   conv => whnf
   refine Br.yes ?_
   conv => whnf
   refine Len.map ?_
   conv => whnf
   refine Ask.o h fun p8 h => ?_
   conv => whnf
   refine Br.yes ?_
   conv => whnf
   refine Cells.one (fun _ => ⟨rfl, rfl⟩) (by first | omega | (simp [Au] at *; omega)) ?_
   conv => whnf
   refine Br.yes ?_
   conv => whnf
   refine Len.map ?_
   conv => whnf
   refine Ask.o h fun p9 h => ?_
   conv => whnf
   refine Elem.o (by first | omega | (simp [Au] at *; omega)) ?_
   conv => whnf
   refine Br.yes ?_
   conv => whnf
   refine Br.yes ?_
   conv => whnf
   refine Ask.o h fun p10 h => ?_
   conv => whnf
   cases h; exact ⟨rfl, rfl⟩
  conv => whnf
  refine Br.no ?_
  conv => whnf
  refine Br.no ?_
  conv => whnf
  refine Br.no ?_
  conv => whnf
  refine Br.no ?_
  conv => whnf
  refine Br.no ?_
  conv => whnf
  refine Br.no ?_
  conv => whnf
  refine Br.no ?_
  conv => whnf
  refine Ask.o h fun p11 h => ?_
  conv => whnf
  cases h; exact ⟨rfl, rfl⟩
 conv => whnf
 cases h; exact ⟨rfl, rfl⟩
noncomputable def Eh (a0 : SAlgebra) (in0 : List Bool) (x6 : Int) : (Int × (List Bool)) → Option ((Int × (List Bool)) ⊕ (List Bool)) := fun (x7, x5') =>
 ask ((0 : Int) ≤ x6 ∧ x6 < (↑a0.Ops.length : Int)) <|
 if x7 < (↑(nth a0.Ops x6.toNat).Table.length : Int) then
 ask ((0 : Int) ≤ x6 ∧ x6 < (↑a0.Ops.length : Int)) <|
 (Ip (a0.Size) ((nth a0.Ops x6.toNat).Arity) (x7)).bind fun r5 =>
 (Ap (Db a0 in0 x6 x7 x5' r5) ((0 : Int), true)).bind fun q12_9 =>
 if (q12_9) = true then
 ask ((0 : Int) ≤ x6 ∧ x6 < (↑a0.Ops.length : Int)) <|
 ask ((0 : Int) ≤ x7 ∧ x7 < (↑(nth a0.Ops x6.toNat).Table.length : Int)) <|
 ask ((0 : Int) ≤ nth (nth a0.Ops x6.toNat).Table x7.toNat ∧ nth (nth a0.Ops x6.toNat).Table x7.toNat < (↑x5'.length : Int)) <|
 ask (InI (x7 + (1 : Int))) <|
 some (.inl (x7 + (1 : Int), x5'.set (nth (nth a0.Ops x6.toNat).Table x7.toNat).toNat true))
 else
 ask (InI (x7 + (1 : Int))) <|
 some (.inl (x7 + (1 : Int), x5'))
 else
 some (.inr x5')
def K4 (a0 : SAlgebra) (in0 : List Bool) (x6 : Int) : (Int × (List Bool)) → St := fun s => [(7, A.val (Af s.1)), (6, A.val (Af (x6))), (5, A.val ((slr true 1 V.bool) s.2)), (2, A.val ((rP true (Ah false)) (a0))), (1, A.val ((slr false 1 V.bool) (in0)))]
def P5 (a0 : SAlgebra) (in0 : List Bool) (x6 : Int) : (List Bool) → Tgt
 | s => ((Ex.exit 2), [6, 5, 2, 1], [(6, A.val (Af (x6))), (5, A.val ((slr true 1 V.bool) s)), (2, A.val ((rP true (Ah false)) (a0))), (1, A.val ((slr false 1 V.bool) (in0)))])
theorem Zr {a0 : SAlgebra} {in0 : List Bool} {x6 : Int} (s : (Int × (List Bool))) (o : (Int × (List Bool)) ⊕ (List Bool)) (h : Eh a0 in0 x6 s = some o) : vc Try.prog Qq (Dl [7, 6, 5, 2, 1] (K4 a0 in0 x6) (P5 a0 in0 x6) o) (K4 a0 in0 x6 s) := by
 obtain ⟨x7, x5'⟩ := s
 unfold Eh at h
 try dsimp only at h
 conv => whnf
 refine Cells.lit rfl rfl ?_
 conv => whnf
 refine Len.map ?_
 conv => whnf
 refine Ask.o h fun p2 h => ?_
 conv => whnf
 refine Elem.o (by first | omega | (simp [Au] at *; omega)) ?_
 conv => whnf
 refine Len.map ?_
 conv => whnf
 refine Br.od h (fun p3 h => ?_) (fun p3 h => ?_)
 ·conv => whnf
  refine Cells.lit rfl rfl ?_
  conv => whnf
  refine Cells.lit rfl rfl ?_
  conv => whnf
  refine Len.map ?_
  conv => whnf
  refine Ask.o h fun p4 h => ?_
  conv => whnf
  refine Elem.o (by first | omega | (simp [Au] at *; omega)) ?_
  conv => whnf
  refine CallQ.o (slr true 1 Af) (by first | rfl | simp only [Aa, V.fz, fzL, V.up, upL, Ab, Ac, Ad, slr, List.cons_append, List.nil_append] | simp [Aa, V.fz, fzL, V.up, upL, Ab, Ac, Ad, slr]) h (fun r h => Afr h) (fun r5 h => ?_)
  conv => whnf
  refine LoopQ.o [10, 9, 8, 7, 6, 5, 2, 1] (Kr a0 in0 x6 x7 x5' r5) (Ra a0 in0 x6 x7 x5' r5) h (fun s o h => Z6 s o h) (by first | rfl | simp [restrict, look, Aa, V.fz, fzL, V.up, upL, Ab, Ac, Ad, slr]) (fun _ => rfl) ?_
  rintro q12_9 h
  try dsimp only at h
  conv => whnf
  refine Br.ob h (fun p13 h => ?_) (fun p13 h => ?_)
  ·conv => whnf
   refine Cells.lit rfl rfl ?_
   conv => whnf
   refine Len.map ?_
   conv => whnf
   refine Ask.o h fun p14 h => ?_
   conv => whnf
   refine Elem.o (by first | omega | (simp [Au] at *; omega)) ?_
   conv => whnf
   refine Len.map ?_
   conv => whnf
   refine Ask.o h fun p15 h => ?_
   conv => whnf
   refine Elem.o (by first | omega | (simp [Au] at *; omega)) ?_
   conv => whnf
   refine Len.map ?_
   conv => whnf
   refine Ask.o h fun p16 h => ?_
   conv => whnf
   refine SetKids.one (fun _ => ⟨rfl, rfl⟩) (true) (by first | rfl | simp only [Aa, V.fz, fzL, V.up, upL, Ab, Ac, Ad, slr, List.cons_append, List.nil_append] | simp [Aa, V.fz, fzL, V.up, upL, Ab, Ac, Ad, slr]) (by first | omega | (simp [Au] at *; omega)) ?_
   conv => whnf
   refine Ask.o h fun p17 h => ?_
   conv => whnf
   cases h; exact ⟨rfl, rfl⟩
  conv => whnf
  refine Ask.o h fun p18 h => ?_
  conv => whnf
  cases h; exact ⟨rfl, rfl⟩
 conv => whnf
 cases h; exact ⟨rfl, rfl⟩
noncomputable def F5 (a0 : SAlgebra) (in0 : List Bool) : (Int × (List Bool)) → Option ((Int × (List Bool)) ⊕ (List Bool)) := fun (x6, x5) =>
 if x6 < (↑a0.Ops.length : Int) then
 (Ap (Eh a0 in0 x6) ((0 : Int), x5)).bind fun q19_5 =>
 ask (InI (x6 + (1 : Int))) <|
 some (.inl (x6 + (1 : Int), q19_5))
 else
 some (.inr x5)
def Km (a0 : SAlgebra) (in0 : List Bool) : (Int × (List Bool)) → St := fun s => [(6, A.val (Af s.1)), (5, A.val ((slr true 1 V.bool) s.2)), (2, A.val ((rP true (Ah false)) (a0))), (1, A.val ((slr false 1 V.bool) (in0)))]
def Qi (_a0 : SAlgebra) (_in0 : List Bool) : (List Bool) → Tgt
 | s => ((Ex.exit 0), [5], [(5, A.val ((slr true 1 V.bool) s))])
theorem Zp {a0 : SAlgebra} {in0 : List Bool} (s : (Int × (List Bool))) (o : (Int × (List Bool)) ⊕ (List Bool)) (h : F5 a0 in0 s = some o) : vc Try.prog Re (Dl [6, 5, 2, 1] (Km a0 in0) (Qi a0 in0) o) (Km a0 in0 s) := by
 obtain ⟨x6, x5⟩ := s
 unfold F5 at h
 try dsimp only at h
 conv => whnf
 refine Cells.lit rfl rfl ?_
 conv => whnf
 refine Len.map ?_
 conv => whnf
 refine Br.od h (fun p1 h => ?_) (fun p1 h => ?_)
 ·conv => whnf
  refine LoopQ.o [7, 6, 5, 2, 1] (K4 a0 in0 x6) (P5 a0 in0 x6) h (fun s o h => Zr s o h) (by first | rfl | simp [restrict, look, Aa, V.fz, fzL, V.up, upL, Ab, Ac, Ad, slr]) (fun _ => rfl) ?_
  rintro q19_5 h
  try dsimp only at h
  conv => whnf
  refine Ask.o h fun p20 h => ?_
  conv => whnf
  cases h; exact ⟨rfl, rfl⟩
 conv => whnf
 cases h; exact ⟨rfl, rfl⟩
noncomputable def Fl (a0 : SAlgebra) (in0 : (List Bool)) : Option (List Bool) :=
 ask ((A9 Bool).length + (in0).length ≤ LIM) <|
 (Ap (F5 a0 in0) ((0 : Int), A9 Bool ++ in0)).bind fun q21_5 =>
 some q21_5
theorem V7 {a0 : SAlgebra} {in0 : (List Bool)} {v : (List Bool)} (h : Fl a0 in0 = some v) : Ret Try.prog K7 [(Ah false) a0, (slr false 1 V.bool) in0] ((slr true 1 V.bool) v) := by
 refine A7 Ae6 (Nat.le_of_ble_eq_true rfl) ?_
 unfold Fl at h
 conv => whnf
 refine BslQ.o V.bool (A9 Bool) (by exact fun _ => ⟨rfl, rfl⟩) (by first | rfl | simp only [Aa, V.fz, fzL, V.up, upL, Ab, Ac, Ad, slr, List.cons_append, List.nil_append] | simp [Aa, V.fz, fzL, V.up, upL, Ab, Ac, Ad, slr]) ?_
 conv => whnf
 refine AppQ.o (m := 1) V.bool (by exact fun _ => ⟨rfl, rfl⟩) (A9 Bool) (in0) (by first | rfl | simp only [Aa, V.fz, fzL, V.up, upL, Ab, Ac, Ad, slr, List.cons_append, List.nil_append] | simp [Aa, V.fz, fzL, V.up, upL, Ab, Ac, Ad, slr]) (by first | rfl | simp only [Aa, V.fz, fzL, V.up, upL, Ab, Ac, Ad, slr, List.cons_append, List.nil_append] | simp [Aa, V.fz, fzL, V.up, upL, Ab, Ac, Ad, slr]) h fun h => ?_
 conv => whnf
 refine LoopQ.o [6, 5, 2, 1] (Km a0 in0) (Qi a0 in0) h (fun s o h => Zp s o h) (by first | rfl | simp [restrict, look, Aa, V.fz, fzL, V.up, upL, Ab, Ac, Ad, slr]) (fun _ => rfl) ?_
 rintro q21_5 h
 try dsimp only at h
 conv => whnf
 cases h; exact (by first | rfl | simp only [Ag, Aa, V.fz, fzL, V.up, upL, Ab, Ac, Ad, slr] | simp [Ag, Aa, V.fz, fzL, V.up, upL, Ab, Ac, Ad, slr])
noncomputable def C2 (x0 : List Int) (y0 : List Int) : (Int × (List Int)) → Option ((Int × (List Int)) ⊕ (List Int)) := fun (x11, x5) =>
 if x11 < (↑x0.length : Int) then
 ask ((0 : Int) ≤ x11 ∧ x11 < (↑x0.length : Int)) <|
 (Im (y0) (nth x0 x11.toNat)).bind fun r3 =>
 if (r3) = true then
 ask (InI (x11 + (1 : Int))) <|
 some (.inl (x11 + (1 : Int), x5))
 else
 ask ((x5).length + ([nth x0 x11.toNat]).length ≤ LIM) <|
 ask (InI (x11 + (1 : Int))) <|
 some (.inl (x11 + (1 : Int), x5 ++ [nth x0 x11.toNat]))
 else
 some (.inr x5)
def Ik (x0 : List Int) (y0 : List Int) : (Int × (List Int)) → St := fun s => [(11, A.val (Af s.1)), (10, A.val (Af ((↑x0.length : Int)))), (9, A.val ((slr false 1 Af) (x0))), (5, A.val ((slr true 1 Af) s.2)), (1, A.val ((slr false 1 Af) (y0)))]
def Mo (_x0 : List Int) (_y0 : List Int) : (List Int) → Tgt
 | s => ((Ex.exit 0), [5], [(5, A.val ((slr true 1 Af) s))])
theorem Vo {x0 : List Int} {y0 : List Int} (s : (Int × (List Int))) (o : (Int × (List Int)) ⊕ (List Int)) (h : C2 x0 y0 s = some o) : vc Try.prog Mq (Dl [11, 10, 9, 5, 1] (Ik x0 y0) (Mo x0 y0) o) (Ik x0 y0 s) := by
 obtain ⟨x11, x5⟩ := s
 unfold C2 at h
 try dsimp only at h
 conv => whnf
 refine Br.od h (fun p1 h => ?_) (fun p1 h => ?_)
 ·conv => whnf
  refine Len.map ?_
  conv => whnf
  refine Ask.o h fun p2 h => ?_
  conv => whnf
  refine Elem.o (by first | omega | (simp [Au] at *; omega)) ?_
  conv => whnf
  refine CallQ.o V.bool (by first | rfl | simp only [Aa, V.fz, fzL, V.up, upL, Ab, Ac, Ad, slr, List.cons_append, List.nil_append] | simp [Aa, V.fz, fzL, V.up, upL, Ab, Ac, Ad, slr]) h (fun r h => Agq h) (fun r3 h => ?_)
  conv => whnf
  refine Br.flip ?_
  conv => whnf
  refine Br.ob h (fun p4 h => ?_) (fun p4 h => ?_)
  ·conv => whnf
   refine Ask.o h fun p5 h => ?_
   conv => whnf
   cases h; exact ⟨rfl, rfl⟩
  conv => whnf
  refine BslQ.o Af ([nth x0 x11.toNat]) (by exact fun _ => ⟨rfl, rfl⟩) (by first | rfl | simp only [Aa, V.fz, fzL, V.up, upL, Ab, Ac, Ad, slr, List.cons_append, List.nil_append] | simp [Aa, V.fz, fzL, V.up, upL, Ab, Ac, Ad, slr]) ?_
  conv => whnf
  refine NoOwn.o (fun _ => rfl) ?_
  conv => whnf
  refine AppQ.o (m := 1) Af (by exact fun _ => ⟨rfl, rfl⟩) (x5) ([nth x0 x11.toNat]) (by first | rfl | simp only [Aa, V.fz, fzL, V.up, upL, Ab, Ac, Ad, slr, List.cons_append, List.nil_append] | simp [Aa, V.fz, fzL, V.up, upL, Ab, Ac, Ad, slr]) (by first | rfl | simp only [Aa, V.fz, fzL, V.up, upL, Ab, Ac, Ad, slr, List.cons_append, List.nil_append] | simp [Aa, V.fz, fzL, V.up, upL, Ab, Ac, Ad, slr]) h fun h => ?_
  conv => whnf
  refine Ask.o h fun p6 h => ?_
  conv => whnf
  cases h; exact ⟨rfl, rfl⟩
 conv => whnf
 cases h; exact ⟨rfl, rfl⟩
noncomputable def Fv (x0 : (List Int)) (y0 : (List Int)) : Option (List Int) :=
 (Ap (C2 x0 y0) ((0 : Int), A9 Int)).bind fun q7_5 =>
 some q7_5
theorem Zx {x0 : (List Int)} {y0 : (List Int)} {v : (List Int)} (h : Fv x0 y0 = some v) : Ret Try.prog Kt [(slr false 1 Af) x0, (slr false 1 Af) y0] ((slr true 1 Af) v) := by
 refine A7 Zz (Nat.le_of_ble_eq_true rfl) ?_
 unfold Fv at h
 conv => whnf
 refine BslQ.o Af (A9 Int) (by exact fun _ => ⟨rfl, rfl⟩) (by first | rfl | simp only [Aa, V.fz, fzL, V.up, upL, Ab, Ac, Ad, slr, List.cons_append, List.nil_append] | simp [Aa, V.fz, fzL, V.up, upL, Ab, Ac, Ad, slr]) ?_
 conv => whnf
 refine Len.map ?_
 conv => whnf
 refine LoopQ.o [11, 10, 9, 5, 1] (Ik x0 y0) (Mo x0 y0) h (fun s o h => Vo s o h) (by first | rfl | simp [restrict, look, Aa, V.fz, fzL, V.up, upL, Ab, Ac, Ad, slr]) (fun _ => rfl) ?_
 rintro q7_5 h
 try dsimp only at h
 conv => whnf
 cases h; exact (by first | rfl | simp only [Ag, Aa, V.fz, fzL, V.up, upL, Ab, Ac, Ad, slr] | simp [Ag, Aa, V.fz, fzL, V.up, upL, Ab, Ac, Ad, slr])
noncomputable def C1 (s0 : (List Int)) (t0 : (List Int)) : Option Int :=
 if (↑s0.length : Int) < (↑t0.length : Int) then
 some (-1 : Int)
 else
 if (↑s0.length : Int) > (↑t0.length : Int) then
 some (1 : Int)
 else
 (D6 (s0) (t0)).bind fun r3 =>
 some r3
theorem Vl {s0 : (List Int)} {t0 : (List Int)} {v : Int} (h : C1 s0 t0 = some v) : Ret Try.prog Fr [(slr false 1 Af) s0, (slr false 1 Af) t0] (Af v) := by
 refine A7 Vd (Nat.le_of_ble_eq_true rfl) ?_
 unfold C1 at h
 conv => whnf
 refine Len.map ?_
 conv => whnf
 refine Len.map ?_
 conv => whnf
 refine Br.od h (fun p1 h => ?_) (fun p1 h => ?_)
 ·conv => whnf
  cases h; exact (by first | rfl | simp only [Ag, Aa, V.fz, fzL, V.up, upL, Ab, Ac, Ad, slr] | simp [Ag, Aa, V.fz, fzL, V.up, upL, Ab, Ac, Ad, slr])
 conv => whnf
 refine Len.map ?_
 conv => whnf
 refine Len.map ?_
 conv => whnf
 refine Br.od h (fun p2 h => ?_) (fun p2 h => ?_)
 ·conv => whnf
  cases h; exact (by first | rfl | simp only [Ag, Aa, V.fz, fzL, V.up, upL, Ab, Ac, Ad, slr] | simp [Ag, Aa, V.fz, fzL, V.up, upL, Ab, Ac, Ad, slr])
 conv => whnf
 refine CallQ.o Af (by first | rfl | simp only [Aa, V.fz, fzL, V.up, upL, Ab, Ac, Ad, slr, List.cons_append, List.nil_append] | simp [Aa, V.fz, fzL, V.up, upL, Ab, Ac, Ad, slr]) h (fun r h => Vn h) (fun r3 h => ?_)
 conv => whnf
 cases h; exact (by first | rfl | simp only [Ag, Aa, V.fz, fzL, V.up, upL, Ab, Ac, Ad, slr] | simp [Ag, Aa, V.fz, fzL, V.up, upL, Ab, Ac, Ad, slr])
end Go.Proofs.Ytidaaijecmkndaa.Ax
