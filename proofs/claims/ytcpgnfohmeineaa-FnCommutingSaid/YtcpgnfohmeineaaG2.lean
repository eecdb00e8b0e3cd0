/-
 What the functions compute, as functions on plain data, and that the program does compute it; written by program.
-/
import Derived.Test.YtcpgnfohmeineaaCode
import Derived.Test.YtcpgnfohmeineaaG1
namespace Go.Proofs.Ytcpgnfohmeineaa.Ax
open Go
set_option maxRecDepth 100000
set_option maxHeartbeats 4000000
noncomputable def Cw (s0 : List Int) (t0 : List Int) : Int → Option (Int ⊕ (Int ⊕ Unit)) := fun x5 =>
 ((if x5 < (↑s0.length : Int) then
 if x5 < (↑t0.length : Int) then
 some (.inl ())
 else
 some (.inr ())
 else
 some (.inr ()) : Option (Unit ⊕ Unit))).bind fun t => match t with
 | (.inl _) => (ask ((0 : Int) ≤ x5 ∧ x5 < (↑s0.length : Int)) <|
 ask ((0 : Int) ≤ x5 ∧ x5 < (↑t0.length : Int)) <|
 if nth s0 x5.toNat ≠ nth t0 x5.toNat then
 ask ((0 : Int) ≤ x5 ∧ x5 < (↑s0.length : Int)) <|
 ask ((0 : Int) ≤ x5 ∧ x5 < (↑t0.length : Int)) <|
 if nth s0 x5.toNat < nth t0 x5.toNat then
 some (.inr (.inl (-1 : Int)))
 else
 some (.inr (.inl (1 : Int)))
 else
 ask (InI (x5 + (1 : Int))) <|
 some (.inl (x5 + (1 : Int))))
 | (.inr _) => (some (.inr (.inr ())))
def Fa (s0 : List Int) (t0 : List Int) : Int → St := fun s => [(5, A.val (Af s)), (0, A.val ((slr false 1 Af) (s0))), (1, A.val ((slr false 1 Af) (t0)))]
def Ic (s0 : List Int) (t0 : List Int) : (Int ⊕ Unit) → Tgt
 | (.inl s) => (Ex.ret, [4], [(4, A.val (Af s))])
 | (.inr _s) => ((Ex.exit 0), [0, 1], [(0, A.val ((slr false 1 Af) (s0))), (1, A.val ((slr false 1 Af) (t0)))])
theorem Pw {s0 : List Int} {t0 : List Int} (x5 : Int) (o : Int ⊕ (Int ⊕ Unit)) (h : Cw s0 t0 x5 = some o) : vc Try.prog H7 (Dx [5, 0, 1] (Fa s0 t0) (Ic s0 t0) o) (Fa s0 t0 x5) := by
 unfold Cw at h
 try dsimp only at h
 conv => whnf
 refine CutQ.o (fun t : (Unit ⊕ Unit) => match t with | (.inl s) => (Ex.normal, [5, 0, 1], [(5, A.val (Af (x5))), (0, A.val ((slr false 1 Af) (s0))), (1, A.val ((slr false 1 Af) (t0)))]) | (.inr s) => ((Ex.exit 0), [0, 1], [(0, A.val ((slr false 1 Af) (s0))), (1, A.val ((slr false 1 Af) (t0)))])) h ?_ ?_
 ·intro t h
  conv => whnf
  refine Len.map ?_
  conv => whnf
  refine Br.od h (fun p1 h => ?_) (fun p1 h => ?_)
  ·conv => whnf
   refine Br.yes ?_
   conv => whnf
   refine Br.yes ?_
   conv => whnf
   refine Len.map ?_
   conv => whnf
   refine Br.yes ?_
   conv => whnf
   refine Br.yes ?_
   conv => whnf
   refine Br.od h (fun p2 h => ?_) (fun p2 h => ?_)
   ·conv => whnf
    cases h; exact ⟨rfl, rfl⟩
   conv => whnf
   cases h; exact ⟨rfl, rfl⟩
  conv => whnf
  refine Br.no ?_
  conv => whnf
  refine Br.no ?_
  conv => whnf
  refine Br.no ?_
  conv => whnf
  refine Br.no ?_
  conv => whnf
  refine Br.no ?_
  conv => whnf
  cases h; exact ⟨rfl, rfl⟩
 rintro (⟨⟩ | ⟨⟩) h
 ·try dsimp only at h
  conv => whnf
  refine Len.map ?_
  conv => whnf
  refine Ask.o h fun p4 h => ?_
  conv => whnf
  refine Elem.o (by first | omega | (simp [A4] at *; omega)) ?_
  conv => whnf
  refine Len.map ?_
  conv => whnf
  refine Ask.o h fun p5 h => ?_
  conv => whnf
  refine Elem.o (by first | omega | (simp [A4] at *; omega)) ?_
  conv => whnf
  refine Br.on h (fun p6 h => ?_) (fun p6 h => ?_)
  ·conv => whnf
   refine Len.map ?_
   conv => whnf
   refine Ask.o h fun p7 h => ?_
   conv => whnf
   refine Elem.o (by first | omega | (simp [A4] at *; omega)) ?_
   conv => whnf
   refine Len.map ?_
   conv => whnf
   refine Ask.o h fun p8 h => ?_
   conv => whnf
   refine Elem.o (by first | omega | (simp [A4] at *; omega)) ?_
   conv => whnf
   refine Br.od h (fun p9 h => ?_) (fun p9 h => ?_)
   ·conv => whnf
    cases h; exact ⟨rfl, rfl⟩
   conv => whnf
   cases h; exact ⟨rfl, rfl⟩
  conv => whnf
  refine Ask.o h fun p10 h => ?_
  conv => whnf
  cases h; exact ⟨rfl, rfl⟩
 try dsimp only at h
 conv => whnf
 cases h; exact ⟨rfl, rfl⟩
noncomputable def Dy (s0 : (List Int)) (t0 : (List Int)) : Option Int :=
 (Ap (Cw s0 t0) (0 : Int)).bind fun t => match t with
 | (.inl q11_4) => (some q11_4)
 | (.inr _) => (if (↑s0.length : Int) < (↑t0.length : Int) then
 some (-1 : Int)
 else
 if (↑s0.length : Int) > (↑t0.length : Int) then
 some (1 : Int)
 else
 some (0 : Int))
theorem S3 {s0 : (List Int)} {t0 : (List Int)} {v : Int} (h : Dy s0 t0 = some v) : Ret Try.prog G5 [(slr false 1 Af) s0, (slr false 1 Af) t0] (Af v) := by
 refine A5 Sr (Nat.le_of_ble_eq_true rfl) ?_
 unfold Dy at h
 conv => whnf
 refine LoopQ.o [5, 0, 1] (Fa s0 t0) (Ic s0 t0) h (fun s o h => Pw s o h) (by first | rfl | simp [restrict, look, Aa, V.fz, fzL, V.up, upL, Ab, Ac, Ad, slr]) (by rintro (_ | _) <;> rfl) ?_
 rintro (q11_4 | ⟨⟩) h
 ·try dsimp only at h
  conv => whnf
  cases h; exact (by first | rfl | simp only [Ah, Aa, V.fz, fzL, V.up, upL, Ab, Ac, Ad, slr] | simp [Ah, Aa, V.fz, fzL, V.up, upL, Ab, Ac, Ad, slr])
 try dsimp only at h
 conv => whnf
 refine Len.map ?_
 conv => whnf
 refine Len.map ?_
 conv => whnf
 refine Br.od h (fun p12 h => ?_) (fun p12 h => ?_)
 ·conv => whnf
  cases h; exact (by first | rfl | simp only [Ah, Aa, V.fz, fzL, V.up, upL, Ab, Ac, Ad, slr] | simp [Ah, Aa, V.fz, fzL, V.up, upL, Ab, Ac, Ad, slr])
 conv => whnf
 refine Len.map ?_
 conv => whnf
 refine Len.map ?_
 conv => whnf
 refine Br.od h (fun p13 h => ?_) (fun p13 h => ?_)
 ·conv => whnf
  cases h; exact (by first | rfl | simp only [Ah, Aa, V.fz, fzL, V.up, upL, Ab, Ac, Ad, slr] | simp [Ah, Aa, V.fz, fzL, V.up, upL, Ab, Ac, Ad, slr])
 conv => whnf
 cases h; exact (by first | rfl | simp only [Ah, Aa, V.fz, fzL, V.up, upL, Ab, Ac, Ad, slr] | simp [Ah, Aa, V.fz, fzL, V.up, upL, Ab, Ac, Ad, slr])
noncomputable def D8 (s0 : ByteArray) : (Int × SOp) → Option ((Int × SOp) ⊕ SOp) := fun (x4, x3) =>
 if x4 < (↑s0.size : Int) then
 ask ((0 : Int) ≤ x4 ∧ x4 < (↑s0.size : Int)) <|
 ask ((x3.Table).length + ([IntKind.i64.wrap (IntKind.u8.wrap (X2 s0 x4 - (48 : Int)))]).length ≤ LIM) <|
 ask (InI (x4 + (1 : Int))) <|
 some (.inl (x4 + (1 : Int), { Arity := x3.Arity, Table := x3.Table ++ [IntKind.i64.wrap (IntKind.u8.wrap (X2 s0 x4 - (48 : Int)))] }))
 else
 some (.inr x3)
def Hr (s0 : ByteArray) : (Int × SOp) → St := fun s => [(4, A.val (Af s.1)), (3, A.val ((rP true (Aj true)) s.2)), (2, A.val ((rP true (Aj true)) ({ Arity := (0 : Int), Table := Bl Int }))), (0, A.val (V.str (s0)))]
def Mu (_s0 : ByteArray) : SOp → Tgt
 | s => ((Ex.exit 0), [3, 2], [(3, A.val ((rP true (Aj true)) s)), (2, A.val ((rP true (Aj true)) ({ Arity := (0 : Int), Table := Bl Int })))])
theorem Ty {s0 : ByteArray} (s : (Int × SOp)) (o : (Int × SOp) ⊕ SOp) (h : D8 s0 s = some o) : vc Try.prog Mp (Dx [4, 3, 2, 0] (Hr s0) (Mu s0) o) (Hr s0 s) := by
 obtain ⟨x4, x3⟩ := s
 unfold D8 at h
 try dsimp only at h
 conv => whnf
 refine Br.od h (fun p1 h => ?_) (fun p1 h => ?_)
 ·conv => whnf
  refine Cells.lit rfl rfl ?_
  conv => whnf
  refine Ask.o h fun p2 h => ?_
  conv => whnf
  refine BslQ.o Af ([IntKind.i64.wrap (IntKind.u8.wrap (X2 s0 x4 - (48 : Int)))]) (by exact fun _ => ⟨rfl, rfl⟩) (by first | rfl | simp only [Aa, V.fz, fzL, V.up, upL, Ab, Ac, Ad, slr, List.cons_append, List.nil_append] | simp [Aa, V.fz, fzL, V.up, upL, Ab, Ac, Ad, slr]) ?_
  conv => whnf
  refine NoOwn.o (fun _ => rfl) ?_
  conv => whnf
  refine Kid.lit rfl rfl ?_
  conv => whnf
  refine Kid.lit rfl rfl ?_
  conv => whnf
  refine SetKids.lit rfl ?_
  conv => whnf
  refine AppQ.o (m := 1) Af (by exact fun _ => ⟨rfl, rfl⟩) (x3.Table) ([IntKind.i64.wrap (IntKind.u8.wrap (X2 s0 x4 - (48 : Int)))]) (by first | rfl | simp only [Aa, V.fz, fzL, V.up, upL, Ab, Ac, Ad, slr, List.cons_append, List.nil_append] | simp [Aa, V.fz, fzL, V.up, upL, Ab, Ac, Ad, slr]) (by first | rfl | simp only [Aa, V.fz, fzL, V.up, upL, Ab, Ac, Ad, slr, List.cons_append, List.nil_append] | simp [Aa, V.fz, fzL, V.up, upL, Ab, Ac, Ad, slr]) h fun h => ?_
  conv => whnf
  refine SetKids.lit rfl ?_
  conv => whnf
  refine Ask.o h fun p3 h => ?_
  conv => whnf
  cases h; exact ⟨rfl, rfl⟩
 conv => whnf
 cases h; exact ⟨rfl, rfl⟩
noncomputable def A1 (s0 : ByteArray) : Option SOp :=
 (Ap (D8 s0) ((0 : Int), { Arity := (2 : Int), Table := Bl Int })).bind fun q4_3 =>
 some q4_3
theorem Bb {s0 : ByteArray} {v : SOp} (h : A1 s0 = some v) : Ret Try.prog A8 [V.str s0] ((Aj true) v) := by
 refine A5 Yl (Nat.le_of_ble_eq_true rfl) ?_
 unfold A1 at h
 conv => whnf
 refine SetKids.lit rfl ?_
 conv => whnf
 refine LoopQ.o [4, 3, 2, 0] (Hr s0) (Mu s0) h (fun s o h => Ty s o h) (by first | rfl | simp [restrict, look, Aa, V.fz, fzL, V.up, upL, Ab, Ac, Ad, slr]) (fun _ => rfl) ?_
 rintro q4_3 h
 try dsimp only at h
 conv => whnf
 refine Cells.lit rfl rfl ?_
 conv => whnf
 refine SetKids.lit rfl ?_
 conv => whnf
 cases h; exact (by first | rfl | simp only [Ah, Aa, V.fz, fzL, V.up, upL, Ab, Ac, Ad, slr] | simp [Ah, Aa, V.fz, fzL, V.up, upL, Ab, Ac, Ad, slr])
noncomputable def D7 (n0 : Int) : (Int × SOp) → Option ((Int × SOp) ⊕ SOp) := fun (x4, x3) =>
 ask (InI (n0 * n0)) <|
 ask (InI (n0 * n0 * n0)) <|
 if x4 < n0 * n0 * n0 then
 ask (InI (n0 * n0)) <|
 ask (n0 * n0 ≠ (0 : Int) ∧ InI (x4.tdiv (n0 * n0))) <|
 ask (InI (x4.tdiv (n0 * n0) + n0)) <|
 ask (n0 ≠ (0 : Int) ∧ InI (x4.tdiv n0)) <|
 ask (n0 ≠ (0 : Int)) <|
 ask (InI (x4.tdiv (n0 * n0) + n0 - (x4.tdiv n0).tmod n0)) <|
 ask (n0 ≠ (0 : Int)) <|
 ask (InI (x4.tdiv (n0 * n0) + n0 - (x4.tdiv n0).tmod n0 + x4.tmod n0)) <|
 ask (n0 ≠ (0 : Int)) <|
 ask ((x3.Table).length + ([(x4.tdiv (n0 * n0) + n0 - (x4.tdiv n0).tmod n0 + x4.tmod n0).tmod n0]).length ≤ LIM) <|
 ask (InI (x4 + (1 : Int))) <|
 some (.inl (x4 + (1 : Int), { Arity := x3.Arity, Table := x3.Table ++ [(x4.tdiv (n0 * n0) + n0 - (x4.tdiv n0).tmod n0 + x4.tmod n0).tmod n0] }))
 else
 some (.inr x3)
def Hm (n0 : Int) : (Int × SOp) → St := fun s => [(4, A.val (Af s.1)), (3, A.val ((rP true (Aj true)) s.2)), (2, A.val ((rP true (Aj true)) ({ Arity := (0 : Int), Table := Bl Int }))), (0, A.val (Af (n0)))]
def My (_n0 : Int) : SOp → Tgt
 | s => ((Ex.exit 0), [3, 2], [(3, A.val ((rP true (Aj true)) s)), (2, A.val ((rP true (Aj true)) ({ Arity := (0 : Int), Table := Bl Int })))])
theorem Ts {n0 : Int} (s : (Int × SOp)) (o : (Int × SOp) ⊕ SOp) (h : D7 n0 s = some o) : vc Try.prog Mz (Dx [4, 3, 2, 0] (Hm n0) (My n0) o) (Hm n0 s) := by
 obtain ⟨x4, x3⟩ := s
 unfold D7 at h
 try dsimp only at h
 conv => whnf
 refine Ask.o h fun p1 h => ?_
 conv => whnf
 refine Ask.o h fun p2 h => ?_
 conv => whnf
 refine Br.od h (fun p3 h => ?_) (fun p3 h => ?_)
 ·conv => whnf
  refine Cells.lit rfl rfl ?_
  conv => whnf
  refine Ask.o h fun p4 h => ?_
  conv => whnf
  refine Ask.o h fun p5 h => ?_
  conv => whnf
  refine Ask.o h fun p6 h => ?_
  conv => whnf
  refine Ask.o h fun p7 h => ?_
  conv => whnf
  refine Ask.o h fun p8 h => ?_
  conv => whnf
  refine Ask.o h fun p9 h => ?_
  conv => whnf
  refine Ask.o h fun p10 h => ?_
  conv => whnf
  refine Ask.o h fun p11 h => ?_
  conv => whnf
  refine Ask.o h fun p12 h => ?_
  conv => whnf
  refine BslQ.o Af ([(x4.tdiv (n0 * n0) + n0 - (x4.tdiv n0).tmod n0 + x4.tmod n0).tmod n0]) (by exact fun _ => ⟨rfl, rfl⟩) (by first | rfl | simp only [Aa, V.fz, fzL, V.up, upL, Ab, Ac, Ad, slr, List.cons_append, List.nil_append] | simp [Aa, V.fz, fzL, V.up, upL, Ab, Ac, Ad, slr]) ?_
  conv => whnf
  refine NoOwn.o (fun _ => rfl) ?_
  conv => whnf
  refine Kid.lit rfl rfl ?_
  conv => whnf
  refine Kid.lit rfl rfl ?_
  conv => whnf
  refine SetKids.lit rfl ?_
  conv => whnf
  refine AppQ.o (m := 1) Af (by exact fun _ => ⟨rfl, rfl⟩) (x3.Table) ([(x4.tdiv (n0 * n0) + n0 - (x4.tdiv n0).tmod n0 + x4.tmod n0).tmod n0]) (by first | rfl | simp only [Aa, V.fz, fzL, V.up, upL, Ab, Ac, Ad, slr, List.cons_append, List.nil_append] | simp [Aa, V.fz, fzL, V.up, upL, Ab, Ac, Ad, slr]) (by first | rfl | simp only [Aa, V.fz, fzL, V.up, upL, Ab, Ac, Ad, slr, List.cons_append, List.nil_append] | simp [Aa, V.fz, fzL, V.up, upL, Ab, Ac, Ad, slr]) h fun h => ?_
  conv => whnf
  refine SetKids.lit rfl ?_
  conv => whnf
  refine Ask.o h fun p13 h => ?_
  conv => whnf
  cases h; exact ⟨rfl, rfl⟩
 conv => whnf
 cases h; exact ⟨rfl, rfl⟩
noncomputable def Eh (n0 : Int) : Option SOp :=
 (Ap (D7 n0) ((0 : Int), { Arity := (3 : Int), Table := Bl Int })).bind fun q14_3 =>
 some q14_3
theorem Qj {n0 : Int} {v : SOp} (h : Eh n0 = some v) : Ret Try.prog Hk [Af n0] ((Aj true) v) := by
 refine A5 Yn (Nat.le_of_ble_eq_true rfl) ?_
 unfold Eh at h
 conv => whnf
 refine SetKids.lit rfl ?_
 conv => whnf
 refine LoopQ.o [4, 3, 2, 0] (Hm n0) (My n0) h (fun s o h => Ts s o h) (by first | rfl | simp [restrict, look, Aa, V.fz, fzL, V.up, upL, Ab, Ac, Ad, slr]) (fun _ => rfl) ?_
 rintro q14_3 h
 try dsimp only at h
 conv => whnf
 refine Cells.lit rfl rfl ?_
 conv => whnf
 refine SetKids.lit rfl ?_
 conv => whnf
 cases h; exact (by first | rfl | simp only [Ah, Aa, V.fz, fzL, V.up, upL, Ab, Ac, Ad, slr] | simp [Ah, Aa, V.fz, fzL, V.up, upL, Ab, Ac, Ad, slr])
noncomputable def Bp (arity0 : Int) (a0 : SAlgebra) (b0 : SAlgebra) (f0 : List Int) : (Int × Int × Int × Int) → Option ((Int × Int × Int × Int) ⊕ Int) := fun (x13, x12, x11, x0) =>
 if x13 < arity0 then
 ask (a0.Size ≠ (0 : Int)) <|
 ask ((0 : Int) ≤ x0.tmod a0.Size ∧ x0.tmod a0.Size < (↑f0.length : Int)) <|
 ask (InI (nth f0 (x0.tmod a0.Size).toNat * x12)) <|
 ask (InI (x11 + nth f0 (x0.tmod a0.Size).toNat * x12)) <|
 ask (a0.Size ≠ (0 : Int) ∧ InI (x0.tdiv a0.Size)) <|
 ask (InI (x12 * b0.Size)) <|
 ask (InI (x13 + (1 : Int))) <|
 some (.inl (x13 + (1 : Int), x12 * b0.Size, x11 + nth f0 (x0.tmod a0.Size).toNat * x12, x0.tdiv a0.Size))
 else
 some (.inr x11)
def Gi (arity0 : Int) (a0 : SAlgebra) (b0 : SAlgebra) (f0 : List Int) : (Int × Int × Int × Int) → St := fun s => [(13, A.val (Af s.1)), (12, A.val (Af s.2.1)), (11, A.val (Af s.2.2.1)), (8, A.val ((rP true (Ai false)) (b0))), (7, A.val ((rP true (Ai false)) (a0))), (0, A.val (Af s.2.2.2)), (1, A.val (Af (arity0))), (4, A.val ((slr false 1 Af) (f0)))]
def Ki (_arity0 : Int) (_a0 : SAlgebra) (_b0 : SAlgebra) (_f0 : List Int) : Int → Tgt
 | s => ((Ex.exit 0), [11], [(11, A.val (Af s))])
theorem Q5 {arity0 : Int} {a0 : SAlgebra} {b0 : SAlgebra} {f0 : List Int} (s : (Int × Int × Int × Int)) (o : (Int × Int × Int × Int) ⊕ Int) (h : Bp arity0 a0 b0 f0 s = some o) : vc Try.prog Km (Dx [13, 12, 11, 8, 7, 0, 1, 4] (Gi arity0 a0 b0 f0) (Ki arity0 a0 b0 f0) o) (Gi arity0 a0 b0 f0 s) := by
 obtain ⟨x13, x12, x11, x0⟩ := s
 unfold Bp at h
 try dsimp only at h
 conv => whnf
 refine Br.od h (fun p1 h => ?_) (fun p1 h => ?_)
 ·conv => whnf
  refine Cells.lit rfl rfl ?_
  conv => whnf
  refine Ask.o h fun p2 h => ?_
  conv => whnf
  refine Len.map ?_
  conv => whnf
  refine Ask.o h fun p3 h => ?_
  conv => whnf
  refine Elem.o (by first | omega | (simp [A4] at *; omega)) ?_
  conv => whnf
  refine Ask.o h fun p4 h => ?_
  conv => whnf
  refine Ask.o h fun p5 h => ?_
  conv => whnf
  refine Cells.lit rfl rfl ?_
  conv => whnf
  refine Ask.o h fun p6 h => ?_
  conv => whnf
  refine Cells.lit rfl rfl ?_
  conv => whnf
  refine Ask.o h fun p7 h => ?_
  conv => whnf
  refine Ask.o h fun p8 h => ?_
  conv => whnf
  cases h; exact ⟨rfl, rfl⟩
 conv => whnf
 cases h; exact ⟨rfl, rfl⟩
noncomputable def Ej (i0 : Int) (arity0 : Int) (a0 : SAlgebra) (b0 : SAlgebra) (f0 : (List Int)) : Option Int :=
 (Ap (Bp arity0 a0 b0 f0) ((0 : Int), (1 : Int), (0 : Int), i0)).bind fun q9_11 =>
 some q9_11
theorem Vc {i0 : Int} {arity0 : Int} {a0 : SAlgebra} {b0 : SAlgebra} {f0 : (List Int)} {v : Int} (h : Ej i0 arity0 a0 b0 f0 = some v) : Ret Try.prog I0 [Af i0, Af arity0, (Ai false) a0, (Ai false) b0, (slr false 1 Af) f0] (Af v) := by
 refine A5 Vt (Nat.le_of_ble_eq_true rfl) ?_
 unfold Ej at h
 conv => whnf
 refine LoopQ.o [13, 12, 11, 8, 7, 0, 1, 4] (Gi arity0 a0 b0 f0) (Ki arity0 a0 b0 f0) h (fun s o h => Q5 s o h) (by first | rfl | simp [restrict, look, Aa, V.fz, fzL, V.up, upL, Ab, Ac, Ad, slr]) (fun _ => rfl) ?_
 rintro q9_11 h
 try dsimp only at h
 conv => whnf
 cases h; exact (by first | rfl | simp only [Ah, Aa, V.fz, fzL, V.up, upL, Ab, Ac, Ad, slr] | simp [Ah, Aa, V.fz, fzL, V.up, upL, Ab, Ac, Ad, slr])
noncomputable def De (a0 : SAlgebra) : (Int × (List Int)) → Option ((Int × (List Int)) ⊕ (List Int)) := fun (x4, x3) =>
 if x4 < (↑a0.Ops.length : Int) then
 ask ((0 : Int) ≤ x4 ∧ x4 < (↑a0.Ops.length : Int)) <|
 ask ((x3).length + ([(nth a0.Ops x4.toNat).Arity]).length ≤ LIM) <|
 ask (InI (x4 + (1 : Int))) <|
 some (.inl (x4 + (1 : Int), x3 ++ [(nth a0.Ops x4.toNat).Arity]))
 else
 some (.inr x3)
def Jr (a0 : SAlgebra) : (Int × (List Int)) → St := fun s => [(4, A.val (Af s.1)), (3, A.val ((slr true 1 Af) s.2)), (1, A.val ((rP true (Ai false)) (a0)))]
def Ph (_a0 : SAlgebra) : (List Int) → Tgt
 | s => ((Ex.exit 0), [3], [(3, A.val ((slr true 1 Af) s))])
theorem Ws {a0 : SAlgebra} (s : (Int × (List Int))) (o : (Int × (List Int)) ⊕ (List Int)) (h : De a0 s = some o) : vc Try.prog Pk (Dx [4, 3, 1] (Jr a0) (Ph a0) o) (Jr a0 s) := by
 obtain ⟨x4, x3⟩ := s
 unfold De at h
 try dsimp only at h
 conv => whnf
 refine Cells.lit rfl rfl ?_
 conv => whnf
 refine Len.map ?_
 conv => whnf
 refine Br.od h (fun p1 h => ?_) (fun p1 h => ?_)
 ·conv => whnf
  refine Cells.lit rfl rfl ?_
  conv => whnf
  refine Len.map ?_
  conv => whnf
  refine Ask.o h fun p2 h => ?_
  conv => whnf
  refine Elem.o (by first | omega | (simp [A4] at *; omega)) ?_
  conv => whnf
  refine BslQ.o Af ([(nth a0.Ops x4.toNat).Arity]) (by exact fun _ => ⟨rfl, rfl⟩) (by first | rfl | simp only [Aa, V.fz, fzL, V.up, upL, Ab, Ac, Ad, slr, List.cons_append, List.nil_append] | simp [Aa, V.fz, fzL, V.up, upL, Ab, Ac, Ad, slr]) ?_
  conv => whnf
  refine NoOwn.o (fun _ => rfl) ?_
  conv => whnf
  refine AppQ.o (m := 1) Af (by exact fun _ => ⟨rfl, rfl⟩) (x3) ([(nth a0.Ops x4.toNat).Arity]) (by first | rfl | simp only [Aa, V.fz, fzL, V.up, upL, Ab, Ac, Ad, slr, List.cons_append, List.nil_append] | simp [Aa, V.fz, fzL, V.up, upL, Ab, Ac, Ad, slr]) (by first | rfl | simp only [Aa, V.fz, fzL, V.up, upL, Ab, Ac, Ad, slr, List.cons_append, List.nil_append] | simp [Aa, V.fz, fzL, V.up, upL, Ab, Ac, Ad, slr]) h fun h => ?_
  conv => whnf
  refine Ask.o h fun p3 h => ?_
  conv => whnf
  cases h; exact ⟨rfl, rfl⟩
 conv => whnf
 cases h; exact ⟨rfl, rfl⟩
noncomputable def Fl (a0 : SAlgebra) : Option (List Int) :=
 (Ap (De a0) ((0 : Int), Bl Int)).bind fun q4_3 =>
 some q4_3
theorem S5 {a0 : SAlgebra} {v : (List Int)} (h : Fl a0 = some v) : Ret Try.prog Jx [(Ai false) a0] ((slr true 1 Af) v) := by
 refine A5 Adb (Nat.le_of_ble_eq_true rfl) ?_
 unfold Fl at h
 conv => whnf
 refine BslQ.o Af (Bl Int) (by exact fun _ => ⟨rfl, rfl⟩) (by first | rfl | simp only [Aa, V.fz, fzL, V.up, upL, Ab, Ac, Ad, slr, List.cons_append, List.nil_append] | simp [Aa, V.fz, fzL, V.up, upL, Ab, Ac, Ad, slr]) ?_
 conv => whnf
 refine LoopQ.o [4, 3, 1] (Jr a0) (Ph a0) h (fun s o h => Ws s o h) (by first | rfl | simp [restrict, look, Aa, V.fz, fzL, V.up, upL, Ab, Ac, Ad, slr]) (fun _ => rfl) ?_
 rintro q4_3 h
 try dsimp only at h
 conv => whnf
 cases h; exact (by first | rfl | simp only [Ah, Aa, V.fz, fzL, V.up, upL, Ab, Ac, Ad, slr] | simp [Ah, Aa, V.fz, fzL, V.up, upL, Ab, Ac, Ad, slr])
noncomputable def Ct (a0 : SAlgebra) (_op0 : Int) (args0 : List Int) : (Int × Int) → Option ((Int × Int) ⊕ Int) := fun (x8, x7) =>
 if x8 < (↑args0.length : Int) then
 ask (InI (x7 * a0.Size)) <|
 ask ((0 : Int) ≤ x8 ∧ x8 < (↑args0.length : Int)) <|
 ask (InI (x7 * a0.Size + nth args0 x8.toNat)) <|
 ask (InI (x8 + (1 : Int))) <|
 some (.inl (x8 + (1 : Int), x7 * a0.Size + nth args0 x8.toNat))
 else
 some (.inr x7)
def H9 (a0 : SAlgebra) (op0 : Int) (args0 : List Int) : (Int × Int) → St := fun s => [(8, A.val (Af s.1)), (7, A.val (Af s.2)), (3, A.val ((rP true (Ai false)) (a0))), (1, A.val (Af (op0))), (2, A.val ((slr false 1 Af) (args0)))]
def Nf (a0 : SAlgebra) (op0 : Int) (_args0 : List Int) : Int → Tgt
 | s => ((Ex.exit 0), [7, 3, 1], [(7, A.val (Af s)), (3, A.val ((rP true (Ai false)) (a0))), (1, A.val (Af (op0)))])
theorem Uh {a0 : SAlgebra} {op0 : Int} {args0 : List Int} (s : (Int × Int)) (o : (Int × Int) ⊕ Int) (h : Ct a0 op0 args0 s = some o) : vc Try.prog Np (Dx [8, 7, 3, 1, 2] (H9 a0 op0 args0) (Nf a0 op0 args0) o) (H9 a0 op0 args0 s) := by
 obtain ⟨x8, x7⟩ := s
 unfold Ct at h
 try dsimp only at h
 conv => whnf
 refine Len.map ?_
 conv => whnf
 refine Br.od h (fun p1 h => ?_) (fun p1 h => ?_)
 ·conv => whnf
  refine Cells.lit rfl rfl ?_
  conv => whnf
  refine Ask.o h fun p2 h => ?_
  conv => whnf
  refine Len.map ?_
  conv => whnf
  refine Ask.o h fun p3 h => ?_
  conv => whnf
  refine Elem.o (by first | omega | (simp [A4] at *; omega)) ?_
  conv => whnf
  refine Ask.o h fun p4 h => ?_
  conv => whnf
  refine Ask.o h fun p5 h => ?_
  conv => whnf
  cases h; exact ⟨rfl, rfl⟩
 conv => whnf
 cases h; exact ⟨rfl, rfl⟩
noncomputable def Ge (a0 : SAlgebra) (op0 : Int) (args0 : (List Int)) : Option Int :=
 (Ap (Ct a0 op0 args0) ((0 : Int), (0 : Int))).bind fun q6_7 =>
 ask ((0 : Int) ≤ op0 ∧ op0 < (↑a0.Ops.length : Int)) <|
 ask ((0 : Int) ≤ q6_7 ∧ q6_7 < (↑(nth a0.Ops op0.toNat).Table.length : Int)) <|
 some (nth (nth a0.Ops op0.toNat).Table q6_7.toNat)
theorem Abi {a0 : SAlgebra} {op0 : Int} {args0 : (List Int)} {v : Int} (h : Ge a0 op0 args0 = some v) : Ret Try.prog Mg [(Ai false) a0, Af op0, (slr false 1 Af) args0] (Af v) := by
 refine A5 Aa1 (Nat.le_of_ble_eq_true rfl) ?_
 unfold Ge at h
 conv => whnf
 refine LoopQ.o [8, 7, 3, 1, 2] (H9 a0 op0 args0) (Nf a0 op0 args0) h (fun s o h => Uh s o h) (by first | rfl | simp [restrict, look, Aa, V.fz, fzL, V.up, upL, Ab, Ac, Ad, slr]) (fun _ => rfl) ?_
 rintro q6_7 h
 try dsimp only at h
 conv => whnf
 refine Cells.lit rfl rfl ?_
 conv => whnf
 refine Len.map ?_
 conv => whnf
 refine Ask.o h fun p7 h => ?_
 conv => whnf
 refine Elem.o (by first | omega | (simp [A4] at *; omega)) ?_
 conv => whnf
 refine Len.map ?_
 conv => whnf
 refine Ask.o h fun p8 h => ?_
 conv => whnf
 refine Elem.o (by first | omega | (simp [A4] at *; omega)) ?_
 conv => whnf
 cases h; exact (by first | rfl | simp only [Ah, Aa, V.fz, fzL, V.up, upL, Ab, Ac, Ad, slr] | simp [Ah, Aa, V.fz, fzL, V.up, upL, Ab, Ac, Ad, slr])
noncomputable def Ca (f0 : List Int) (args0 : List Int) : (Int × (List Int)) → Option ((Int × (List Int)) ⊕ (List Int)) := fun (x6, x5) =>
 if x6 < (↑args0.length : Int) then
 ask ((0 : Int) ≤ x6 ∧ x6 < (↑args0.length : Int)) <|
 ask ((0 : Int) ≤ nth args0 x6.toNat ∧ nth args0 x6.toNat < (↑f0.length : Int)) <|
 ask ((x5).length + ([nth f0 (nth args0 x6.toNat).toNat]).length ≤ LIM) <|
 ask (InI (x6 + (1 : Int))) <|
 some (.inl (x6 + (1 : Int), x5 ++ [nth f0 (nth args0 x6.toNat).toNat]))
 else
 some (.inr x5)
def Hn (f0 : List Int) (args0 : List Int) : (Int × (List Int)) → St := fun s => [(6, A.val (Af s.1)), (5, A.val ((slr true 1 Af) s.2)), (0, A.val ((slr false 1 Af) (f0))), (1, A.val ((slr false 1 Af) (args0)))]
def Mk (_f0 : List Int) (_args0 : List Int) : (List Int) → Tgt
 | s => ((Ex.exit 0), [5], [(5, A.val ((slr true 1 Af) s))])
theorem Tm {f0 : List Int} {args0 : List Int} (s : (Int × (List Int))) (o : (Int × (List Int)) ⊕ (List Int)) (h : Ca f0 args0 s = some o) : vc Try.prog Mc (Dx [6, 5, 0, 1] (Hn f0 args0) (Mk f0 args0) o) (Hn f0 args0 s) := by
 obtain ⟨x6, x5⟩ := s
 unfold Ca at h
 try dsimp only at h
 conv => whnf
 refine Len.map ?_
 conv => whnf
 refine Br.od h (fun p1 h => ?_) (fun p1 h => ?_)
 ·conv => whnf
  refine Len.map ?_
  conv => whnf
  refine Ask.o h fun p2 h => ?_
  conv => whnf
  refine Elem.o (by first | omega | (simp [A4] at *; omega)) ?_
  conv => whnf
  refine Len.map ?_
  conv => whnf
  refine Ask.o h fun p3 h => ?_
  conv => whnf
  refine Elem.o (by first | omega | (simp [A4] at *; omega)) ?_
  conv => whnf
  refine BslQ.o Af ([nth f0 (nth args0 x6.toNat).toNat]) (by exact fun _ => ⟨rfl, rfl⟩) (by first | rfl | simp only [Aa, V.fz, fzL, V.up, upL, Ab, Ac, Ad, slr, List.cons_append, List.nil_append] | simp [Aa, V.fz, fzL, V.up, upL, Ab, Ac, Ad, slr]) ?_
  conv => whnf
  refine NoOwn.o (fun _ => rfl) ?_
  conv => whnf
  refine AppQ.o (m := 1) Af (by exact fun _ => ⟨rfl, rfl⟩) (x5) ([nth f0 (nth args0 x6.toNat).toNat]) (by first | rfl | simp only [Aa, V.fz, fzL, V.up, upL, Ab, Ac, Ad, slr, List.cons_append, List.nil_append] | simp [Aa, V.fz, fzL, V.up, upL, Ab, Ac, Ad, slr]) (by first | rfl | simp only [Aa, V.fz, fzL, V.up, upL, Ab, Ac, Ad, slr, List.cons_append, List.nil_append] | simp [Aa, V.fz, fzL, V.up, upL, Ab, Ac, Ad, slr]) h fun h => ?_
  conv => whnf
  refine Ask.o h fun p4 h => ?_
  conv => whnf
  cases h; exact ⟨rfl, rfl⟩
 conv => whnf
 cases h; exact ⟨rfl, rfl⟩
noncomputable def Fh (f0 : (List Int)) (args0 : (List Int)) : Option (List Int) :=
 (Ap (Ca f0 args0) ((0 : Int), Bl Int)).bind fun q5_5 =>
 some q5_5
theorem Yr {f0 : (List Int)} {args0 : (List Int)} {v : (List Int)} (h : Fh f0 args0 = some v) : Ret Try.prog K6 [(slr false 1 Af) f0, (slr false 1 Af) args0] ((slr true 1 Af) v) := by
 refine A5 Yx (Nat.le_of_ble_eq_true rfl) ?_
 unfold Fh at h
 conv => whnf
 refine BslQ.o Af (Bl Int) (by exact fun _ => ⟨rfl, rfl⟩) (by first | rfl | simp only [Aa, V.fz, fzL, V.up, upL, Ab, Ac, Ad, slr, List.cons_append, List.nil_append] | simp [Aa, V.fz, fzL, V.up, upL, Ab, Ac, Ad, slr]) ?_
 conv => whnf
 refine LoopQ.o [6, 5, 0, 1] (Hn f0 args0) (Mk f0 args0) h (fun s o h => Tm s o h) (by first | rfl | simp [restrict, look, Aa, V.fz, fzL, V.up, upL, Ab, Ac, Ad, slr]) (fun _ => rfl) ?_
 rintro q5_5 h
 try dsimp only at h
 conv => whnf
 cases h; exact (by first | rfl | simp only [Ah, Aa, V.fz, fzL, V.up, upL, Ab, Ac, Ad, slr] | simp [Ah, Aa, V.fz, fzL, V.up, upL, Ab, Ac, Ad, slr])
noncomputable def C8 (a0 : SAlgebra) : (Int × (List Int)) → Option ((Int × (List Int)) ⊕ (List Int)) := fun (x10, x3) =>
 if x10 < (↑a0.Ops.length : Int) then
 ask ((0 : Int) ≤ x10 ∧ x10 < (↑a0.Ops.length : Int)) <|
 ask ((x3).length + ([(nth a0.Ops x10.toNat).Arity]).length ≤ LIM) <|
 ask (InI (x10 + (1 : Int))) <|
 some (.inl (x10 + (1 : Int), x3 ++ [(nth a0.Ops x10.toNat).Arity]))
 else
 some (.inr x3)
def Jp (a0 : SAlgebra) : (Int × (List Int)) → St := fun s => [(10, A.val (Af s.1)), (9, A.val (Af ((↑a0.Ops.length : Int)))), (8, A.val ((slr false 2 (Aj false)) (a0.Ops))), (3, A.val ((slr true 1 Af) s.2))]
def O8 (_a0 : SAlgebra) : (List Int) → Tgt
 | s => ((Ex.exit 0), [3], [(3, A.val ((slr true 1 Af) s))])
theorem W6 {a0 : SAlgebra} (s : (Int × (List Int))) (o : (Int × (List Int)) ⊕ (List Int)) (h : C8 a0 s = some o) : vc Try.prog O7 (Dx [10, 9, 8, 3] (Jp a0) (O8 a0) o) (Jp a0 s) := by
 obtain ⟨x10, x3⟩ := s
 unfold C8 at h
 try dsimp only at h
 conv => whnf
 refine Br.od h (fun p1 h => ?_) (fun p1 h => ?_)
 ·conv => whnf
  refine Len.map ?_
  conv => whnf
  refine Ask.o h fun p2 h => ?_
  conv => whnf
  refine Elem.o (by first | omega | (simp [A4] at *; omega)) ?_
  conv => whnf
  refine SetKids.lit rfl ?_
  conv => whnf
  refine Cells.lit rfl rfl ?_
  conv => whnf
  refine BslQ.o Af ([(nth a0.Ops x10.toNat).Arity]) (by exact fun _ => ⟨rfl, rfl⟩) (by first | rfl | simp only [Aa, V.fz, fzL, V.up, upL, Ab, Ac, Ad, slr, List.cons_append, List.nil_append] | simp [Aa, V.fz, fzL, V.up, upL, Ab, Ac, Ad, slr]) ?_
  conv => whnf
  refine NoOwn.o (fun _ => rfl) ?_
  conv => whnf
  refine AppQ.o (m := 1) Af (by exact fun _ => ⟨rfl, rfl⟩) (x3) ([(nth a0.Ops x10.toNat).Arity]) (by first | rfl | simp only [Aa, V.fz, fzL, V.up, upL, Ab, Ac, Ad, slr, List.cons_append, List.nil_append] | simp [Aa, V.fz, fzL, V.up, upL, Ab, Ac, Ad, slr]) (by first | rfl | simp only [Aa, V.fz, fzL, V.up, upL, Ab, Ac, Ad, slr, List.cons_append, List.nil_append] | simp [Aa, V.fz, fzL, V.up, upL, Ab, Ac, Ad, slr]) h fun h => ?_
  conv => whnf
  refine Ask.o h fun p3 h => ?_
  conv => whnf
  cases h; exact ⟨rfl, rfl⟩
 conv => whnf
 cases h; exact ⟨rfl, rfl⟩
noncomputable def Fm (a0 : SAlgebra) : Option (List Int) :=
 (Ap (C8 a0) ((0 : Int), Bl Int)).bind fun q4_3 =>
 some q4_3
theorem S7 {a0 : SAlgebra} {v : (List Int)} (h : Fm a0 = some v) : Ret Try.prog J2 [(Ai false) a0] ((slr true 1 Af) v) := by
 refine A5 Ab3 (Nat.le_of_ble_eq_true rfl) ?_
 unfold Fm at h
 conv => whnf
 refine BslQ.o Af (Bl Int) (by exact fun _ => ⟨rfl, rfl⟩) (by first | rfl | simp only [Aa, V.fz, fzL, V.up, upL, Ab, Ac, Ad, slr, List.cons_append, List.nil_append] | simp [Aa, V.fz, fzL, V.up, upL, Ab, Ac, Ad, slr]) ?_
 conv => whnf
 refine Cells.lit rfl rfl ?_
 conv => whnf
 refine Len.map ?_
 conv => whnf
 refine LoopQ.o [10, 9, 8, 3] (Jp a0) (O8 a0) h (fun s o h => W6 s o h) (by first | rfl | simp [restrict, look, Aa, V.fz, fzL, V.up, upL, Ab, Ac, Ad, slr]) (fun _ => rfl) ?_
 rintro q4_3 h
 try dsimp only at h
 conv => whnf
 cases h; exact (by first | rfl | simp only [Ah, Aa, V.fz, fzL, V.up, upL, Ab, Ac, Ad, slr] | simp [Ah, Aa, V.fz, fzL, V.up, upL, Ab, Ac, Ad, slr])
noncomputable def Db (a0 : List (List Int)) (b0 : List (List Int)) : Int → Option (Int ⊕ (Unit ⊕ Unit)) := fun x5 =>
 if x5 < (↑a0.length : Int) then
 ask ((0 : Int) ≤ x5 ∧ x5 < (↑a0.length : Int)) <|
 ask ((0 : Int) ≤ x5 ∧ x5 < (↑b0.length : Int)) <|
 (Id (nth a0 x5.toNat) (nth b0 x5.toNat)).bind fun r5 =>
 if (r5) = true then
 ask (InI (x5 + (1 : Int))) <|
 some (.inl (x5 + (1 : Int)))
 else
 some (.inr (.inl ()))
 else
 some (.inr (.inr ()))
def Jg (a0 : List (List Int)) (b0 : List (List Int)) : Int → St := fun s => [(5, A.val (Af s)), (0, A.val ((slr false 1 (slr false 1 Af)) (a0))), (1, A.val ((slr false 1 (slr false 1 Af)) (b0)))]
def Oz (_a0 : List (List Int)) (_b0 : List (List Int)) : (Unit ⊕ Unit) → Tgt
 | (.inl _s) => (Ex.ret, [4], [(4, A.val (V.bool (false)))])
 | (.inr _s) => ((Ex.exit 0), [], [])
theorem Wu {a0 : List (List Int)} {b0 : List (List Int)} (x5 : Int) (o : Int ⊕ (Unit ⊕ Unit)) (h : Db a0 b0 x5 = some o) : vc Try.prog O3 (Dx [5, 0, 1] (Jg a0 b0) (Oz a0 b0) o) (Jg a0 b0 x5) := by
 unfold Db at h
 try dsimp only at h
 conv => whnf
 refine Len.map ?_
 conv => whnf
 refine Br.od h (fun p2 h => ?_) (fun p2 h => ?_)
 ·conv => whnf
  refine Len.map ?_
  conv => whnf
  refine Ask.o h fun p3 h => ?_
  conv => whnf
  refine Elem.o (by first | omega | (simp [A4] at *; omega)) ?_
  conv => whnf
  refine Len.map ?_
  conv => whnf
  refine Ask.o h fun p4 h => ?_
  conv => whnf
  refine Elem.o (by first | omega | (simp [A4] at *; omega)) ?_
  conv => whnf
  refine CallQ.o V.bool (by first | rfl | simp only [Aa, V.fz, fzL, V.up, upL, Ab, Ac, Ad, slr, List.cons_append, List.nil_append] | simp [Aa, V.fz, fzL, V.up, upL, Ab, Ac, Ad, slr]) h (fun r h => Agz h) (fun r5 h => ?_)
  conv => whnf
  refine Br.flip ?_
  conv => whnf
  refine Br.ob h (fun p6 h => ?_) (fun p6 h => ?_)
  ·conv => whnf
   refine Ask.o h fun p7 h => ?_
   conv => whnf
   cases h; exact ⟨rfl, rfl⟩
  conv => whnf
  cases h; exact ⟨rfl, rfl⟩
 conv => whnf
 cases h; exact ⟨rfl, rfl⟩
noncomputable def Hg (a0 : (List (List Int))) (b0 : (List (List Int))) : Option Bool :=
 if (↑a0.length : Int) ≠ (↑b0.length : Int) then
 some false
 else
 (Ap (Db a0 b0) (0 : Int)).bind fun t => match t with
 | (.inl _) => (some false)
 | (.inr _) => (some true)
theorem Ac2 {a0 : (List (List Int))} {b0 : (List (List Int))} {v : Bool} (h : Hg a0 b0 = some v) : Ret Try.prog Of [(slr false 1 (slr false 1 Af)) a0, (slr false 1 (slr false 1 Af)) b0] (V.bool v) := by
 refine A5 Acj (Nat.le_of_ble_eq_true rfl) ?_
 unfold Hg at h
 conv => whnf
 refine Len.map ?_
 conv => whnf
 refine Len.map ?_
 conv => whnf
 refine Br.on h (fun p1 h => ?_) (fun p1 h => ?_)
 ·conv => whnf
  cases h; exact (by first | rfl | simp only [Ah, Aa, V.fz, fzL, V.up, upL, Ab, Ac, Ad, slr] | simp [Ah, Aa, V.fz, fzL, V.up, upL, Ab, Ac, Ad, slr])
 conv => whnf
 refine LoopQ.o [5, 0, 1] (Jg a0 b0) (Oz a0 b0) h (fun s o h => Wu s o h) (by first | rfl | simp [restrict, look, Aa, V.fz, fzL, V.up, upL, Ab, Ac, Ad, slr]) (by rintro (_ | _) <;> rfl) ?_
 rintro (⟨⟩ | ⟨⟩) h
 ·try dsimp only at h
  conv => whnf
  cases h; exact (by first | rfl | simp only [Ah, Aa, V.fz, fzL, V.up, upL, Ab, Ac, Ad, slr] | simp [Ah, Aa, V.fz, fzL, V.up, upL, Ab, Ac, Ad, slr])
 try dsimp only at h
 conv => whnf
 cases h; exact (by first | rfl | simp only [Ah, Aa, V.fz, fzL, V.up, upL, Ab, Ac, Ad, slr] | simp [Ah, Aa, V.fz, fzL, V.up, upL, Ab, Ac, Ad, slr])
noncomputable def Ao (c0 : Sl1Cur) (n0 : Int) : Option (Int × Sl1Cur) :=
 if n0 ≤ (1 : Int) then
 some ((0 : Int), c0)
 else
 (Dk (c0)).bind fun (r2, u3) =>
 if n0 > (200 : Int) then
 ask (InI (r2 * (256 : Int))) <|
 (Dk (u3)).bind fun (r6, u7) =>
 ask (InI (r2 * (256 : Int) + r6)) <|
 ask (n0 ≠ (0 : Int)) <|
 some ((r2 * (256 : Int) + r6).tmod n0, u7)
 else
 ask (n0 ≠ (0 : Int)) <|
 some (r2.tmod n0, u3)
theorem Av {c0 : Sl1Cur} {n0 : Int} {v : (Int × Sl1Cur)} (h : Ao c0 n0 = some v) : Aap Try.prog As [(rP true (Ak false)) c0, Af n0] (Af v.1) 0 ((rP true (Ak false)) v.2) := by
 refine Sp U4 (Nat.le_of_ble_eq_true rfl) ?_
 unfold Ao at h
 conv => whnf
 refine Br.od h (fun p1 h => ?_) (fun p1 h => ?_)
 ·conv => whnf
  cases h; exact ⟨(by first | rfl | simp only [Ah, Aa, V.fz, fzL, V.up, upL, Ab, Ac, Ad, slr] | simp [Ah, Aa, V.fz, fzL, V.up, upL, Ab, Ac, Ad, slr]), (by first | rfl | simp only [Ah, Aa, V.fz, fzL, V.up, upL, Ab, Ac, Ad, slr] | simp [Ah, Aa, V.fz, fzL, V.up, upL, Ab, Ac, Ad, slr])⟩
 conv => whnf
 refine CallQ.io Af (rP true (Ak false)) (by first | rfl | simp only [Aa, V.fz, fzL, V.up, upL, Ab, Ac, Ad, slr, List.cons_append, List.nil_append] | simp [Aa, V.fz, fzL, V.up, upL, Ab, Ac, Ad, slr]) rfl (fun _ => rfl) (fun _ => ⟨rfl, rfl⟩) rfl h (fun r h => Nq h) (fun r2 u3 h => ?_)
 conv => whnf
 refine Br.od h (fun p4 h => ?_) (fun p4 h => ?_)
 ·conv => whnf
  refine Ask.o h fun p5 h => ?_
  conv => whnf
  refine CallQ.io Af (rP true (Ak false)) (by first | rfl | simp only [Aa, V.fz, fzL, V.up, upL, Ab, Ac, Ad, slr, List.cons_append, List.nil_append] | simp [Aa, V.fz, fzL, V.up, upL, Ab, Ac, Ad, slr]) rfl (fun _ => rfl) (fun _ => ⟨rfl, rfl⟩) rfl h (fun r h => Nq h) (fun r6 u7 h => ?_)
  conv => whnf
  refine Ask.o h fun p8 h => ?_
  conv => whnf
  refine Ask.o h fun p9 h => ?_
  conv => whnf
  cases h; exact ⟨(by first | rfl | simp only [Ah, Aa, V.fz, fzL, V.up, upL, Ab, Ac, Ad, slr] | simp [Ah, Aa, V.fz, fzL, V.up, upL, Ab, Ac, Ad, slr]), (by first | rfl | simp only [Ah, Aa, V.fz, fzL, V.up, upL, Ab, Ac, Ad, slr] | simp [Ah, Aa, V.fz, fzL, V.up, upL, Ab, Ac, Ad, slr])⟩
 conv => whnf
 refine Ask.o h fun p10 h => ?_
 conv => whnf
 cases h; exact ⟨(by first | rfl | simp only [Ah, Aa, V.fz, fzL, V.up, upL, Ab, Ac, Ad, slr] | simp [Ah, Aa, V.fz, fzL, V.up, upL, Ab, Ac, Ad, slr]), (by first | rfl | simp only [Ah, Aa, V.fz, fzL, V.up, upL, Ab, Ac, Ad, slr] | simp [Ah, Aa, V.fz, fzL, V.up, upL, Ab, Ac, Ad, slr])⟩
noncomputable def Fn (op0 : SOp) : Option SOp :=
 (Ie (op0.Table)).bind fun r1 =>
 some ({ Arity := op0.Arity, Table := r1 })
theorem Tc {op0 : SOp} {v : SOp} (h : Fn op0 = some v) : Ret Try.prog J0 [(Aj false) op0] ((Aj true) v) := by
 refine A5 Acg (Nat.le_of_ble_eq_true rfl) ?_
 unfold Fn at h
 conv => whnf
 refine Cells.lit rfl rfl ?_
 conv => whnf
 refine Cells.lit rfl rfl ?_
 conv => whnf
 refine CallP.o (slr true 1 Af) (by first | rfl | simp only [Aa, V.fz, fzL, V.up, upL, Ab, Ac, Ad, slr, List.cons_append, List.nil_append] | simp [Aa, V.fz, fzL, V.up, upL, Ab, Ac, Ad, slr]) h (fun r h => Afx h) (fun r1 h => ?_)
 conv => whnf
 refine SetKids.lit rfl ?_
 conv => whnf
 cases h; exact (by first | rfl | simp only [Ah, Aa, V.fz, fzL, V.up, upL, Ab, Ac, Ad, slr] | simp [Ah, Aa, V.fz, fzL, V.up, upL, Ab, Ac, Ad, slr])
end Go.Proofs.Ytcpgnfohmeineaa.Ax
