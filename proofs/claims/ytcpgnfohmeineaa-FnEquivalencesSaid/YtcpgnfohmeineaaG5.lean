/-
 What the functions compute, as functions on plain data, and that the program does compute it; written by program.
-/
import Derived.Test.YtcpgnfohmeineaaCode
import Derived.Test.YtcpgnfohmeineaaG1
import Derived.Test.YtcpgnfohmeineaaG2
import Derived.Test.YtcpgnfohmeineaaG3
namespace Go.Proofs.Ytcpgnfohmeineaa.Ax
open Go
set_option maxRecDepth 100000
set_option maxHeartbeats 4000000
noncomputable def D2 (n0 : Int) (arity0 : Int) : (Int × SRelation) → Option ((Int × SRelation) ⊕ SRelation) := fun (x6, x5) =>
 (Dz (n0) (arity0)).bind fun r1 =>
 if x6 < r1 then
 (Fq (n0) (arity0) (x6)).bind fun r3 =>
 ask ((x5.Tuples).length + ([r3]).length ≤ LIM) <|
 ask (InI (x6 + (1 : Int))) <|
 some (.inl (x6 + (1 : Int), { Arity := x5.Arity, Tuples := x5.Tuples ++ [r3] }))
 else
 some (.inr x5)
def Mq (n0 : Int) (arity0 : Int) : (Int × SRelation) → St := fun s => [(6, A.val (Af s.1)), (5, A.val ((rP true (Am)) s.2)), (4, A.val ((rP true (Am)) ({ Arity := (0 : Int), Tuples := Av (List Int) }))), (0, A.val (Af (n0))), (1, A.val (Af (arity0)))]
def Sf (_n0 : Int) (_arity0 : Int) : SRelation → Tgt
 | s => ((Ex.exit 0), [5, 4], [(5, A.val ((rP true (Am)) s)), (4, A.val ((rP true (Am)) ({ Arity := (0 : Int), Tuples := Av (List Int) })))])
theorem Acw {n0 : Int} {arity0 : Int} (s : (Int × SRelation)) (o : (Int × SRelation) ⊕ SRelation) (h : D2 n0 arity0 s = some o) : vc Try.prog Sk (Cu [6, 5, 4, 0, 1] (Mq n0 arity0) (Sf n0 arity0) o) (Mq n0 arity0 s) := by
 obtain ⟨x6, x5⟩ := s
 unfold D2 at h
 try dsimp only at h
 conv => whnf
 refine CallQ.o Af (by rfl) h (fun r h => Qo h) (fun r1 h => ?_)
 conv => whnf
 refine Br.od h (fun p2 h => ?_) (fun p2 h => ?_)
 ·conv => whnf
  refine Cells.lit rfl rfl ?_
  conv => whnf
  refine CallP.o (slr false 1 Af) (by rfl) h (fun r h => Ret.frz (Aad h) (by first | rfl | simp only [V.fz, Ab, slr] | simp [Aa, V.fz, fzL, V.up, upL, Ab, Ac, Ad, slr])) (fun r3 h => ?_)
  conv => whnf
  refine BslQ.o (slr false 1 Af) [r3] (by exact fun _ => ⟨rfl, rfl⟩) (by rfl) ?_
  conv => whnf
  refine NoOwn.o (fun _ => rfl) ?_
  conv => whnf
  refine Kid.lit rfl rfl ?_
  conv => whnf
  refine Kid.lit rfl rfl ?_
  conv => whnf
  refine SetKids.lit rfl ?_
  conv => whnf
  refine AppQ.o (m := 1) (slr false 1 Af) (by exact fun _ => ⟨rfl, rfl⟩) (x5.Tuples) ([r3]) (by rfl) (by rfl) h fun h => ?_
  conv => whnf
  refine SetKids.lit rfl ?_
  conv => whnf
  refine Ask.o h fun p4 h => ?_
  conv => whnf
  cases h; exact ⟨rfl, rfl⟩
 conv => whnf
 cases h; exact ⟨rfl, rfl⟩
noncomputable def Hp (n0 : Int) (arity0 : Int) : Option SRelation :=
 (Al (D2 n0 arity0) ((0 : Int), { Arity := arity0, Tuples := Av (List Int) })).bind fun q5_5 =>
 some q5_5
theorem Ah8 {n0 : Int} {arity0 : Int} {v : SRelation} (h : Hp n0 arity0 = some v) : Ret Try.prog Rn [Af n0, Af arity0] ((Am) v) := by
 refine A8 Ajl (Nat.le_of_ble_eq_true rfl) ?_
 unfold Hp at h
 conv => whnf
 refine BslQ.o (slr true 1 Af) (Av (List Int)) (by exact fun _ => ⟨rfl, rfl⟩) (by rfl) ?_
 conv => whnf
 refine SetKids.lit rfl ?_
 conv => whnf
 refine LoopQ.o [6, 5, 4, 0, 1] (Mq n0 arity0) (Sf n0 arity0) h (fun s o h => Acw s o h) (by rfl) (fun _ => rfl) ?_
 rintro q5_5 h
 try dsimp only at h
 conv => whnf
 refine Cells.lit rfl rfl ?_
 conv => whnf
 refine SetKids.lit rfl ?_
 conv => whnf
 cases h; exact (by rfl)
noncomputable def Ei (list0 : List (List Int)) (t0 : List Int) : (Int × Int) → Option ((Int × Int) ⊕ Int) := fun (x7, x6) =>
 if x6 < x7 then
 ask (InI (x6 + x7)) <|
 ask ((2 : Int) ≠ (0 : Int) ∧ InI ((x6 + x7).tdiv (2 : Int))) <|
 ask ((0 : Int) ≤ (x6 + x7).tdiv (2 : Int) ∧ (x6 + x7).tdiv (2 : Int) < (↑list0.length : Int)) <|
 (Hg (nth list0 ((x6 + x7).tdiv (2 : Int)).toNat) (t0)).bind fun r5 =>
 if (r5) = true then
 ask (InI ((x6 + x7).tdiv (2 : Int) + (1 : Int))) <|
 some (.inl (x7, (x6 + x7).tdiv (2 : Int) + (1 : Int)))
 else
 some (.inl ((x6 + x7).tdiv (2 : Int), x6))
 else
 some (.inr x6)
def Nn (list0 : List (List Int)) (t0 : List Int) : (Int × Int) → St := fun s => [(7, A.val (Af s.1)), (6, A.val (Af s.2)), (0, A.val ((slr false 1 (slr false 1 Af)) (list0))), (1, A.val ((slr false 1 Af) (t0)))]
def U3 (list0 : List (List Int)) (t0 : List Int) : Int → Tgt
 | s => ((Ex.exit 0), [6, 0, 1], [(6, A.val (Af s)), (0, A.val ((slr false 1 (slr false 1 Af)) (list0))), (1, A.val ((slr false 1 Af) (t0)))])
theorem Aek {list0 : List (List Int)} {t0 : List Int} (s : (Int × Int)) (o : (Int × Int) ⊕ Int) (h : Ei list0 t0 s = some o) : vc Try.prog Uq (Cu [7, 6, 0, 1] (Nn list0 t0) (U3 list0 t0) o) (Nn list0 t0 s) := by
 obtain ⟨x7, x6⟩ := s
 unfold Ei at h
 try dsimp only at h
 conv => whnf
 refine Br.od h (fun p1 h => ?_) (fun p1 h => ?_)
 ·conv => whnf
  refine Ask.o h fun p2 h => ?_
  conv => whnf
  refine Ask.o h fun p3 h => ?_
  conv => whnf
  refine Len.map ?_
  conv => whnf
  refine Ask.o h fun p4 h => ?_
  conv => whnf
  refine Elem.o (by first | omega | (simp [Ap] at *; omega)) ?_
  conv => whnf
  refine CallQ.o V.bool (by rfl) h (fun r h => Z8 h) (fun r5 h => ?_)
  conv => whnf
  refine Br.ob h (fun p6 h => ?_) (fun p6 h => ?_)
  ·conv => whnf
   refine Ask.o h fun p7 h => ?_
   conv => whnf
   cases h; exact ⟨rfl, rfl⟩
  conv => whnf
  cases h; exact ⟨rfl, rfl⟩
 conv => whnf
 cases h; exact ⟨rfl, rfl⟩
noncomputable def Ft (list0 : (List (List Int))) (t0 : (List Int)) : Option (Int × Bool) :=
 (Al (Ei list0 t0) ((↑list0.length : Int), (0 : Int))).bind fun q8_6 =>
 if q8_6 < (↑list0.length : Int) then
 ask ((0 : Int) ≤ q8_6 ∧ q8_6 < (↑list0.length : Int)) <|
 (Ip (nth list0 q8_6.toNat) (t0)).bind fun r11 =>
 some (q8_6, r11)
 else
 some (q8_6, false)
theorem Aac {list0 : (List (List Int))} {t0 : (List Int)} {v : (Int × Bool)} (h : Ft list0 t0 = some v) : Ret Try.prog Ow [(slr false 1 (slr false 1 Af)) list0, (slr false 1 Af) t0] ((fun r => V.tup [Af r.1, V.bool r.2]) v) := by
 refine A8 Akk (Nat.le_of_ble_eq_true rfl) ?_
 unfold Ft at h
 conv => whnf
 refine Len.map ?_
 conv => whnf
 refine LoopQ.o [7, 6, 0, 1] (Nn list0 t0) (U3 list0 t0) h (fun s o h => Aek s o h) (by rfl) (fun _ => rfl) ?_
 rintro q8_6 h
 try dsimp only at h
 conv => whnf
 refine Len.map ?_
 conv => whnf
 refine Br.od h (fun p9 h => ?_) (fun p9 h => ?_)
 ·conv => whnf
  refine Br.yes ?_
  conv => whnf
  refine Br.yes ?_
  conv => whnf
  refine Len.map ?_
  conv => whnf
  refine Ask.o h fun p10 h => ?_
  conv => whnf
  refine Elem.o (by first | omega | (simp [Ap] at *; omega)) ?_
  conv => whnf
  refine Br.yes ?_
  conv => whnf
  refine Br.yes ?_
  conv => whnf
  refine Br.yes ?_
  conv => whnf
  refine CallQ.o V.bool (by rfl) h (fun r h => Aai h) (fun r11 h => ?_)
  conv => whnf
  refine Br.yes ?_
  conv => whnf
  cases h; exact (by rfl)
 conv => whnf
 refine Br.no ?_
 conv => whnf
 refine Br.no ?_
 conv => whnf
 refine Br.no ?_
 conv => whnf
 refine Br.no ?_
 conv => whnf
 refine Br.no ?_
 conv => whnf
 refine Br.no ?_
 conv => whnf
 cases h; exact (by rfl)
noncomputable def B0 (a0 : SAlgebra) (x18 : Int) (_x10 : Int) (x9 : Int) : (Int × Bool × Bool × (List Int)) → Option ((Int × Bool × Bool × (List Int)) ⊕ (Bool × Bool × (List Int))) := fun (x31, x6''', x5''', x67''') =>
 if x31 < (↑(nth a0.Ops x18.toNat).Table.length : Int) then
 ask ((0 : Int) ≤ x31 ∧ x31 < (↑(nth a0.Ops x18.toNat).Table.length : Int)) <|
 ask (x9 ≠ (0 : Int) ∧ InI (x31.tdiv x9)) <|
 ask (a0.Size ≠ (0 : Int)) <|
 ask ((0 : Int) ≤ (x31.tdiv x9).tmod a0.Size ∧ (x31.tdiv x9).tmod a0.Size < (↑x67'''.length : Int)) <|
 ask (InI (nth x67''' ((x31.tdiv x9).tmod a0.Size).toNat - (x31.tdiv x9).tmod a0.Size)) <|
 ask (InI ((nth x67''' ((x31.tdiv x9).tmod a0.Size).toNat - (x31.tdiv x9).tmod a0.Size) * x9)) <|
 ask (InI (x31 + (nth x67''' ((x31.tdiv x9).tmod a0.Size).toNat - (x31.tdiv x9).tmod a0.Size) * x9)) <|
 ask ((0 : Int) ≤ x31 + (nth x67''' ((x31.tdiv x9).tmod a0.Size).toNat - (x31.tdiv x9).tmod a0.Size) * x9 ∧ x31 + (nth x67''' ((x31.tdiv x9).tmod a0.Size).toNat - (x31.tdiv x9).tmod a0.Size) * x9 < (↑(nth a0.Ops x18.toNat).Table.length : Int)) <|
 (M3 (x67''') (nth (nth a0.Ops x18.toNat).Table x31.toNat) (nth (nth a0.Ops x18.toNat).Table (x31 + (nth x67''' ((x31.tdiv x9).tmod a0.Size).toNat - (x31.tdiv x9).tmod a0.Size) * x9).toNat)).bind fun (r14, u15) =>
 if (r14) = true then
 ask (InI (x31 + (1 : Int))) <|
 some (.inl (x31 + (1 : Int), true, true, u15))
 else
 ask (InI (x31 + (1 : Int))) <|
 some (.inl (x31 + (1 : Int), x6''', x5''', u15))
 else
 some (.inr (x6''', x5''', x67'''))
def Gz (a0 : SAlgebra) (x18 : Int) (x10 : Int) (x9 : Int) : (Int × Bool × Bool × (List Int)) → St := fun s => [(31, A.val (Af s.1)), (30, A.val (Af ((↑(nth a0.Ops x18.toNat).Table.length : Int)))), (29, A.val ((slr false 1 Af) ((nth a0.Ops x18.toNat).Table))), (10, A.val (Af (x10))), (9, A.val (Af (x9))), (8, A.val ((rP true (A7 false)) (nth a0.Ops x18.toNat))), (18, A.val (Af (x18))), (17, A.val (Af ((↑a0.Ops.length : Int)))), (16, A.val ((slr false 2 (A7 false)) (a0.Ops))), (6, A.val (V.bool s.2.1)), (5, A.val (V.bool s.2.2.1)), (2, A.val ((rP true (Ak false)) (a0))), (1, A.ref 67 []), (67, A.val ((slr true 1 Af) s.2.2.2))]
def K8 (a0 : SAlgebra) (x18 : Int) (x10 : Int) (x9 : Int) : (Bool × Bool × (List Int)) → Tgt
 | s => ((Ex.exit 6), [10, 9, 8, 18, 17, 16, 6, 5, 2, 1, 67], [(10, A.val (Af (x10))), (9, A.val (Af (x9))), (8, A.val ((rP true (A7 false)) (nth a0.Ops x18.toNat))), (18, A.val (Af (x18))), (17, A.val (Af ((↑a0.Ops.length : Int)))), (16, A.val ((slr false 2 (A7 false)) (a0.Ops))), (6, A.val (V.bool s.1)), (5, A.val (V.bool s.2.1)), (2, A.val ((rP true (Ak false)) (a0))), (1, A.ref 67 []), (67, A.val ((slr true 1 Af) s.2.2))])
theorem T8 {a0 : SAlgebra} {x18 : Int} {x10 : Int} {x9 : Int} (s : (Int × Bool × Bool × (List Int))) (o : (Int × Bool × Bool × (List Int)) ⊕ (Bool × Bool × (List Int))) (h : B0 a0 x18 x10 x9 s = some o) : vc Try.prog Kv (Cu [31, 30, 29, 10, 9, 8, 18, 17, 16, 6, 5, 2, 1, 67] (Gz a0 x18 x10 x9) (K8 a0 x18 x10 x9) o) (Gz a0 x18 x10 x9 s) := by
 obtain ⟨x31, x6''', x5''', x67'''⟩ := s
 unfold B0 at h
 try dsimp only at h
 conv => whnf
 refine Br.od h (fun p5 h => ?_) (fun p5 h => ?_)
 ·conv => whnf
  refine Len.map ?_
  conv => whnf
  refine Ask.o h fun p6 h => ?_
  conv => whnf
  refine Elem.o (by first | omega | (simp [Ap] at *; omega)) ?_
  conv => whnf
  refine Ask.o h fun p7 h => ?_
  conv => whnf
  refine Cells.lit rfl rfl ?_
  conv => whnf
  refine Ask.o h fun p8 h => ?_
  conv => whnf
  refine Cells.lit rfl rfl ?_
  conv => whnf
  refine Len.map ?_
  conv => whnf
  refine Ask.o h fun p9 h => ?_
  conv => whnf
  refine Cells.one (fun _ => ⟨rfl, rfl⟩) (by first | omega | (simp [Ap] at *; omega)) ?_
  conv => whnf
  refine Ask.o h fun p10 h => ?_
  conv => whnf
  refine Ask.o h fun p11 h => ?_
  conv => whnf
  refine Ask.o h fun p12 h => ?_
  conv => whnf
  refine Len.map ?_
  conv => whnf
  refine Ask.o h fun p13 h => ?_
  conv => whnf
  refine Elem.o (by first | omega | (simp [Ap] at *; omega)) ?_
  conv => whnf
  refine CallQ.io V.bool (slr true 1 Af) (by rfl) rfl (fun _ => rfl) (fun _ => ⟨rfl, rfl⟩) rfl h (fun r h => Aoi h) (fun r14 u15 h => ?_)
  conv => whnf
  refine Br.ob h (fun p16 h => ?_) (fun p16 h => ?_)
  ·conv => whnf
   refine Ask.o h fun p17 h => ?_
   conv => whnf
   cases h; exact ⟨rfl, rfl⟩
  conv => whnf
  refine Ask.o h fun p18 h => ?_
  conv => whnf
  cases h; exact ⟨rfl, rfl⟩
 conv => whnf
 cases h; exact ⟨rfl, rfl⟩
noncomputable def Bz (a0 : SAlgebra) (x18 : Int) : (Int × Int × Bool × Bool × (List Int)) → Option ((Int × Int × Bool × Bool × (List Int)) ⊕ (Bool × Bool × (List Int))) := fun (x10, x9, x6'', x5'', x67'') =>
 if x10 < (nth a0.Ops x18.toNat).Arity then
 (Al (B0 a0 x18 x10 x9) ((0 : Int), x6'', x5'', x67'')).bind fun (q19_6, q19_5, q19_67) =>
 ask (InI (x9 * a0.Size)) <|
 ask (InI (x10 + (1 : Int))) <|
 some (.inl (x10 + (1 : Int), x9 * a0.Size, q19_6, q19_5, q19_67))
 else
 some (.inr (x6'', x5'', x67''))
def G5 (a0 : SAlgebra) (x18 : Int) : (Int × Int × Bool × Bool × (List Int)) → St := fun s => [(10, A.val (Af s.1)), (9, A.val (Af s.2.1)), (8, A.val ((rP true (A7 false)) (nth a0.Ops x18.toNat))), (18, A.val (Af (x18))), (17, A.val (Af ((↑a0.Ops.length : Int)))), (16, A.val ((slr false 2 (A7 false)) (a0.Ops))), (6, A.val (V.bool s.2.2.1)), (5, A.val (V.bool s.2.2.2.1)), (2, A.val ((rP true (Ak false)) (a0))), (1, A.ref 67 []), (67, A.val ((slr true 1 Af) s.2.2.2.2))]
def Lb (a0 : SAlgebra) (x18 : Int) : (Bool × Bool × (List Int)) → Tgt
 | s => ((Ex.exit 4), [18, 17, 16, 6, 5, 2, 1, 67], [(18, A.val (Af (x18))), (17, A.val (Af ((↑a0.Ops.length : Int)))), (16, A.val ((slr false 2 (A7 false)) (a0.Ops))), (6, A.val (V.bool s.1)), (5, A.val (V.bool s.2.1)), (2, A.val ((rP true (Ak false)) (a0))), (1, A.ref 67 []), (67, A.val ((slr true 1 Af) s.2.2))])
theorem Ui {a0 : SAlgebra} {x18 : Int} (s : (Int × Int × Bool × Bool × (List Int))) (o : (Int × Int × Bool × Bool × (List Int)) ⊕ (Bool × Bool × (List Int))) (h : Bz a0 x18 s = some o) : vc Try.prog Kl (Cu [10, 9, 8, 18, 17, 16, 6, 5, 2, 1, 67] (G5 a0 x18) (Lb a0 x18) o) (G5 a0 x18 s) := by
 obtain ⟨x10, x9, x6'', x5'', x67''⟩ := s
 unfold Bz at h
 try dsimp only at h
 conv => whnf
 refine Cells.lit rfl rfl ?_
 conv => whnf
 refine Br.od h (fun p4 h => ?_) (fun p4 h => ?_)
 ·conv => whnf
  refine Cells.lit rfl rfl ?_
  conv => whnf
  refine Len.map ?_
  conv => whnf
  refine LoopQ.o [31, 30, 29, 10, 9, 8, 18, 17, 16, 6, 5, 2, 1, 67] (Gz a0 x18 x10 x9) (K8 a0 x18 x10 x9) h (fun s o h => T8 s o h) (by rfl) (fun _ => rfl) ?_
  rintro ⟨q19_6, q19_5, q19_67⟩ h
  try dsimp only at h
  conv => whnf
  refine Cells.lit rfl rfl ?_
  conv => whnf
  refine Ask.o h fun p20 h => ?_
  conv => whnf
  refine Ask.o h fun p21 h => ?_
  conv => whnf
  cases h; exact ⟨rfl, rfl⟩
 conv => whnf
 cases h; exact ⟨rfl, rfl⟩
noncomputable def Bx (a0 : SAlgebra) : (Int × Bool × Bool × (List Int)) → Option ((Int × Bool × Bool × (List Int)) ⊕ (Bool × Bool × (List Int))) := fun (x18, x6', x5', x67') =>
 if x18 < (↑a0.Ops.length : Int) then
 ask ((0 : Int) ≤ x18 ∧ x18 < (↑a0.Ops.length : Int)) <|
 (Al (Bz a0 x18) ((0 : Int), (1 : Int), x6', x5', x67')).bind fun (q22_6, q22_5, q22_67) =>
 ask (InI (x18 + (1 : Int))) <|
 some (.inl (x18 + (1 : Int), q22_6, q22_5, q22_67))
 else
 some (.inr (x6', x5', x67'))
def G1 (a0 : SAlgebra) : (Int × Bool × Bool × (List Int)) → St := fun s => [(18, A.val (Af s.1)), (17, A.val (Af ((↑a0.Ops.length : Int)))), (16, A.val ((slr false 2 (A7 false)) (a0.Ops))), (6, A.val (V.bool s.2.1)), (5, A.val (V.bool s.2.2.1)), (2, A.val ((rP true (Ak false)) (a0))), (1, A.ref 67 []), (67, A.val ((slr true 1 Af) s.2.2.2))]
def Km (a0 : SAlgebra) : (Bool × Bool × (List Int)) → Tgt
 | s => ((Ex.exit 2), [6, 5, 2, 1, 67], [(6, A.val (V.bool s.1)), (5, A.val (V.bool s.2.1)), (2, A.val ((rP true (Ak false)) (a0))), (1, A.ref 67 []), (67, A.val ((slr true 1 Af) s.2.2))])
theorem Ub {a0 : SAlgebra} (s : (Int × Bool × Bool × (List Int))) (o : (Int × Bool × Bool × (List Int)) ⊕ (Bool × Bool × (List Int))) (h : Bx a0 s = some o) : vc Try.prog Ko (Cu [18, 17, 16, 6, 5, 2, 1, 67] (G1 a0) (Km a0) o) (G1 a0 s) := by
 obtain ⟨x18, x6', x5', x67'⟩ := s
 unfold Bx at h
 try dsimp only at h
 conv => whnf
 refine Br.od h (fun p2 h => ?_) (fun p2 h => ?_)
 ·conv => whnf
  refine Len.map ?_
  conv => whnf
  refine Ask.o h fun p3 h => ?_
  conv => whnf
  refine Elem.o (by first | omega | (simp [Ap] at *; omega)) ?_
  conv => whnf
  refine SetKids.lit rfl ?_
  conv => whnf
  refine LoopQ.o [10, 9, 8, 18, 17, 16, 6, 5, 2, 1, 67] (G5 a0 x18) (Lb a0 x18) h (fun s o h => Ui s o h) (by rfl) (fun _ => rfl) ?_
  rintro ⟨q22_6, q22_5, q22_67⟩ h
  try dsimp only at h
  conv => whnf
  refine Ask.o h fun p23 h => ?_
  conv => whnf
  cases h; exact ⟨rfl, rfl⟩
 conv => whnf
 cases h; exact ⟨rfl, rfl⟩
noncomputable def Dg (a0 : SAlgebra) : (Bool × Bool × (List Int)) → Option ((Bool × Bool × (List Int)) ⊕ (Bool × (List Int))) := fun (x6, x5, x67) =>
 if (x6) = true then
 (Al (Bx a0) ((0 : Int), false, x5, x67)).bind fun (q24_6, q24_5, q24_67) =>
 some (.inl (q24_6, q24_5, q24_67))
 else
 some (.inr (x5, x67))
def G6 (a0 : SAlgebra) : (Bool × Bool × (List Int)) → St := fun s => [(6, A.val (V.bool s.1)), (5, A.val (V.bool s.2.1)), (2, A.val ((rP true (Ak false)) (a0))), (1, A.ref 67 []), (67, A.val ((slr true 1 Af) s.2.2))]
def K3 (_a0 : SAlgebra) : (Bool × (List Int)) → Tgt
 | s => ((Ex.exit 0), [5, 67], [(5, A.val (V.bool s.1)), (67, A.val ((slr true 1 Af) s.2))])
theorem Tx {a0 : SAlgebra} (s : (Bool × Bool × (List Int))) (o : (Bool × Bool × (List Int)) ⊕ (Bool × (List Int))) (h : Dg a0 s = some o) : vc Try.prog Kk (Cu [6, 5, 2, 1, 67] (G6 a0) (K3 a0) o) (G6 a0 s) := by
 obtain ⟨x6, x5, x67⟩ := s
 unfold Dg at h
 try dsimp only at h
 conv => whnf
 refine Br.ob h (fun p1 h => ?_) (fun p1 h => ?_)
 ·conv => whnf
  refine Cells.lit rfl rfl ?_
  conv => whnf
  refine Len.map ?_
  conv => whnf
  refine LoopQ.o [18, 17, 16, 6, 5, 2, 1, 67] (G1 a0) (Km a0) h (fun s o h => Ub s o h) (by rfl) (fun _ => rfl) ?_
  rintro ⟨q24_6, q24_5, q24_67⟩ h
  try dsimp only at h
  conv => whnf
  cases h; exact ⟨rfl, rfl⟩
 conv => whnf
 cases h; exact ⟨rfl, rfl⟩
noncomputable def Eb (a0 : SAlgebra) (p0 : (List Int)) : Option (Bool × (List Int)) :=
 (Al (Dg a0) (true, false, p0)).bind fun (q25_5, q25_67) =>
 some (q25_5, q25_67)
theorem Xv {a0 : SAlgebra} {p0 : (List Int)} {v : (Bool × (List Int))} (h : Eb a0 p0 = some v) : Qs Try.prog Iu [(Ak false) a0, (slr true 1 Af) p0] (V.bool v.1) 1 ((slr true 1 Af) v.2) := by
 refine Lh Xx (Nat.le_of_ble_eq_true rfl) ?_
 unfold Eb at h
 conv => whnf
 refine LoopQ.o [6, 5, 2, 1, 67] (G6 a0) (K3 a0) h (fun s o h => Tx s o h) (by rfl) (fun _ => rfl) ?_
 rintro ⟨q25_5, q25_67⟩ h
 try dsimp only at h
 conv => whnf
 cases h; exact ⟨(by rfl), (by rfl)⟩
noncomputable def D3 (p0 : List Int) (r3 : Int) (r6 : Int) : (Int × (List Int)) → Option ((Int × (List Int)) ⊕ (List Int)) := fun (x10, x9) =>
 if x10 < (↑p0.length : Int) then
 ask ((0 : Int) ≤ x10 ∧ x10 < (↑p0.length : Int)) <|
 if nth p0 x10.toNat = r6 then
 ask ((x9).length + ([r3]).length ≤ LIM) <|
 ask (InI (x10 + (1 : Int))) <|
 some (.inl (x10 + (1 : Int), x9 ++ [r3]))
 else
 ask ((0 : Int) ≤ x10 ∧ x10 < (↑p0.length : Int)) <|
 ask ((x9).length + ([nth p0 x10.toNat]).length ≤ LIM) <|
 ask (InI (x10 + (1 : Int))) <|
 some (.inl (x10 + (1 : Int), x9 ++ [nth p0 x10.toNat]))
 else
 some (.inr x9)
def Mf (p0 : List Int) (r3 : Int) (r6 : Int) : (Int × (List Int)) → St := fun s => [(10, A.val (Af s.1)), (9, A.val ((slr true 1 Af) s.2)), (8, A.val (Af (r6))), (7, A.val (Af (r3))), (0, A.val ((slr false 1 Af) (p0)))]
def S6 (_p0 : List Int) (_r3 : Int) (_r6 : Int) : (List Int) → Tgt
 | s => ((Ex.exit 0), [9], [(9, A.val ((slr true 1 Af) s))])
theorem Aca {p0 : List Int} {r3 : Int} {r6 : Int} (s : (Int × (List Int))) (o : (Int × (List Int)) ⊕ (List Int)) (h : D3 p0 r3 r6 s = some o) : vc Try.prog Sz (Cu [10, 9, 8, 7, 0] (Mf p0 r3 r6) (S6 p0 r3 r6) o) (Mf p0 r3 r6 s) := by
 obtain ⟨x10, x9⟩ := s
 unfold D3 at h
 try dsimp only at h
 conv => whnf
 refine Len.map ?_
 conv => whnf
 refine Br.od h (fun p7 h => ?_) (fun p7 h => ?_)
 ·conv => whnf
  refine Len.map ?_
  conv => whnf
  refine Ask.o h fun p8 h => ?_
  conv => whnf
  refine Elem.o (by first | omega | (simp [Ap] at *; omega)) ?_
  conv => whnf
  refine Br.oe h (fun p9 h => ?_) (fun p9 h => ?_)
  ·conv => whnf
   refine BslQ.o Af [r3] (by exact fun _ => ⟨rfl, rfl⟩) (by rfl) ?_
   conv => whnf
   refine NoOwn.o (fun _ => rfl) ?_
   conv => whnf
   refine AppQ.o (m := 1) Af (by exact fun _ => ⟨rfl, rfl⟩) (x9) ([r3]) (by rfl) (by rfl) h fun h => ?_
   conv => whnf
   refine Ask.o h fun p10 h => ?_
   conv => whnf
   cases h; exact ⟨rfl, rfl⟩
  conv => whnf
  refine Len.map ?_
  conv => whnf
  refine Ask.o h fun p11 h => ?_
  conv => whnf
  refine Elem.o (by first | omega | (simp [Ap] at *; omega)) ?_
  conv => whnf
  refine BslQ.o Af ([nth p0 x10.toNat]) (by exact fun _ => ⟨rfl, rfl⟩) (by rfl) ?_
  conv => whnf
  refine NoOwn.o (fun _ => rfl) ?_
  conv => whnf
  refine AppQ.o (m := 1) Af (by exact fun _ => ⟨rfl, rfl⟩) (x9) ([nth p0 x10.toNat]) (by rfl) (by rfl) h fun h => ?_
  conv => whnf
  refine Ask.o h fun p12 h => ?_
  conv => whnf
  cases h; exact ⟨rfl, rfl⟩
 conv => whnf
 cases h; exact ⟨rfl, rfl⟩
noncomputable def E3 (p0 : (List Int)) (x0 : Int) (y0 : Int) : Option (List Int) :=
 ask ((0 : Int) ≤ x0 ∧ x0 < (↑p0.length : Int)) <|
 ask ((0 : Int) ≤ y0 ∧ y0 < (↑p0.length : Int)) <|
 (Dy (nth p0 x0.toNat) (nth p0 y0.toNat)).bind fun r3 =>
 ask ((0 : Int) ≤ x0 ∧ x0 < (↑p0.length : Int)) <|
 ask ((0 : Int) ≤ y0 ∧ y0 < (↑p0.length : Int)) <|
 (Iq (nth p0 x0.toNat) (nth p0 y0.toNat)).bind fun r6 =>
 (Al (D3 p0 r3 r6) ((0 : Int), Av Int)).bind fun q13_9 =>
 some q13_9
theorem M2 {p0 : (List Int)} {x0 : Int} {y0 : Int} {v : (List Int)} (h : E3 p0 x0 y0 = some v) : Ret Try.prog Ho [(slr false 1 Af) p0, Af x0, Af y0] ((slr true 1 Af) v) := by
 refine A8 Ai0 (Nat.le_of_ble_eq_true rfl) ?_
 unfold E3 at h
 conv => whnf
 refine Len.map ?_
 conv => whnf
 refine Ask.o h fun p1 h => ?_
 conv => whnf
 refine Elem.o (by first | omega | (simp [Ap] at *; omega)) ?_
 conv => whnf
 refine Len.map ?_
 conv => whnf
 refine Ask.o h fun p2 h => ?_
 conv => whnf
 refine Elem.o (by first | omega | (simp [Ap] at *; omega)) ?_
 conv => whnf
 refine CallP.o Af (by rfl) h (fun r h => Q9 h) (fun r3 h => ?_)
 conv => whnf
 refine Len.map ?_
 conv => whnf
 refine Ask.o h fun p4 h => ?_
 conv => whnf
 refine Elem.o (by first | omega | (simp [Ap] at *; omega)) ?_
 conv => whnf
 refine Len.map ?_
 conv => whnf
 refine Ask.o h fun p5 h => ?_
 conv => whnf
 refine Elem.o (by first | omega | (simp [Ap] at *; omega)) ?_
 conv => whnf
 refine CallQ.o Af (by rfl) h (fun r h => Z7 h) (fun r6 h => ?_)
 conv => whnf
 refine BslQ.o Af (Av Int) (by exact fun _ => ⟨rfl, rfl⟩) (by rfl) ?_
 conv => whnf
 refine LoopQ.o [10, 9, 8, 7, 0] (Mf p0 r3 r6) (S6 p0 r3 r6) h (fun s o h => Aca s o h) (by rfl) (fun _ => rfl) ?_
 rintro q13_9 h
 try dsimp only at h
 conv => whnf
 cases h; exact (by rfl)
noncomputable def In (list0 : List (List Int)) (p0 : List Int) : Int → Option (Int ⊕ Int) := fun x5 =>
 if x5 < (↑list0.length : Int) then
 ask ((0 : Int) ≤ x5 ∧ x5 < (↑list0.length : Int)) <|
 (E7 (nth list0 x5.toNat)).bind fun r3 =>
 (E7 (p0)).bind fun r4 =>
 if r3 > r4 then
 ask (InI (x5 + (1 : Int))) <|
 some (.inl (x5 + (1 : Int)))
 else
 ask ((0 : Int) ≤ x5 ∧ x5 < (↑list0.length : Int)) <|
 (E7 (nth list0 x5.toNat)).bind fun r8 =>
 (E7 (p0)).bind fun r9 =>
 if r8 = r9 then
 ask ((0 : Int) ≤ x5 ∧ x5 < (↑list0.length : Int)) <|
 (Fv (nth list0 x5.toNat) (p0)).bind fun r12 =>
 if (r12) = true then
 ask (InI (x5 + (1 : Int))) <|
 some (.inl (x5 + (1 : Int)))
 else
 some (.inr x5)
 else
 some (.inr x5)
 else
 some (.inr x5)
def P2 (list0 : List (List Int)) (p0 : List Int) : Int → St := fun s => [(5, A.val (Af s)), (0, A.val ((slr false 1 (slr false 1 Af)) (list0))), (1, A.val ((slr false 1 Af) (p0)))]
def Xc (list0 : List (List Int)) (p0 : List Int) : Int → Tgt
 | s => ((Ex.exit 0), [5, 0, 1], [(5, A.val (Af s)), (0, A.val ((slr false 1 (slr false 1 Af)) (list0))), (1, A.val ((slr false 1 Af) (p0)))])
theorem Afz {list0 : List (List Int)} {p0 : List Int} (x5 : Int) (o : Int ⊕ Int) (h : In list0 p0 x5 = some o) : vc Try.prog Xd (Cu [5, 0, 1] (P2 list0 p0) (Xc list0 p0) o) (P2 list0 p0 x5) := by
 unfold In at h
 try dsimp only at h
 conv => whnf
 refine Len.map ?_
 conv => whnf
 refine Br.od h (fun p1 h => ?_) (fun p1 h => ?_)
 ·conv => whnf
  refine Br.yes ?_
  conv => whnf
  refine Br.yes ?_
  conv => whnf
  refine Len.map ?_
  conv => whnf
  refine Ask.o h fun p2 h => ?_
  conv => whnf
  refine Elem.o (by first | omega | (simp [Ap] at *; omega)) ?_
  conv => whnf
  refine Br.yes ?_
  conv => whnf
  refine Br.yes ?_
  conv => whnf
  refine CallQ.o Af (by rfl) h (fun r h => Mg h) (fun r3 h => ?_)
  conv => whnf
  refine Br.yes ?_
  conv => whnf
  refine Br.yes ?_
  conv => whnf
  refine CallQ.o Af (by rfl) h (fun r h => Mg h) (fun r4 h => ?_)
  conv => whnf
  refine Br.yes ?_
  conv => whnf
  refine Br.yes ?_
  conv => whnf
  refine Br.od h (fun p5 h => ?_) (fun p5 h => ?_)
  ·conv => whnf
   refine Br.yes ?_
   conv => whnf
   refine Br.yes ?_
   conv => whnf
   refine Br.yes ?_
   conv => whnf
   refine Br.yes ?_
   conv => whnf
   refine Br.yes ?_
   conv => whnf
   refine Br.yes ?_
   conv => whnf
   refine Br.yes ?_
   conv => whnf
   refine Br.yes ?_
   conv => whnf
   refine Br.yes ?_
   conv => whnf
   refine Br.yes ?_
   conv => whnf
   refine Br.yes ?_
   conv => whnf
   refine Br.yes ?_
   conv => whnf
   refine Br.yes ?_
   conv => whnf
   refine Ask.o h fun p6 h => ?_
   conv => whnf
   cases h; exact ⟨rfl, rfl⟩
  conv => whnf
  refine Br.no ?_
  conv => whnf
  refine Br.no ?_
  conv => whnf
  refine Len.map ?_
  conv => whnf
  refine Ask.o h fun p7 h => ?_
  conv => whnf
  refine Elem.o (by first | omega | (simp [Ap] at *; omega)) ?_
  conv => whnf
  refine Br.no ?_
  conv => whnf
  refine Br.no ?_
  conv => whnf
  refine CallQ.o Af (by rfl) h (fun r h => Mg h) (fun r8 h => ?_)
  conv => whnf
  refine Br.no ?_
  conv => whnf
  refine Br.no ?_
  conv => whnf
  refine CallQ.o Af (by rfl) h (fun r h => Mg h) (fun r9 h => ?_)
  conv => whnf
  refine Br.no ?_
  conv => whnf
  refine Br.no ?_
  conv => whnf
  refine Br.oe h (fun p10 h => ?_) (fun p10 h => ?_)
  ·conv => whnf
   refine Br.yes ?_
   conv => whnf
   refine Br.yes ?_
   conv => whnf
   refine Len.map ?_
   conv => whnf
   refine Ask.o h fun p11 h => ?_
   conv => whnf
   refine Elem.o (by first | omega | (simp [Ap] at *; omega)) ?_
   conv => whnf
   refine Br.yes ?_
   conv => whnf
   refine Br.yes ?_
   conv => whnf
   refine Br.yes ?_
   conv => whnf
   refine CallQ.o V.bool (by rfl) h (fun r h => Akz h) (fun r12 h => ?_)
   conv => whnf
   refine Br.no ?_
   conv => whnf
   refine Br.yes ?_
   conv => whnf
   refine Br.yes ?_
   conv => whnf
   refine Br.no ?_
   conv => whnf
   refine Br.yes ?_
   conv => whnf
   refine Br.ob h (fun p13 h => ?_) (fun p13 h => ?_)
   ·conv => whnf
    refine Ask.o h fun p14 h => ?_
    conv => whnf
    cases h; exact ⟨rfl, rfl⟩
   conv => whnf
   cases h; exact ⟨rfl, rfl⟩
  conv => whnf
  refine Br.no ?_
  conv => whnf
  refine Br.no ?_
  conv => whnf
  refine Br.no ?_
  conv => whnf
  refine Br.no ?_
  conv => whnf
  refine Br.no ?_
  conv => whnf
  refine Br.no ?_
  conv => whnf
  refine Br.no ?_
  conv => whnf
  refine Br.yes ?_
  conv => whnf
  refine Br.no ?_
  conv => whnf
  refine Br.yes ?_
  conv => whnf
  refine Br.no ?_
  conv => whnf
  cases h; exact ⟨rfl, rfl⟩
 conv => whnf
 refine Br.no ?_
 conv => whnf
 refine Br.no ?_
 conv => whnf
 refine Br.no ?_
 conv => whnf
 refine Br.no ?_
 conv => whnf
 refine Br.no ?_
 conv => whnf
 refine Br.no ?_
 conv => whnf
 refine Br.no ?_
 conv => whnf
 refine Br.no ?_
 conv => whnf
 refine Br.no ?_
 conv => whnf
 refine Br.no ?_
 conv => whnf
 refine Br.no ?_
 conv => whnf
 cases h; exact ⟨rfl, rfl⟩
noncomputable def J1 (list0 : (List (List Int))) (p0 : (List Int)) : Option (List (List Int)) :=
 (Al (In list0 p0) (0 : Int)).bind fun q15_5 =>
 ((if q15_5 < (↑list0.length : Int) then
 ask ((0 : Int) ≤ q15_5 ∧ q15_5 < (↑list0.length : Int)) <|
 (Ip (nth list0 q15_5.toNat) (p0)).bind fun r18 =>
 if (r18) = true then
 some (.inl ())
 else
 some (.inr ())
 else
 some (.inr ()) : Option (Unit ⊕ Unit))).bind fun t => match t with
 | (.inl _) => (some list0)
 | (.inr _) => (ask (0 ≤ (0 : Int) ∧ (0 : Int) ≤ q15_5 ∧ q15_5 ≤ ((list0.length : Nat) : Int)) <|
 ask ((Av (List Int)).length + (List.take (q15_5.toNat - Int.toNat (0 : Int)) (List.drop (Int.toNat (0 : Int)) list0)).length ≤ LIM) <|
 ask ((Av (List Int) ++ List.take (q15_5.toNat - Int.toNat (0 : Int)) (List.drop (Int.toNat (0 : Int)) list0)).length + ([p0]).length ≤ LIM) <|
 ask (0 ≤ q15_5 ∧ q15_5 ≤ (↑list0.length : Int) ∧ (↑list0.length : Int) ≤ ((list0.length : Nat) : Int)) <|
 ask ((Av (List Int) ++ List.take (q15_5.toNat - Int.toNat (0 : Int)) (List.drop (Int.toNat (0 : Int)) list0) ++ [p0]).length + (List.take ((↑list0.length : Int).toNat - q15_5.toNat) (List.drop q15_5.toNat list0)).length ≤ LIM) <|
 some (Av (List Int) ++ List.take (q15_5.toNat - Int.toNat (0 : Int)) (List.drop (Int.toNat (0 : Int)) list0) ++ [p0] ++ List.take ((↑list0.length : Int).toNat - q15_5.toNat) (List.drop q15_5.toNat list0)))
theorem Ac9 {list0 : (List (List Int))} {p0 : (List Int)} {v : (List (List Int))} (h : J1 list0 p0 = some v) : Ret Try.prog Qq [(slr false 1 (slr false 1 Af)) list0, (slr false 1 Af) p0] ((slr false 1 (slr false 1 Af)) v) := by
 refine Acc Anv (Nat.le_of_ble_eq_true rfl) ?_
 unfold J1 at h
 conv => whnf
 refine LoopQ.o [5, 0, 1] (P2 list0 p0) (Xc list0 p0) h (fun s o h => Afz s o h) (by rfl) (fun _ => rfl) ?_
 rintro q15_5 h
 try dsimp only at h
 conv => whnf
 refine CutQ.o (fun t : (Unit ⊕ Unit) => match t with | (.inl s) => (Ex.ret, [4], [(4, A.val ((slr false 1 (slr false 1 Af)) (list0)))]) | (.inr s) => (Ex.normal, [5, 0, 1], [(5, A.val (Af (q15_5))), (0, A.val ((slr false 1 (slr false 1 Af)) (list0))), (1, A.val ((slr false 1 Af) (p0)))])) h ?_ ?_
 ·intro t h
  conv => whnf
  refine Len.map ?_
  conv => whnf
  refine Br.od h (fun p16 h => ?_) (fun p16 h => ?_)
  ·conv => whnf
   refine Br.yes ?_
   conv => whnf
   refine Br.yes ?_
   conv => whnf
   refine Len.map ?_
   conv => whnf
   refine Ask.o h fun p17 h => ?_
   conv => whnf
   refine Elem.o (by first | omega | (simp [Ap] at *; omega)) ?_
   conv => whnf
   refine Br.yes ?_
   conv => whnf
   refine Br.yes ?_
   conv => whnf
   refine Br.yes ?_
   conv => whnf
   refine CallQ.o V.bool (by rfl) h (fun r h => Aai h) (fun r18 h => ?_)
   conv => whnf
   refine Br.yes ?_
   conv => whnf
   refine Br.ob h (fun p19 h => ?_) (fun p19 h => ?_)
   ·conv => whnf
    cases h; exact ⟨rfl, rfl⟩
   conv => whnf
   cases h; exact ⟨rfl, rfl⟩
  conv => whnf
  refine Br.no ?_
  conv => whnf
  refine Br.no ?_
  conv => whnf
  refine Br.no ?_
  conv => whnf
  refine Br.no ?_
  conv => whnf
  refine Br.no ?_
  conv => whnf
  refine Br.no ?_
  conv => whnf
  refine Br.no ?_
  conv => whnf
  cases h; exact ⟨rfl, rfl⟩
 rintro (⟨⟩ | ⟨⟩) h
 ·try dsimp only at h
  conv => whnf
  cases h; exact (by rfl)
 try dsimp only at h
 conv => whnf
 refine BslQ.o (slr true 1 Af) (Av (List Int)) (by exact fun _ => ⟨rfl, rfl⟩) (by rfl) ?_
 conv => whnf
 refine SlcQ.o (slr false 1 Af) h fun h => ?_
 conv => whnf
 refine AppQ.o (m := 1) (slr false 1 Af) (by exact fun _ => ⟨rfl, rfl⟩) (Av (List Int)) (List.take (q15_5.toNat - Int.toNat (0 : Int)) (List.drop (Int.toNat (0 : Int)) list0)) (by rfl) (by rfl) h fun h => ?_
 conv => whnf
 refine BslQ.o (slr false 1 Af) [p0] (by exact fun _ => ⟨rfl, rfl⟩) (by rfl) ?_
 conv => whnf
 refine NoOwn.o (fun _ => rfl) ?_
 conv => whnf
 refine AppQ.o (m := 1) (slr false 1 Af) (by exact fun _ => ⟨rfl, rfl⟩) (Av (List Int) ++ List.take (q15_5.toNat - Int.toNat (0 : Int)) (List.drop (Int.toNat (0 : Int)) list0)) ([p0]) (by rfl) (by rfl) h fun h => ?_
 conv => whnf
 refine Len.map ?_
 conv => whnf
 refine SlcQ.o (slr false 1 Af) h fun h => ?_
 conv => whnf
 refine AppQ.o (m := 1) (slr false 1 Af) (by exact fun _ => ⟨rfl, rfl⟩) (Av (List Int) ++ List.take (q15_5.toNat - Int.toNat (0 : Int)) (List.drop (Int.toNat (0 : Int)) list0) ++ [p0]) (List.take ((↑list0.length : Int).toNat - q15_5.toNat) (List.drop q15_5.toNat list0)) (by rfl) (by rfl) h fun h => ?_
 conv => whnf
 cases h; exact (by first | rfl | simp only [Ag, Ac, slr] | simp [Ag, Aa, V.fz, fzL, V.up, upL, Ab, Ac, Ad, slr])
end Go.Proofs.Ytcpgnfohmeineaa.Ax
