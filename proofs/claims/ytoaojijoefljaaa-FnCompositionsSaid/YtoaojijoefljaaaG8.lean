/-
 What the functions compute, as functions on plain data, and that the program does compute it; written by program.
-/
import Derived.Test.YtoaojijoefljaaaCode
import Derived.Test.YtoaojijoefljaaaG1
import Derived.Test.YtoaojijoefljaaaG2
import Derived.Test.YtoaojijoefljaaaG3
import Derived.Test.YtoaojijoefljaaaG5
namespace Go.Proofs.Ytoaojijoefljaaa.Ax
open Go
set_option maxRecDepth 100000
set_option maxHeartbeats 4000000
noncomputable def Ay (c0 : Sl1Cur) (list0 : (List Int)) : Option (Int × Sl1Cur) :=
 (Ap (c0) ((↑list0.length : Int))).bind fun (r1, u2) =>
 ask ((0 : Int) ≤ r1 ∧ r1 < (↑list0.length : Int)) <|
 some (nth list0 r1.toNat, u2)
theorem A8 {c0 : Sl1Cur} {list0 : (List Int)} {v : (Int × Sl1Cur)} (h : Ay c0 list0 = some v) : Sm Try.prog A5 [(rP true (Ak false)) c0, (slr false 1 Ae) list0] (Ae v.1) 0 ((rP true (Ak false)) v.2) := by
 refine Oz Aae (Nat.le_of_ble_eq_true rfl) ?_
 unfold Ay at h
 conv => whnf
 refine Len.map ?_
 conv => whnf
 refine CallQ.io Ae (rP true (Ak false)) (by rfl) rfl (fun _ => rfl) (fun _ => ⟨rfl, rfl⟩) rfl h (fun r h => Aw h) (fun r1 u2 h => ?_)
 conv => whnf
 refine Len.map ?_
 conv => whnf
 refine Ask.o h fun p3 h => ?_
 conv => whnf
 refine Elem.o (by first | omega | (simp [Bh] at * <;> omega)) ?_
 conv => whnf
 cases h; exact ⟨(by rfl), (by rfl)⟩
noncomputable def Do (c0 : Sl1Cur) (n0 : Int) : Option (Bool × Sl1Cur) :=
 (Ap (c0) (n0)).bind fun (r1, u2) =>
 some (r1 == (0 : Int), u2)
theorem Jr {c0 : Sl1Cur} {n0 : Int} {v : (Bool × Sl1Cur)} (h : Do c0 n0 = some v) : Sm Try.prog Fn [(rP true (Ak false)) c0, Ae n0] (V.bool v.1) 0 ((rP true (Ak false)) v.2) := by
 refine Oz Adx (Nat.le_of_ble_eq_true rfl) ?_
 unfold Do at h
 conv => whnf
 refine CallQ.io Ae (rP true (Ak false)) (by rfl) rfl (fun _ => rfl) (fun _ => ⟨rfl, rfl⟩) rfl h (fun r h => Aw h) (fun r1 u2 h => ?_)
 conv => whnf
 cases h; exact ⟨(by rfl), (by rfl)⟩
noncomputable def De (n0 : Int) (_f0 : SOp) (places0 : List Int) (k0 : Int) : (Int × (List (List Int))) → Option ((Int × (List (List Int))) ⊕ (List (List Int))) := fun (x10, x9) =>
 if x10 < (↑places0.length : Int) then
 ask ((0 : Int) ≤ x10 ∧ x10 < (↑places0.length : Int)) <|
 (Ci (n0) (k0) (nth places0 x10.toNat)).bind fun r3 =>
 ask ((x9).length + ([r3]).length ≤ LIM) <|
 ask (InI (x10 + (1 : Int))) <|
 some (.inl (x10 + (1 : Int), x9 ++ [r3]))
 else
 some (.inr x9)
def Ku (n0 : Int) (f0 : SOp) (places0 : List Int) (k0 : Int) : (Int × (List (List Int))) → St := fun s => [(10, A.val (Ae s.1)), (9, A.val ((slr true 1 (slr true 1 Ae)) s.2)), (8, A.val ((rP true (Ai true)) ({ Arity := (0 : Int), Table := Ao Int }))), (5, A.val ((rP true (Ai false)) (f0))), (0, A.val (Ae (n0))), (2, A.val ((slr false 1 Ae) (places0))), (3, A.val (Ae (k0)))]
def Qs (n0 : Int) (f0 : SOp) (_places0 : List Int) (k0 : Int) : (List (List Int)) → Tgt
 | s => ((Ex.exit 0), [9, 8, 5, 0, 3], [(9, A.val ((slr true 1 (slr true 1 Ae)) s)), (8, A.val ((rP true (Ai true)) ({ Arity := (0 : Int), Table := Ao Int }))), (5, A.val ((rP true (Ai false)) (f0))), (0, A.val (Ae (n0))), (3, A.val (Ae (k0)))])
theorem Aaa {n0 : Int} {f0 : SOp} {places0 : List Int} {k0 : Int} (s : (Int × (List (List Int)))) (o : (Int × (List (List Int))) ⊕ (List (List Int))) (h : De n0 f0 places0 k0 s = some o) : vc Try.prog Pp (Dy [10, 9, 8, 5, 0, 2, 3] (Ku n0 f0 places0 k0) (Qs n0 f0 places0 k0) o) (Ku n0 f0 places0 k0 s) := by
 obtain ⟨x10, x9⟩ := s
 unfold De at h
 try dsimp only at h
 conv => whnf
 refine Len.map ?_
 conv => whnf
 refine Br.od h (fun p1 h => ?_) (fun p1 h => ?_)
 ·conv => whnf
  refine Len.map ?_
  conv => whnf
  refine Ask.o h fun p2 h => ?_
  conv => whnf
  refine Elem.o (by first | omega | (simp [Bh] at * <;> omega)) ?_
  conv => whnf
  refine CallQ.o (slr true 1 Ae) (by rfl) h (fun r h => Gi h) (fun r3 h => ?_)
  conv => whnf
  refine BslQ.o (slr true 1 Ae) [r3] (by exact fun _ => ⟨rfl, rfl⟩) (by rfl) ?_
  conv => whnf
  refine NoOwn.own rfl ?_
  conv => whnf
  refine AppQ.o (m := 1) (slr true 1 Ae) (by exact fun _ => ⟨rfl, rfl⟩) (x9) ([r3]) (by rfl) (by rfl) h fun h => ?_
  conv => whnf
  refine Ask.o h fun p4 h => ?_
  conv => whnf
  cases h; exact ⟨rfl, rfl⟩
 conv => whnf
 cases h; exact ⟨rfl, rfl⟩
noncomputable def Gg (n0 : Int) (f0 : SOp) (places0 : (List Int)) (k0 : Int) : Option SOp :=
 (Ar (De n0 f0 places0 k0) ((0 : Int), Ao (List Int))).bind fun q5_9 =>
 (Cj (n0) (k0)).bind fun r6 =>
 (Dw (n0) (f0) (q5_9) (r6)).bind fun r7 =>
 some ({ Arity := k0, Table := r7 })
theorem Vi {n0 : Int} {f0 : SOp} {places0 : (List Int)} {k0 : Int} {v : SOp} (h : Gg n0 f0 places0 k0 = some v) : Ret Try.prog Kp [Ae n0, (Ai false) f0, (slr false 1 Ae) places0, Ae k0] ((Ai true) v) := by
 refine Bg Aez (Nat.le_of_ble_eq_true rfl) ?_
 unfold Gg at h
 conv => whnf
 refine BslQ.o (slr true 1 Ae) (Ao (List Int)) (by exact fun _ => ⟨rfl, rfl⟩) (by rfl) ?_
 conv => whnf
 refine LoopQ.o [10, 9, 8, 5, 0, 2, 3] (Ku n0 f0 places0 k0) (Qs n0 f0 places0 k0) h (fun s o h => Aaa s o h) (by rfl) (fun _ => rfl) ?_
 rintro q5_9 h
 try dsimp only at h
 conv => whnf
 refine Cells.lit rfl rfl ?_
 conv => whnf
 refine CallP.o Ae (by rfl) h (fun r h => Gm h) (fun r6 h => ?_)
 conv => whnf
 refine CallP.rd (slr true 1 Ae) (by first | rfl | simp only [V.fz, fzL, V.up, Ab, Ad, slr] | simp [Aa, V.fz, fzL, V.up, upL, Ab, Ac, Ad, slr]) (fun _ => by simp [V.noFz, Be]) h (fun r h => Lz h) (fun r7 h => ?_)
 conv => whnf
 refine SetKids.lit rfl ?_
 conv => whnf
 cases h; exact (by rfl)
noncomputable def Gs (n0 : Int) (_ops0 : List SOp) (k0 : Int) : (Int × Sfound) → Option ((Int × Sfound) ⊕ Sfound) := fun (x9, x8) =>
 if x9 < k0 then
 (E1 (n0) (k0) (x9)).bind fun r2 =>
 (Dq (x8) (r2) ((-1 : Int)) ([x9])).bind fun (_r3, u4) =>
 ask (InI (x9 + (1 : Int))) <|
 some (.inl (x9 + (1 : Int), u4))
 else
 some (.inr x8)
def Lt (n0 : Int) (ops0 : List SOp) (k0 : Int) : (Int × Sfound) → St := fun s => [(9, A.val (Ae s.1)), (8, A.val ((rP true (Fd)) s.2)), (0, A.val (Ae (n0))), (1, A.val ((slr false 2 (Ai false)) (ops0))), (2, A.val (Ae (k0)))]
def Rf (n0 : Int) (ops0 : List SOp) (k0 : Int) : Sfound → Tgt
 | s => ((Ex.exit 0), [8, 0, 1, 2], [(8, A.val ((rP true (Fd)) s)), (0, A.val (Ae (n0))), (1, A.val ((slr false 2 (Ai false)) (ops0))), (2, A.val (Ae (k0)))])
theorem Abh {n0 : Int} {ops0 : List SOp} {k0 : Int} (s : (Int × Sfound)) (o : (Int × Sfound) ⊕ Sfound) (h : Gs n0 ops0 k0 s = some o) : vc Try.prog Rv (Dy [9, 8, 0, 1, 2] (Lt n0 ops0 k0) (Rf n0 ops0 k0) o) (Lt n0 ops0 k0 s) := by
 obtain ⟨x9, x8⟩ := s
 unfold Gs at h
 try dsimp only at h
 conv => whnf
 refine Br.od h (fun p1 h => ?_) (fun p1 h => ?_)
 ·conv => whnf
  refine CallQ.o (slr true 1 Ae) (by rfl) h (fun r h => Rg h) (fun r2 h => ?_)
  conv => whnf
  refine BslQ.o Ae [x9] (by exact fun _ => ⟨rfl, rfl⟩) (by rfl) ?_
  conv => whnf
  refine CallQ.io (fun r => V.tup []) (rP true (Fd)) (by first | rfl | (simp only [V.fz, slr]; done) | simp [Au, V.fz, fzL, Ab, slr]) rfl (fun _ => rfl) (fun _ => ⟨rfl, rfl⟩) rfl h (fun r h => Ts h) (fun r3 u4 h => ?_)
  conv => whnf
  refine Ask.o h fun p5 h => ?_
  conv => whnf
  cases h; exact ⟨rfl, rfl⟩
 conv => whnf
 cases h; exact ⟨rfl, rfl⟩
noncomputable def Dv (_n0 : Int) (_ops0 : List SOp) (_k0 : Int) (_x8 : Sfound) (_x48 : Int) (_x14 : Int) (x8'' : Sfound) (r13 : List Int) : (Int × (List (List Int))) → Option ((Int × (List (List Int))) ⊕ (List (List Int))) := fun (x71, x13') =>
 if x71 < (↑r13.length : Int) then
 ask ((0 : Int) ≤ x71 ∧ x71 < (↑r13.length : Int)) <|
 ask ((0 : Int) ≤ nth r13 x71.toNat ∧ nth r13 x71.toNat < (↑x8''.tables.length : Int)) <|
 ask ((0 : Int) ≤ x71 ∧ x71 < (↑x13'.length : Int)) <|
 ask (InI (x71 + (1 : Int))) <|
 some (.inl (x71 + (1 : Int), x13'.set x71.toNat (nth x8''.tables (nth r13 x71.toNat).toNat)))
 else
 some (.inr x13')
def L4 (n0 : Int) (ops0 : List SOp) (k0 : Int) (x8 : Sfound) (x48 : Int) (x14 : Int) (x8'' : Sfound) (r13 : List Int) : (Int × (List (List Int))) → St := fun s => [(71, A.val (Ae s.1)), (70, A.val (Ae ((↑r13.length : Int)))), (69, A.ref 15 []), (15, A.val ((slr true 1 Ae) (r13))), (13, A.val ((slr true 1 (slr false 1 Ae)) s.2)), (14, A.val (Ae (x14))), (11, A.val (Ae (x48))), (12, A.val ((rP true (Ai false)) (nth ops0 x48.toNat))), (48, A.val (Ae (x48))), (47, A.val (Ae ((↑ops0.length : Int)))), (46, A.val ((slr false 2 (Ai false)) (ops0))), (10, A.val (Ae ((↑x8.tables.length : Int)))), (8, A.val ((rP true (Fd)) (x8''))), (0, A.val (Ae (n0))), (1, A.val ((slr false 2 (Ai false)) (ops0))), (2, A.val (Ae (k0)))]
def Rz (n0 : Int) (ops0 : List SOp) (k0 : Int) (x8 : Sfound) (x48 : Int) (x14 : Int) (x8'' : Sfound) (r13 : List Int) : (List (List Int)) → Tgt
 | s => ((Ex.exit 8), [15, 13, 14, 11, 12, 48, 47, 46, 10, 8, 0, 1, 2], [(15, A.val ((slr true 1 Ae) (r13))), (13, A.val ((slr true 1 (slr false 1 Ae)) s)), (14, A.val (Ae (x14))), (11, A.val (Ae (x48))), (12, A.val ((rP true (Ai false)) (nth ops0 x48.toNat))), (48, A.val (Ae (x48))), (47, A.val (Ae ((↑ops0.length : Int)))), (46, A.val ((slr false 2 (Ai false)) (ops0))), (10, A.val (Ae ((↑x8.tables.length : Int)))), (8, A.val ((rP true (Fd)) (x8''))), (0, A.val (Ae (n0))), (1, A.val ((slr false 2 (Ai false)) (ops0))), (2, A.val (Ae (k0)))])
theorem Aba {n0 : Int} {ops0 : List SOp} {k0 : Int} {x8 : Sfound} {x48 : Int} {x14 : Int} {x8'' : Sfound} {r13 : List Int} (s : (Int × (List (List Int)))) (o : (Int × (List (List Int))) ⊕ (List (List Int))) (h : Dv n0 ops0 k0 x8 x48 x14 x8'' r13 s = some o) : vc Try.prog R5 (Dy [71, 70, 69, 15, 13, 14, 11, 12, 48, 47, 46, 10, 8, 0, 1, 2] (L4 n0 ops0 k0 x8 x48 x14 x8'' r13) (Rz n0 ops0 k0 x8 x48 x14 x8'' r13) o) (L4 n0 ops0 k0 x8 x48 x14 x8'' r13 s) := by
 obtain ⟨x71, x13'⟩ := s
 unfold Dv at h
 try dsimp only at h
 conv => whnf
 refine Br.od h (fun p14 h => ?_) (fun p14 h => ?_)
 ·conv => whnf
  refine Len.map ?_
  conv => whnf
  refine Ask.o h fun p15 h => ?_
  conv => whnf
  refine Cells.one (fun _ => ⟨rfl, rfl⟩) (by first | omega | (simp [Bh] at * <;> omega)) ?_
  conv => whnf
  refine Cells.lit rfl rfl ?_
  conv => whnf
  refine Kid.lit rfl rfl ?_
  conv => whnf
  refine Len.map ?_
  conv => whnf
  refine Ask.o h fun p16 h => ?_
  conv => whnf
  refine Kid.lit rfl rfl ?_
  conv => whnf
  refine Cells.one (fun _ => ⟨rfl, rfl⟩) (by first | omega | (simp [Bh] at * <;> omega)) ?_
  conv => whnf
  refine Len.map ?_
  conv => whnf
  refine Ask.o h fun p17 h => ?_
  conv => whnf
  refine SetKids.one (fun _ => ⟨rfl, rfl⟩) (nth x8''.tables (nth r13 x71.toNat).toNat) (by rfl) (by first | omega | (simp [Bh] at * <;> omega)) ?_
  conv => whnf
  refine Ask.o h fun p18 h => ?_
  conv => whnf
  cases h; exact ⟨rfl, rfl⟩
 conv => whnf
 cases h; exact ⟨rfl, rfl⟩
noncomputable def E3 (n0 : Int) (ops0 : List SOp) (k0 : Int) (x8 : Sfound) (x48 : Int) : ((List (List Int)) × Int × Sfound) → Option (((List (List Int)) × Int × Sfound) ⊕ (Unit ⊕ Sfound)) := fun (x13, x14, x8'') =>
 (Ck ((↑x8.tables.length : Int)) ((nth ops0 x48.toNat).Arity)).bind fun r11 =>
 if x14 < r11 then
 (Gw (x14) ((nth ops0 x48.toNat).Arity) ((↑x8.tables.length : Int))).bind fun r13 =>
 (Ar (Dv n0 ops0 k0 x8 x48 x14 x8'' r13) ((0 : Int), x13)).bind fun q19_13 =>
 (Ck (n0) (k0)).bind fun r20 =>
 (Dh (n0) (nth ops0 x48.toNat) (q19_13) (r20)).bind fun r21 =>
 (Dq (x8'') (r21) (x48) (r13)).bind fun (_r22, u23) =>
 if (↑u23.tables.length : Int) > (60 : Int) then
 some (.inr (.inl ()))
 else
 ask (InI (x14 + (1 : Int))) <|
 some (.inl (q19_13, x14 + (1 : Int), u23))
 else
 some (.inr (.inr x8''))
def Lq (n0 : Int) (ops0 : List SOp) (k0 : Int) (x8 : Sfound) (x48 : Int) : ((List (List Int)) × Int × Sfound) → St := fun s => [(13, A.val ((slr true 1 (slr false 1 Ae)) s.1)), (14, A.val (Ae s.2.1)), (11, A.val (Ae (x48))), (12, A.val ((rP true (Ai false)) (nth ops0 x48.toNat))), (48, A.val (Ae (x48))), (47, A.val (Ae ((↑ops0.length : Int)))), (46, A.val ((slr false 2 (Ai false)) (ops0))), (10, A.val (Ae ((↑x8.tables.length : Int)))), (8, A.val ((rP true (Fd)) s.2.2)), (0, A.val (Ae (n0))), (1, A.val ((slr false 2 (Ai false)) (ops0))), (2, A.val (Ae (k0)))]
def Rb (n0 : Int) (ops0 : List SOp) (k0 : Int) (x8 : Sfound) (x48 : Int) : (Unit ⊕ Sfound) → Tgt
 | (.inl _s) => (Ex.ret, [7, 6], [(7, A.val (V.bool (false))), (6, A.val V.nilp.up)])
 | (.inr s) => ((Ex.exit 6), [48, 47, 46, 10, 8, 0, 1, 2], [(48, A.val (Ae (x48))), (47, A.val (Ae ((↑ops0.length : Int)))), (46, A.val ((slr false 2 (Ai false)) (ops0))), (10, A.val (Ae ((↑x8.tables.length : Int)))), (8, A.val ((rP true (Fd)) s)), (0, A.val (Ae (n0))), (1, A.val ((slr false 2 (Ai false)) (ops0))), (2, A.val (Ae (k0)))])
theorem Abe {n0 : Int} {ops0 : List SOp} {k0 : Int} {x8 : Sfound} {x48 : Int} (s : ((List (List Int)) × Int × Sfound)) (o : ((List (List Int)) × Int × Sfound) ⊕ (Unit ⊕ Sfound)) (h : E3 n0 ops0 k0 x8 x48 s = some o) : vc Try.prog R4 (Dy [13, 14, 11, 12, 48, 47, 46, 10, 8, 0, 1, 2] (Lq n0 ops0 k0 x8 x48) (Rb n0 ops0 k0 x8 x48) o) (Lq n0 ops0 k0 x8 x48 s) := by
 obtain ⟨x13, x14, x8''⟩ := s
 unfold E3 at h
 try dsimp only at h
 conv => whnf
 refine Cells.lit rfl rfl ?_
 conv => whnf
 refine CallQ.o Ae (by rfl) h (fun r h => Gq h) (fun r11 h => ?_)
 conv => whnf
 refine Br.od h (fun p12 h => ?_) (fun p12 h => ?_)
 ·conv => whnf
  refine Cells.lit rfl rfl ?_
  conv => whnf
  refine CallQ.o (slr true 1 Ae) (by rfl) h (fun r h => Sx h) (fun r13 h => ?_)
  conv => whnf
  refine Len.map ?_
  conv => whnf
  refine LoopQ.o [71, 70, 69, 15, 13, 14, 11, 12, 48, 47, 46, 10, 8, 0, 1, 2] (L4 n0 ops0 k0 x8 x48 x14 x8'' r13) (Rz n0 ops0 k0 x8 x48 x14 x8'' r13) h (fun s o h => Aba s o h) (by rfl) (fun _ => rfl) ?_
  rintro q19_13 h
  try dsimp only at h
  conv => whnf
  refine FrzQ.d (V.sl false (1 : Nat) (List.map Ae r13)) (by first | (simp only [slr]; done) | (simp [Au, V.fz, Ab, slr]; done) | (simp [Au, V.fz, fzL, Ab, slr]; done)) ?_
  conv => whnf
  refine Cells.lit rfl rfl ?_
  conv => whnf
  refine CallP.o Ae (by rfl) h (fun r h => Gq h) (fun r20 h => ?_)
  conv => whnf
  refine CallP.rd (slr true 1 Ae) (by first | rfl | simp only [V.fz, fzL, V.up, Ab, Ad, slr] | simp [Aa, V.fz, fzL, V.up, upL, Ab, Ac, Ad, slr]) (fun _ => by simp [V.noFz, Be]) h (fun r h => Nc h) (fun r21 h => ?_)
  conv => whnf
  refine CallQ.io (fun r => V.tup []) (rP true (Fd)) (by first | rfl | (simp only [slr]; done) | simp [Au, V.fz, V.up, Ab, Ad, slr]) rfl (fun _ => rfl) (fun _ => ⟨rfl, rfl⟩) rfl h (fun r h => Ts h) (fun r22 u23 h => ?_)
  conv => whnf
  refine Cells.lit rfl rfl ?_
  conv => whnf
  refine Kid.lit rfl rfl ?_
  conv => whnf
  refine Len.map ?_
  conv => whnf
  refine Br.od h (fun p24 h => ?_) (fun p24 h => ?_)
  ·conv => whnf
   cases h; exact ⟨rfl, rfl⟩
  conv => whnf
  refine Ask.o h fun p25 h => ?_
  conv => whnf
  cases h; exact ⟨rfl, rfl⟩
 conv => whnf
 cases h; exact ⟨rfl, rfl⟩
noncomputable def E4 (n0 : Int) (ops0 : List SOp) (k0 : Int) (x8 : Sfound) : (Int × Sfound) → Option ((Int × Sfound) ⊕ (Unit ⊕ Sfound)) := fun (x48, x8') =>
 if x48 < (↑ops0.length : Int) then
 ask ((0 : Int) ≤ x48 ∧ x48 < (↑ops0.length : Int)) <|
 ask ((0 : Int) ≤ (nth ops0 x48.toNat).Arity ∧ (nth ops0 x48.toNat).Arity ≤ (↑LIM : Int)) <|
 (Ar (E3 n0 ops0 k0 x8 x48) (List.replicate (nth ops0 x48.toNat).Arity.toNat (Ao Int), (0 : Int), x8')).bind fun t => match t with
 | (.inl _) => (some (.inr (.inl ())))
 | (.inr q26_8) => (ask (InI (x48 + (1 : Int))) <|
 some (.inl (x48 + (1 : Int), q26_8)))
 else
 some (.inr (.inr x8'))
def Lk (n0 : Int) (ops0 : List SOp) (k0 : Int) (x8 : Sfound) : (Int × Sfound) → St := fun s => [(48, A.val (Ae s.1)), (47, A.val (Ae ((↑ops0.length : Int)))), (46, A.val ((slr false 2 (Ai false)) (ops0))), (10, A.val (Ae ((↑x8.tables.length : Int)))), (8, A.val ((rP true (Fd)) s.2)), (0, A.val (Ae (n0))), (1, A.val ((slr false 2 (Ai false)) (ops0))), (2, A.val (Ae (k0)))]
def Rs (n0 : Int) (ops0 : List SOp) (k0 : Int) (x8 : Sfound) : (Unit ⊕ Sfound) → Tgt
 | (.inl _s) => (Ex.ret, [7, 6], [(7, A.val (V.bool (false))), (6, A.val V.nilp.up)])
 | (.inr s) => ((Ex.exit 4), [10, 8, 0, 1, 2], [(10, A.val (Ae ((↑x8.tables.length : Int)))), (8, A.val ((rP true (Fd)) s)), (0, A.val (Ae (n0))), (1, A.val ((slr false 2 (Ai false)) (ops0))), (2, A.val (Ae (k0)))])
theorem Acb {n0 : Int} {ops0 : List SOp} {k0 : Int} {x8 : Sfound} (s : (Int × Sfound)) (o : (Int × Sfound) ⊕ (Unit ⊕ Sfound)) (h : E4 n0 ops0 k0 x8 s = some o) : vc Try.prog Rt (Dy [48, 47, 46, 10, 8, 0, 1, 2] (Lk n0 ops0 k0 x8) (Rs n0 ops0 k0 x8) o) (Lk n0 ops0 k0 x8 s) := by
 obtain ⟨x48, x8'⟩ := s
 unfold E4 at h
 try dsimp only at h
 conv => whnf
 refine Br.od h (fun p8 h => ?_) (fun p8 h => ?_)
 ·conv => whnf
  refine Len.map ?_
  conv => whnf
  refine Ask.o h fun p9 h => ?_
  conv => whnf
  refine Elem.o (by first | omega | (simp [Bh] at * <;> omega)) ?_
  conv => whnf
  refine SetKids.lit rfl ?_
  conv => whnf
  refine Cells.lit rfl rfl ?_
  conv => whnf
  refine Ask.o h fun p10 h => ?_
  conv => whnf
  refine MkQ.o (slr true 1 Ae) (Ao Int) rfl ?_
  conv => whnf
  refine FrzQ.d (V.sl true (1 : Nat) (List.map (slr false (1 : Nat) Ae) (List.replicate (nth ops0 x48.toNat).Arity.toNat (Ao Int)))) (by first | (simp only [V.fzAt, M1, Ab]; done) | exact Eq.trans (b := V.sl true (1 : Nat) (List.map (slr false (1 : Nat) Ae) (List.replicate (nth ops0 x48.toNat).Arity.toNat (Ao Int)))) rfl (by simp only [Ac])) ?_
  conv => whnf
  refine LoopQ.o [13, 14, 11, 12, 48, 47, 46, 10, 8, 0, 1, 2] (Lq n0 ops0 k0 x8 x48) (Rb n0 ops0 k0 x8 x48) h (fun s o h => Abe s o h) (by rfl) (by rintro (_ | _) <;> rfl) ?_
  rintro (⟨⟩ | q26_8) h
  ·try dsimp only at h
   conv => whnf
   cases h; exact ⟨rfl, rfl⟩
  try dsimp only at h
  conv => whnf
  refine Ask.o h fun p27 h => ?_
  conv => whnf
  cases h; exact ⟨rfl, rfl⟩
 conv => whnf
 cases h; exact ⟨rfl, rfl⟩
noncomputable def Bl (n0 : Int) (ops0 : List SOp) (k0 : Int) : (Int × Sfound) → Option ((Int × Sfound) ⊕ (Unit ⊕ Sfound)) := fun (x10, x8) =>
 if x10 < (↑x8.tables.length : Int) then
 (Ar (E4 n0 ops0 k0 x8) ((0 : Int), x8)).bind fun t => match t with
 | (.inl _) => (some (.inr (.inl ())))
 | (.inr q28_8) => (some (.inl ((↑x8.tables.length : Int), q28_8)))
 else
 some (.inr (.inr x8))
def Lo (n0 : Int) (ops0 : List SOp) (k0 : Int) : (Int × Sfound) → St := fun s => [(10, A.val (Ae s.1)), (8, A.val ((rP true (Fd)) s.2)), (0, A.val (Ae (n0))), (1, A.val ((slr false 2 (Ai false)) (ops0))), (2, A.val (Ae (k0)))]
def Rk (_n0 : Int) (_ops0 : List SOp) (_k0 : Int) : (Unit ⊕ Sfound) → Tgt
 | (.inl _s) => (Ex.ret, [7, 6], [(7, A.val (V.bool (false))), (6, A.val V.nilp.up)])
 | (.inr s) => ((Ex.exit 2), [8], [(8, A.val ((rP true (Fd)) s))])
theorem Abc {n0 : Int} {ops0 : List SOp} {k0 : Int} (s : (Int × Sfound)) (o : (Int × Sfound) ⊕ (Unit ⊕ Sfound)) (h : Bl n0 ops0 k0 s = some o) : vc Try.prog R6 (Dy [10, 8, 0, 1, 2] (Lo n0 ops0 k0) (Rk n0 ops0 k0) o) (Lo n0 ops0 k0 s) := by
 obtain ⟨x10, x8⟩ := s
 unfold Bl at h
 try dsimp only at h
 conv => whnf
 refine Cells.lit rfl rfl ?_
 conv => whnf
 refine Kid.lit rfl rfl ?_
 conv => whnf
 refine Len.map ?_
 conv => whnf
 refine Br.od h (fun p7 h => ?_) (fun p7 h => ?_)
 ·conv => whnf
  refine Cells.lit rfl rfl ?_
  conv => whnf
  refine Kid.lit rfl rfl ?_
  conv => whnf
  refine Len.map ?_
  conv => whnf
  refine Len.map ?_
  conv => whnf
  refine LoopQ.o [48, 47, 46, 10, 8, 0, 1, 2] (Lk n0 ops0 k0 x8) (Rs n0 ops0 k0 x8) h (fun s o h => Acb s o h) (by rfl) (by rintro (_ | _) <;> rfl) ?_
  rintro (⟨⟩ | q28_8) h
  ·try dsimp only at h
   conv => whnf
   cases h; exact ⟨rfl, rfl⟩
  try dsimp only at h
  conv => whnf
  cases h; exact ⟨rfl, rfl⟩
 conv => whnf
 cases h; exact ⟨rfl, rfl⟩
noncomputable def Hk (n0 : Int) (ops0 : (List SOp)) (k0 : Int) : Option ((Option Sfound) × Bool) :=
 (Ar (Gs n0 ops0 k0) ((0 : Int), { tables := Ao (List Int), steps := Ao SCloneStep, seen := Ao (ByteArray × Bool) })).bind fun q6_8 =>
 (Ar (Bl n0 ops0 k0) ((-1 : Int), q6_8)).bind fun t => match t with
 | (.inl _) => (some (none, false))
 | (.inr q29_8) => (some (some q29_8, true))
theorem Af9 {n0 : Int} {ops0 : (List SOp)} {k0 : Int} {v : ((Option Sfound) × Bool)} (h : Hk n0 ops0 k0 = some v) : Ret Try.prog Pq [Ae n0, (slr false 2 (Ai false)) ops0, Ae k0] ((fun r => V.tup [(rO false (Ee false)) r.1, V.bool r.2]) v) := by
 refine Abj Agg (Nat.le_of_ble_eq_true rfl) ?_
 unfold Hk at h
 conv => whnf
 refine LoopQ.o [9, 8, 0, 1, 2] (Lt n0 ops0 k0) (Rf n0 ops0 k0) h (fun s o h => Abh s o h) (by rfl) (fun _ => rfl) ?_
 rintro q6_8 h
 try dsimp only at h
 conv => whnf
 refine LoopQ.o [10, 8, 0, 1, 2] (Lo n0 ops0 k0) (Rk n0 ops0 k0) h (fun s o h => Abc s o h) (by rfl) (by rintro (_ | _) <;> rfl) ?_
 rintro (⟨⟩ | q29_8) h
 ·try dsimp only at h
  conv => whnf
  cases h; exact (by rfl)
 try dsimp only at h
 conv => whnf
 cases h; exact (by first | rfl | simp only [Ag, V.fz, fzL, V.up, Ab] | simp [Ag, Aa, V.fz, fzL, V.up, upL, Ab, Ac, Ad, slr])
noncomputable def G0 (f0 : Sl12Find) (table0 : (List Int)) (step0 : SCloneStep) : Option Sl12Find :=
 ((if (f0.large) = true then
 some (.inl ())
 else
 (D9 (f0.tables) (table0)).bind fun r2 =>
 if r2 ≥ (0 : Int) then
 some (.inl ())
 else
 some (.inr ()) : Option (Unit ⊕ Unit))).bind fun t => match t with
 | (.inl _) => (some f0)
 | (.inr _) => (if (↑f0.tables.length : Int) = (60 : Int) then
 some ({ tables := f0.tables, steps := f0.steps, large := true })
 else
 ask ((f0.tables).length + ([table0]).length ≤ LIM) <|
 ask ((f0.steps).length + ([step0]).length ≤ LIM) <|
 some ({ tables := f0.tables ++ [table0], steps := f0.steps ++ [step0], large := f0.large }))
theorem Zb {f0 : Sl12Find} {table0 : (List Int)} {step0 : SCloneStep} {v : Sl12Find} (h : G0 f0 table0 step0 = some v) : Sm Try.prog M8 [(Am) f0, (slr false 1 Ae) table0, (Aj false) step0] ((Am) v) 0 (V.agg (List.replicate 3 V.dead)) := by
 refine Aoj rfl rfl Aix (Nat.le_of_ble_eq_true rfl) ?_
 unfold G0 at h
 conv => whnf
 refine CutQ.o (fun t : (Unit ⊕ Unit) => match t with | (.inl s) => (Ex.ret, [6], [(6, A.val ((rP true (Am)) (f0)))]) | (.inr s) => (Ex.normal, [6, 5, 3, 1], [(6, A.val ((rP true (Am)) ({ tables := Ao (List Int), steps := Ao SCloneStep, large := false }))), (5, A.val ((rP true (Aj false)) (step0))), (3, A.val ((rP true (Am)) (f0))), (1, A.val ((slr false 1 Ae) (table0)))])) h ?_ ?_
 ·intro t h
  conv => whnf
  refine Cells.lit rfl rfl ?_
  conv => whnf
  refine Br.ob h (fun p1 h => ?_) (fun p1 h => ?_)
  ·conv => whnf
   refine Br.yes ?_
   conv => whnf
   refine Br.yes ?_
   conv => whnf
   refine Br.yes ?_
   conv => whnf
   refine Br.yes ?_
   conv => whnf
   refine Br.yes ?_
   conv => whnf
   refine Br.yes ?_
   conv => whnf
   refine Cells.lit rfl rfl ?_
   conv => whnf
   refine SetKids.lit rfl ?_
   conv => whnf
   cases h; exact ⟨rfl, rfl⟩
  conv => whnf
  refine Br.no ?_
  conv => whnf
  refine Cells.lit rfl rfl ?_
  conv => whnf
  refine Br.no ?_
  conv => whnf
  refine Br.no ?_
  conv => whnf
  refine Kid.lit rfl rfl ?_
  conv => whnf
  refine CallQ.rd Ae (by first | rfl | simp only [V.fz, V.up, Ab, slr] | simp [Aa, V.fz, fzL, V.up, upL, Ab, Ac, Ad, slr]) (fun _ => rfl) h (fun r h => Vw h) (fun r2 h => ?_)
  conv => whnf
  refine Br.no ?_
  conv => whnf
  refine Br.no ?_
  conv => whnf
  refine Br.od h (fun p3 h => ?_) (fun p3 h => ?_)
  ·conv => whnf
   refine Cells.lit rfl rfl ?_
   conv => whnf
   refine SetKids.lit rfl ?_
   conv => whnf
   cases h; exact ⟨rfl, rfl⟩
  conv => whnf
  cases h; exact ⟨rfl, rfl⟩
 rintro (⟨⟩ | ⟨⟩) h
 ·try dsimp only at h
  conv => whnf
  cases h; exact (by rfl)
 try dsimp only at h
 conv => whnf
 refine Cells.lit rfl rfl ?_
 conv => whnf
 refine Kid.lit rfl rfl ?_
 conv => whnf
 refine Len.map ?_
 conv => whnf
 refine Br.oe h (fun p5 h => ?_) (fun p5 h => ?_)
 ·conv => whnf
  refine SetKids.lit rfl ?_
  conv => whnf
  refine Cells.lit rfl rfl ?_
  conv => whnf
  refine SetKids.lit rfl ?_
  conv => whnf
  cases h; exact (by rfl)
 conv => whnf
 refine Cells.lit rfl rfl ?_
 conv => whnf
 refine BslQ.o (slr false 1 Ae) [table0] (by exact fun _ => ⟨rfl, rfl⟩) (by rfl) ?_
 conv => whnf
 refine NoOwn.o (fun _ => rfl) ?_
 conv => whnf
 refine Kid.lit rfl rfl ?_
 conv => whnf
 refine Kid.lit rfl rfl ?_
 conv => whnf
 refine SetKids.lit rfl ?_
 conv => whnf
 refine AppQ.o (m := 1) (slr false 1 Ae) (by exact fun _ => ⟨rfl, rfl⟩) (f0.tables) ([table0]) (by rfl) (by rfl) h fun h => ?_
 conv => whnf
 refine SetKids.lit rfl ?_
 conv => whnf
 refine Cells.lit rfl rfl ?_
 conv => whnf
 refine Cells.lit rfl rfl ?_
 conv => whnf
 refine BslQ.o (Aj false) [step0] (by exact fun _ => ⟨rfl, rfl⟩) (by rfl) ?_
 conv => whnf
 refine NoOwn.o (fun _ => rfl) ?_
 conv => whnf
 refine Kid.lit rfl rfl ?_
 conv => whnf
 refine Kid.lit rfl rfl ?_
 conv => whnf
 refine SetKids.lit rfl ?_
 conv => whnf
 refine AppQ.o (m := 2) (Aj false) (by exact fun _ => ⟨rfl, rfl⟩) (f0.steps) ([step0]) (by rfl) (by rfl) h fun h => ?_
 conv => whnf
 refine SetKids.lit rfl ?_
 conv => whnf
 refine Cells.lit rfl rfl ?_
 conv => whnf
 refine SetKids.lit rfl ?_
 conv => whnf
 cases h; exact (by rfl)
noncomputable def Je (n0 : Int) (f0 : SOp) (places0 : (List Int)) (k0 : Int) : Option (SOp × Bool) :=
 (C8 (n0)).bind fun r1 =>
 if (r1) = true then
 (C5 (n0) (f0)).bind fun r3 =>
 if (r3) = true then
 if (↑places0.length : Int) ≠ f0.Arity then
 some ({ Arity := (0 : Int), Table := Ao Int }, false)
 else
 (Ey (k0) ((1 : Int)) ((3 : Int))).bind fun r6 =>
 if (r6) = true then
 (Gr (k0) (places0)).bind fun r8 =>
 if (r8) = true then
 (Gg (n0) (f0) (places0) (k0)).bind fun r10 =>
 some (r10, true)
 else
 some ({ Arity := (0 : Int), Table := Ao Int }, false)
 else
 some ({ Arity := (0 : Int), Table := Ao Int }, false)
 else
 some ({ Arity := (0 : Int), Table := Ao Int }, false)
 else
 some ({ Arity := (0 : Int), Table := Ao Int }, false)
theorem Ag6 {n0 : Int} {f0 : SOp} {places0 : (List Int)} {k0 : Int} {v : (SOp × Bool)} (h : Je n0 f0 places0 k0 = some v) : Ret Try.prog Qv [Ae n0, (Ai false) f0, (slr false 1 Ae) places0, Ae k0] ((fun r => V.tup [(Ai true) r.1, V.bool r.2]) v) := by
 refine Bg Aib (Nat.le_of_ble_eq_true rfl) ?_
 unfold Je at h
 conv => whnf
 refine CallQ.o V.bool (by rfl) h (fun r h => I3 h) (fun r1 h => ?_)
 conv => whnf
 refine Br.flip ?_
 conv => whnf
 refine Br.ob h (fun p2 h => ?_) (fun p2 h => ?_)
 ·conv => whnf
  refine Br.no ?_
  conv => whnf
  refine Cells.lit rfl rfl ?_
  conv => whnf
  refine Br.no ?_
  conv => whnf
  refine CallQ.o V.bool (by rfl) h (fun r h => Hn h) (fun r3 h => ?_)
  conv => whnf
  refine Br.no ?_
  conv => whnf
  refine Br.no ?_
  conv => whnf
  refine Br.flip ?_
  conv => whnf
  refine Br.ob h (fun p4 h => ?_) (fun p4 h => ?_)
  ·conv => whnf
   refine Br.no ?_
   conv => whnf
   refine Len.map ?_
   conv => whnf
   refine Br.no ?_
   conv => whnf
   refine Br.no ?_
   conv => whnf
   refine Cells.lit rfl rfl ?_
   conv => whnf
   refine Br.no ?_
   conv => whnf
   refine Br.no ?_
   conv => whnf
   refine Br.on h (fun p5 h => ?_) (fun p5 h => ?_)
   ·conv => whnf
    refine Br.yes ?_
    conv => whnf
    refine Br.yes ?_
    conv => whnf
    refine Br.yes ?_
    conv => whnf
    refine Br.yes ?_
    conv => whnf
    refine Br.yes ?_
    conv => whnf
    refine Br.yes ?_
    conv => whnf
    refine Br.yes ?_
    conv => whnf
    refine Br.yes ?_
    conv => whnf
    refine Br.yes ?_
    conv => whnf
    refine SetKids.lit rfl ?_
    conv => whnf
    cases h; exact (by rfl)
   conv => whnf
   refine Br.no ?_
   conv => whnf
   refine CallQ.o V.bool (by rfl) h (fun r h => I0 h) (fun r6 h => ?_)
   conv => whnf
   refine Br.no ?_
   conv => whnf
   refine Br.no ?_
   conv => whnf
   refine Br.flip ?_
   conv => whnf
   refine Br.ob h (fun p7 h => ?_) (fun p7 h => ?_)
   ·conv => whnf
    refine Br.no ?_
    conv => whnf
    refine Br.no ?_
    conv => whnf
    refine CallQ.o V.bool (by rfl) h (fun r h => Abx h) (fun r8 h => ?_)
    conv => whnf
    refine Br.no ?_
    conv => whnf
    refine Br.no ?_
    conv => whnf
    refine Br.flip ?_
    conv => whnf
    refine Br.ob h (fun p9 h => ?_) (fun p9 h => ?_)
    ·conv => whnf
     refine Cells.lit rfl rfl ?_
     conv => whnf
     refine CallQ.o (Ai true) (by rfl) h (fun r h => Vi h) (fun r10 h => ?_)
     conv => whnf
     refine SetKids.lit rfl ?_
     conv => whnf
     cases h; exact (by rfl)
    conv => whnf
    refine SetKids.lit rfl ?_
    conv => whnf
    cases h; exact (by rfl)
   conv => whnf
   refine Br.yes ?_
   conv => whnf
   refine Br.yes ?_
   conv => whnf
   refine Br.yes ?_
   conv => whnf
   refine Br.yes ?_
   conv => whnf
   refine Br.yes ?_
   conv => whnf
   refine SetKids.lit rfl ?_
   conv => whnf
   cases h; exact (by rfl)
  conv => whnf
  refine Br.yes ?_
  conv => whnf
  refine Br.yes ?_
  conv => whnf
  refine Br.yes ?_
  conv => whnf
  refine Br.yes ?_
  conv => whnf
  refine Br.yes ?_
  conv => whnf
  refine Br.yes ?_
  conv => whnf
  refine Br.yes ?_
  conv => whnf
  refine Br.yes ?_
  conv => whnf
  refine Br.yes ?_
  conv => whnf
  refine Br.yes ?_
  conv => whnf
  refine Br.yes ?_
  conv => whnf
  refine Br.yes ?_
  conv => whnf
  refine Br.yes ?_
  conv => whnf
  refine Br.yes ?_
  conv => whnf
  refine Br.yes ?_
  conv => whnf
  refine SetKids.lit rfl ?_
  conv => whnf
  cases h; exact (by rfl)
 conv => whnf
 refine Br.yes ?_
 conv => whnf
 refine Br.yes ?_
 conv => whnf
 refine Br.yes ?_
 conv => whnf
 refine Br.yes ?_
 conv => whnf
 refine Br.yes ?_
 conv => whnf
 refine Br.yes ?_
 conv => whnf
 refine Br.yes ?_
 conv => whnf
 refine Br.yes ?_
 conv => whnf
 refine Br.yes ?_
 conv => whnf
 refine Br.yes ?_
 conv => whnf
 refine Br.yes ?_
 conv => whnf
 refine Br.yes ?_
 conv => whnf
 refine Br.yes ?_
 conv => whnf
 refine Br.yes ?_
 conv => whnf
 refine Br.yes ?_
 conv => whnf
 refine Br.yes ?_
 conv => whnf
 refine Br.yes ?_
 conv => whnf
 refine Br.yes ?_
 conv => whnf
 refine Br.yes ?_
 conv => whnf
 refine Br.yes ?_
 conv => whnf
 refine SetKids.lit rfl ?_
 conv => whnf
 cases h; exact (by rfl)
end Go.Proofs.Ytoaojijoefljaaa.Ax
