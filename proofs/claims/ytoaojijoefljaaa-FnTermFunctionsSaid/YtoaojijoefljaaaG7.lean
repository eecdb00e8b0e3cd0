/-
 What the functions compute, as functions on plain data, and that the program does compute it; written by program.
-/
import Derived.Test.YtoaojijoefljaaaCode
import Derived.Test.YtoaojijoefljaaaG1
import Derived.Test.YtoaojijoefljaaaG2
import Derived.Test.YtoaojijoefljaaaG3
import Derived.Test.YtoaojijoefljaaaG5
import Derived.Test.YtoaojijoefljaaaG6
namespace Go.Proofs.Ytoaojijoefljaaa.Ax
open Go
set_option maxRecDepth 100000
set_option maxHeartbeats 4000000
noncomputable def Fv (n0 : Int) (_ops0 : List SOp) (k0 : Int) : (Int × Sfound) → Option ((Int × Sfound) ⊕ Sfound) := fun (x9, x8) =>
 if x9 < k0 then
 (Dh (n0) (k0) (x9)).bind fun r2 =>
 (Dc (x8) (r2) ((-1 : Int)) ([x9])).bind fun (_r3, u4) =>
 ask (InI (x9 + (1 : Int))) <|
 some (.inl (x9 + (1 : Int), u4))
 else
 some (.inr x8)
def Ke (n0 : Int) (ops0 : List SOp) (k0 : Int) : (Int × Sfound) → St := fun s => [(9, A.val (Ae s.1)), (8, A.val ((rP true (Et)) s.2)), (0, A.val (Ae (n0))), (1, A.val ((slr false 2 (Ak false)) (ops0))), (2, A.val (Ae (k0)))]
def Pp (n0 : Int) (ops0 : List SOp) (k0 : Int) : Sfound → Tgt
 | s => ((Ex.exit 0), [8, 0, 1, 2], [(8, A.val ((rP true (Et)) s)), (0, A.val (Ae (n0))), (1, A.val ((slr false 2 (Ak false)) (ops0))), (2, A.val (Ae (k0)))])
theorem Ze {n0 : Int} {ops0 : List SOp} {k0 : Int} (s : (Int × Sfound)) (o : (Int × Sfound) ⊕ Sfound) (h : Fv n0 ops0 k0 s = some o) : vc Try.prog P3 (Ef [9, 8, 0, 1, 2] (Ke n0 ops0 k0) (Pp n0 ops0 k0) o) (Ke n0 ops0 k0 s) := by
 obtain ⟨x9, x8⟩ := s
 unfold Fv at h
 try dsimp only at h
 conv => whnf
 refine Br.od h (fun p1 h => ?_) (fun p1 h => ?_)
 ·conv => whnf
  refine CallQ.o (slr true 1 Ae) (by first | rfl | simp only [Aa, V.fz, fzL, V.up, upL, Ab, Ac, Ad, slr, List.cons_append, List.nil_append] | simp [Aa, V.fz, fzL, V.up, upL, Ab, Ac, Ad, slr]) h (fun r h => K4 h) (fun r2 h => ?_)
  conv => whnf
  refine BslQ.o Ae [x9] (by exact fun _ => ⟨rfl, rfl⟩) (by first | rfl | simp only [Aa, V.fz, fzL, V.up, upL, Ab, Ac, Ad, slr, List.cons_append, List.nil_append] | simp [Aa, V.fz, fzL, V.up, upL, Ab, Ac, Ad, slr]) ?_
  conv => whnf
  refine CallQ.io (fun r => V.tup []) (rP true (Et)) (by first | rfl | (simp only [V.fz, slr]; done) | simp [Aq, V.fz, fzL, Ab, slr]) rfl (fun _ => rfl) (fun _ => ⟨rfl, rfl⟩) rfl h (fun r h => Qv h) (fun r3 u4 h => ?_)
  conv => whnf
  refine Ask.o h fun p5 h => ?_
  conv => whnf
  cases h; exact ⟨rfl, rfl⟩
 conv => whnf
 cases h; exact ⟨rfl, rfl⟩
noncomputable def Df (_n0 : Int) (_ops0 : List SOp) (_k0 : Int) (_x8 : Sfound) (_x48 : Int) (_x14 : Int) (x8'' : Sfound) (r13 : List Int) : (Int × (List (List Int))) → Option ((Int × (List (List Int))) ⊕ (List (List Int))) := fun (x71, x13') =>
 if x71 < (↑r13.length : Int) then
 ask ((0 : Int) ≤ x71 ∧ x71 < (↑r13.length : Int)) <|
 ask ((0 : Int) ≤ nth r13 x71.toNat ∧ nth r13 x71.toNat < (↑x8''.tables.length : Int)) <|
 ask ((0 : Int) ≤ x71 ∧ x71 < (↑x13'.length : Int)) <|
 ask (InI (x71 + (1 : Int))) <|
 some (.inl (x71 + (1 : Int), x13'.set x71.toNat (nth x8''.tables (nth r13 x71.toNat).toNat)))
 else
 some (.inr x13')
def Kr (n0 : Int) (ops0 : List SOp) (k0 : Int) (x8 : Sfound) (x48 : Int) (x14 : Int) (x8'' : Sfound) (r13 : List Int) : (Int × (List (List Int))) → St := fun s => [(71, A.val (Ae s.1)), (70, A.val (Ae ((↑r13.length : Int)))), (69, A.ref 15 []), (15, A.val ((slr true 1 Ae) (r13))), (13, A.val ((slr true 1 (slr false 1 Ae)) s.2)), (14, A.val (Ae (x14))), (11, A.val (Ae (x48))), (12, A.val ((rP true (Ak false)) (nth ops0 x48.toNat))), (48, A.val (Ae (x48))), (47, A.val (Ae ((↑ops0.length : Int)))), (46, A.val ((slr false 2 (Ak false)) (ops0))), (10, A.val (Ae ((↑x8.tables.length : Int)))), (8, A.val ((rP true (Et)) (x8''))), (0, A.val (Ae (n0))), (1, A.val ((slr false 2 (Ak false)) (ops0))), (2, A.val (Ae (k0)))]
def O5 (n0 : Int) (ops0 : List SOp) (k0 : Int) (x8 : Sfound) (x48 : Int) (x14 : Int) (x8'' : Sfound) (r13 : List Int) : (List (List Int)) → Tgt
 | s => ((Ex.exit 8), [15, 13, 14, 11, 12, 48, 47, 46, 10, 8, 0, 1, 2], [(15, A.val ((slr true 1 Ae) (r13))), (13, A.val ((slr true 1 (slr false 1 Ae)) s)), (14, A.val (Ae (x14))), (11, A.val (Ae (x48))), (12, A.val ((rP true (Ak false)) (nth ops0 x48.toNat))), (48, A.val (Ae (x48))), (47, A.val (Ae ((↑ops0.length : Int)))), (46, A.val ((slr false 2 (Ak false)) (ops0))), (10, A.val (Ae ((↑x8.tables.length : Int)))), (8, A.val ((rP true (Et)) (x8''))), (0, A.val (Ae (n0))), (1, A.val ((slr false 2 (Ak false)) (ops0))), (2, A.val (Ae (k0)))])
theorem Ys {n0 : Int} {ops0 : List SOp} {k0 : Int} {x8 : Sfound} {x48 : Int} {x14 : Int} {x8'' : Sfound} {r13 : List Int} (s : (Int × (List (List Int)))) (o : (Int × (List (List Int))) ⊕ (List (List Int))) (h : Df n0 ops0 k0 x8 x48 x14 x8'' r13 s = some o) : vc Try.prog Pz (Ef [71, 70, 69, 15, 13, 14, 11, 12, 48, 47, 46, 10, 8, 0, 1, 2] (Kr n0 ops0 k0 x8 x48 x14 x8'' r13) (O5 n0 ops0 k0 x8 x48 x14 x8'' r13) o) (Kr n0 ops0 k0 x8 x48 x14 x8'' r13 s) := by
 obtain ⟨x71, x13'⟩ := s
 unfold Df at h
 try dsimp only at h
 conv => whnf
 refine Br.od h (fun p14 h => ?_) (fun p14 h => ?_)
 ·conv => whnf
  refine Len.map ?_
  conv => whnf
  refine Ask.o h fun p15 h => ?_
  conv => whnf
  refine Cells.one (fun _ => ⟨rfl, rfl⟩) (by first | omega | (simp [Bc] at * <;> omega)) ?_
  conv => whnf
  refine Cells.lit rfl rfl ?_
  conv => whnf
  refine Kid.lit rfl rfl ?_
  conv => whnf
  refine Len.map ?_
  conv => whnf
  refine Ask.o h fun p16 h => ?_
  conv => whnf
  refine Kid.lit rfl rfl ?_
  conv => whnf
  refine Cells.one (fun _ => ⟨rfl, rfl⟩) (by first | omega | (simp [Bc] at * <;> omega)) ?_
  conv => whnf
  refine Len.map ?_
  conv => whnf
  refine Ask.o h fun p17 h => ?_
  conv => whnf
  refine SetKids.one (fun _ => ⟨rfl, rfl⟩) (nth x8''.tables (nth r13 x71.toNat).toNat) (by first | rfl | simp only [Aa, V.fz, fzL, V.up, upL, Ab, Ac, Ad, slr, List.cons_append, List.nil_append] | simp [Aa, V.fz, fzL, V.up, upL, Ab, Ac, Ad, slr]) (by first | omega | (simp [Bc] at * <;> omega)) ?_
  conv => whnf
  refine Ask.o h fun p18 h => ?_
  conv => whnf
  cases h; exact ⟨rfl, rfl⟩
 conv => whnf
 cases h; exact ⟨rfl, rfl⟩
noncomputable def Ej (n0 : Int) (ops0 : List SOp) (k0 : Int) (x8 : Sfound) (x48 : Int) : ((List (List Int)) × Int × Sfound) → Option (((List (List Int)) × Int × Sfound) ⊕ (Unit ⊕ Sfound)) := fun (x13, x14, x8'') =>
 (Cc ((↑x8.tables.length : Int)) ((nth ops0 x48.toNat).Arity)).bind fun r11 =>
 if x14 < r11 then
 (F4 (x14) ((nth ops0 x48.toNat).Arity) ((↑x8.tables.length : Int))).bind fun r13 =>
 (At (Df n0 ops0 k0 x8 x48 x14 x8'' r13) ((0 : Int), x13)).bind fun q19_13 =>
 (Cc (n0) (k0)).bind fun r20 =>
 (Cn (n0) (nth ops0 x48.toNat) (q19_13) (r20)).bind fun r21 =>
 (Dc (x8'') (r21) (x48) (r13)).bind fun (_r22, u23) =>
 if (↑u23.tables.length : Int) > (60 : Int) then
 some (.inr (.inl ()))
 else
 ask (InI (x14 + (1 : Int))) <|
 some (.inl (q19_13, x14 + (1 : Int), u23))
 else
 some (.inr (.inr x8''))
def Kx (n0 : Int) (ops0 : List SOp) (k0 : Int) (x8 : Sfound) (x48 : Int) : ((List (List Int)) × Int × Sfound) → St := fun s => [(13, A.val ((slr true 1 (slr false 1 Ae)) s.1)), (14, A.val (Ae s.2.1)), (11, A.val (Ae (x48))), (12, A.val ((rP true (Ak false)) (nth ops0 x48.toNat))), (48, A.val (Ae (x48))), (47, A.val (Ae ((↑ops0.length : Int)))), (46, A.val ((slr false 2 (Ak false)) (ops0))), (10, A.val (Ae ((↑x8.tables.length : Int)))), (8, A.val ((rP true (Et)) s.2.2)), (0, A.val (Ae (n0))), (1, A.val ((slr false 2 (Ak false)) (ops0))), (2, A.val (Ae (k0)))]
def Pt (n0 : Int) (ops0 : List SOp) (k0 : Int) (x8 : Sfound) (x48 : Int) : (Unit ⊕ Sfound) → Tgt
 | (.inl _s) => (Ex.ret, [7, 6], [(7, A.val (V.bool (false))), (6, A.val V.nilp.up)])
 | (.inr s) => ((Ex.exit 6), [48, 47, 46, 10, 8, 0, 1, 2], [(48, A.val (Ae (x48))), (47, A.val (Ae ((↑ops0.length : Int)))), (46, A.val ((slr false 2 (Ak false)) (ops0))), (10, A.val (Ae ((↑x8.tables.length : Int)))), (8, A.val ((rP true (Et)) s)), (0, A.val (Ae (n0))), (1, A.val ((slr false 2 (Ak false)) (ops0))), (2, A.val (Ae (k0)))])
theorem X7 {n0 : Int} {ops0 : List SOp} {k0 : Int} {x8 : Sfound} {x48 : Int} (s : ((List (List Int)) × Int × Sfound)) (o : ((List (List Int)) × Int × Sfound) ⊕ (Unit ⊕ Sfound)) (h : Ej n0 ops0 k0 x8 x48 s = some o) : vc Try.prog Po (Ef [13, 14, 11, 12, 48, 47, 46, 10, 8, 0, 1, 2] (Kx n0 ops0 k0 x8 x48) (Pt n0 ops0 k0 x8 x48) o) (Kx n0 ops0 k0 x8 x48 s) := by
 obtain ⟨x13, x14, x8''⟩ := s
 unfold Ej at h
 try dsimp only at h
 conv => whnf
 refine Cells.lit rfl rfl ?_
 conv => whnf
 refine CallQ.o Ae (by first | rfl | simp only [Aa, V.fz, fzL, V.up, upL, Ab, Ac, Ad, slr, List.cons_append, List.nil_append] | simp [Aa, V.fz, fzL, V.up, upL, Ab, Ac, Ad, slr]) h (fun r h => Fu h) (fun r11 h => ?_)
 conv => whnf
 refine Br.od h (fun p12 h => ?_) (fun p12 h => ?_)
 ·conv => whnf
  refine Cells.lit rfl rfl ?_
  conv => whnf
  refine CallQ.o (slr true 1 Ae) (by first | rfl | simp only [Aa, V.fz, fzL, V.up, upL, Ab, Ac, Ad, slr, List.cons_append, List.nil_append] | simp [Aa, V.fz, fzL, V.up, upL, Ab, Ac, Ad, slr]) h (fun r h => Qf h) (fun r13 h => ?_)
  conv => whnf
  refine Len.map ?_
  conv => whnf
  refine LoopQ.o [71, 70, 69, 15, 13, 14, 11, 12, 48, 47, 46, 10, 8, 0, 1, 2] (Kr n0 ops0 k0 x8 x48 x14 x8'' r13) (O5 n0 ops0 k0 x8 x48 x14 x8'' r13) h (fun s o h => Ys s o h) (by first | rfl | simp [restrict, look, Aa, V.fz, fzL, V.up, upL, Ab, Ac, Ad, slr]) (fun _ => rfl) ?_
  rintro q19_13 h
  try dsimp only at h
  conv => whnf
  refine FrzQ.d (V.sl false (1 : Nat) (List.map Ae r13)) (by first | (simp only [slr]; done) | (simp [Aq, V.fz, Ab, slr]; done) | (simp [Aq, V.fz, fzL, Ab, slr]; done)) ?_
  conv => whnf
  refine Cells.lit rfl rfl ?_
  conv => whnf
  refine CallP.o Ae (by first | rfl | simp only [Aa, V.fz, fzL, V.up, upL, Ab, Ac, Ad, slr, List.cons_append, List.nil_append] | simp [Aa, V.fz, fzL, V.up, upL, Ab, Ac, Ad, slr]) h (fun r h => Fu h) (fun r20 h => ?_)
  conv => whnf
  refine CallP.rd (slr true 1 Ae) (by first | rfl | simp only [V.fz, fzL, V.up, Ab, Ad, slr] | simp [Aa, V.fz, fzL, V.up, upL, Ab, Ac, Ad, slr]) (fun _ => by simp [V.noFz, B9]) h (fun r h => H4 h) (fun r21 h => ?_)
  conv => whnf
  refine CallQ.io (fun r => V.tup []) (rP true (Et)) (by first | rfl | (simp only [slr]; done) | simp [Aq, V.fz, V.up, Ab, Ad, slr]) rfl (fun _ => rfl) (fun _ => ⟨rfl, rfl⟩) rfl h (fun r h => Qv h) (fun r22 u23 h => ?_)
  conv => whnf
  refine Cells.lit rfl rfl ?_
  conv => whnf
  refine Kid.lit rfl rfl ?_
  conv => whnf
  refine Len.map ?_
  conv => whnf
  refine Br.od h (fun p24 h => ?_) (fun p24 h => ?_)
  ·conv => whnf
   cases h; exact ⟨rfl, rfl⟩
  conv => whnf
  refine Ask.o h fun p25 h => ?_
  conv => whnf
  cases h; exact ⟨rfl, rfl⟩
 conv => whnf
 cases h; exact ⟨rfl, rfl⟩
noncomputable def Ei (n0 : Int) (ops0 : List SOp) (k0 : Int) (x8 : Sfound) : (Int × Sfound) → Option ((Int × Sfound) ⊕ (Unit ⊕ Sfound)) := fun (x48, x8') =>
 if x48 < (↑ops0.length : Int) then
 ask ((0 : Int) ≤ x48 ∧ x48 < (↑ops0.length : Int)) <|
 ask ((0 : Int) ≤ (nth ops0 x48.toNat).Arity ∧ (nth ops0 x48.toNat).Arity ≤ (↑LIM : Int)) <|
 (At (Ej n0 ops0 k0 x8 x48) (List.replicate (nth ops0 x48.toNat).Arity.toNat (Ar Int), (0 : Int), x8')).bind fun t => match t with
 | (.inl _) => (some (.inr (.inl ())))
 | (.inr q26_8) => (ask (InI (x48 + (1 : Int))) <|
 some (.inl (x48 + (1 : Int), q26_8)))
 else
 some (.inr (.inr x8'))
def Kz (n0 : Int) (ops0 : List SOp) (k0 : Int) (x8 : Sfound) : (Int × Sfound) → St := fun s => [(48, A.val (Ae s.1)), (47, A.val (Ae ((↑ops0.length : Int)))), (46, A.val ((slr false 2 (Ak false)) (ops0))), (10, A.val (Ae ((↑x8.tables.length : Int)))), (8, A.val ((rP true (Et)) s.2)), (0, A.val (Ae (n0))), (1, A.val ((slr false 2 (Ak false)) (ops0))), (2, A.val (Ae (k0)))]
def Pm (n0 : Int) (ops0 : List SOp) (k0 : Int) (x8 : Sfound) : (Unit ⊕ Sfound) → Tgt
 | (.inl _s) => (Ex.ret, [7, 6], [(7, A.val (V.bool (false))), (6, A.val V.nilp.up)])
 | (.inr s) => ((Ex.exit 4), [10, 8, 0, 1, 2], [(10, A.val (Ae ((↑x8.tables.length : Int)))), (8, A.val ((rP true (Et)) s)), (0, A.val (Ae (n0))), (1, A.val ((slr false 2 (Ak false)) (ops0))), (2, A.val (Ae (k0)))])
theorem Y9 {n0 : Int} {ops0 : List SOp} {k0 : Int} {x8 : Sfound} (s : (Int × Sfound)) (o : (Int × Sfound) ⊕ (Unit ⊕ Sfound)) (h : Ei n0 ops0 k0 x8 s = some o) : vc Try.prog Py (Ef [48, 47, 46, 10, 8, 0, 1, 2] (Kz n0 ops0 k0 x8) (Pm n0 ops0 k0 x8) o) (Kz n0 ops0 k0 x8 s) := by
 obtain ⟨x48, x8'⟩ := s
 unfold Ei at h
 try dsimp only at h
 conv => whnf
 refine Br.od h (fun p8 h => ?_) (fun p8 h => ?_)
 ·conv => whnf
  refine Len.map ?_
  conv => whnf
  refine Ask.o h fun p9 h => ?_
  conv => whnf
  refine Elem.o (by first | omega | (simp [Bc] at * <;> omega)) ?_
  conv => whnf
  refine SetKids.lit rfl ?_
  conv => whnf
  refine Cells.lit rfl rfl ?_
  conv => whnf
  refine Ask.o h fun p10 h => ?_
  conv => whnf
  refine MkQ.o (slr true 1 Ae) (Ar Int) rfl ?_
  conv => whnf
  refine FrzQ.d (V.sl true (1 : Nat) (List.map (slr false (1 : Nat) Ae) (List.replicate (nth ops0 x48.toNat).Arity.toNat (Ar Int)))) (by first | (simp only [V.fzAt, Jl, Ab]; done) | exact Eq.trans (b := V.sl true (1 : Nat) (List.map (slr false (1 : Nat) Ae) (List.replicate (nth ops0 x48.toNat).Arity.toNat (Ar Int)))) rfl (by simp only [Ac])) ?_
  conv => whnf
  refine LoopQ.o [13, 14, 11, 12, 48, 47, 46, 10, 8, 0, 1, 2] (Kx n0 ops0 k0 x8 x48) (Pt n0 ops0 k0 x8 x48) h (fun s o h => X7 s o h) (by first | rfl | simp [restrict, look, Aa, V.fz, fzL, V.up, upL, Ab, Ac, Ad, slr]) (by rintro (_ | _) <;> rfl) ?_
  rintro (⟨⟩ | q26_8) h
  ·try dsimp only at h
   conv => whnf
   cases h; exact ⟨rfl, rfl⟩
  try dsimp only at h
  conv => whnf
  refine Ask.o h fun p27 h => ?_
  conv => whnf
  cases h; exact ⟨rfl, rfl⟩
 conv => whnf
 cases h; exact ⟨rfl, rfl⟩
noncomputable def Bg (n0 : Int) (ops0 : List SOp) (k0 : Int) : (Int × Sfound) → Option ((Int × Sfound) ⊕ (Unit ⊕ Sfound)) := fun (x10, x8) =>
 if x10 < (↑x8.tables.length : Int) then
 (At (Ei n0 ops0 k0 x8) ((0 : Int), x8)).bind fun t => match t with
 | (.inl _) => (some (.inr (.inl ())))
 | (.inr q28_8) => (some (.inl ((↑x8.tables.length : Int), q28_8)))
 else
 some (.inr (.inr x8))
def Kg (n0 : Int) (ops0 : List SOp) (k0 : Int) : (Int × Sfound) → St := fun s => [(10, A.val (Ae s.1)), (8, A.val ((rP true (Et)) s.2)), (0, A.val (Ae (n0))), (1, A.val ((slr false 2 (Ak false)) (ops0))), (2, A.val (Ae (k0)))]
def Pu (_n0 : Int) (_ops0 : List SOp) (_k0 : Int) : (Unit ⊕ Sfound) → Tgt
 | (.inl _s) => (Ex.ret, [7, 6], [(7, A.val (V.bool (false))), (6, A.val V.nilp.up)])
 | (.inr s) => ((Ex.exit 2), [8], [(8, A.val ((rP true (Et)) s))])
theorem Yf {n0 : Int} {ops0 : List SOp} {k0 : Int} (s : (Int × Sfound)) (o : (Int × Sfound) ⊕ (Unit ⊕ Sfound)) (h : Bg n0 ops0 k0 s = some o) : vc Try.prog O8 (Ef [10, 8, 0, 1, 2] (Kg n0 ops0 k0) (Pu n0 ops0 k0) o) (Kg n0 ops0 k0 s) := by
 obtain ⟨x10, x8⟩ := s
 unfold Bg at h
 try dsimp only at h
 conv => whnf
 refine Cells.lit rfl rfl ?_
 conv => whnf
 refine Kid.lit rfl rfl ?_
 conv => whnf
 refine Len.map ?_
 conv => whnf
 refine Br.od h (fun p7 h => ?_) (fun p7 h => ?_)
 ·conv => whnf
  refine Cells.lit rfl rfl ?_
  conv => whnf
  refine Kid.lit rfl rfl ?_
  conv => whnf
  refine Len.map ?_
  conv => whnf
  refine Len.map ?_
  conv => whnf
  refine LoopQ.o [48, 47, 46, 10, 8, 0, 1, 2] (Kz n0 ops0 k0 x8) (Pm n0 ops0 k0 x8) h (fun s o h => Y9 s o h) (by first | rfl | simp [restrict, look, Aa, V.fz, fzL, V.up, upL, Ab, Ac, Ad, slr]) (by rintro (_ | _) <;> rfl) ?_
  rintro (⟨⟩ | q28_8) h
  ·try dsimp only at h
   conv => whnf
   cases h; exact ⟨rfl, rfl⟩
  try dsimp only at h
  conv => whnf
  cases h; exact ⟨rfl, rfl⟩
 conv => whnf
 cases h; exact ⟨rfl, rfl⟩
noncomputable def Ga (n0 : Int) (ops0 : (List SOp)) (k0 : Int) : Option ((Option Sfound) × Bool) :=
 (At (Fv n0 ops0 k0) ((0 : Int), { tables := Ar (List Int), steps := Ar SCloneStep, seen := Ar (ByteArray × Bool) })).bind fun q6_8 =>
 (At (Bg n0 ops0 k0) ((-1 : Int), q6_8)).bind fun t => match t with
 | (.inl _) => (some (none, false))
 | (.inr q29_8) => (some (some q29_8, true))
theorem Adw {n0 : Int} {ops0 : (List SOp)} {k0 : Int} {v : ((Option Sfound) × Bool)} (h : Ga n0 ops0 k0 = some v) : Ret Try.prog Oj [Ae n0, (slr false 2 (Ak false)) ops0, Ae k0] ((fun r => V.tup [(rO false (Cq false)) r.1, V.bool r.2]) v) := by
 refine T9 Ad9 (Nat.le_of_ble_eq_true rfl) ?_
 unfold Ga at h
 conv => whnf
 refine LoopQ.o [9, 8, 0, 1, 2] (Ke n0 ops0 k0) (Pp n0 ops0 k0) h (fun s o h => Ze s o h) (by first | rfl | simp [restrict, look, Aa, V.fz, fzL, V.up, upL, Ab, Ac, Ad, slr]) (fun _ => rfl) ?_
 rintro q6_8 h
 try dsimp only at h
 conv => whnf
 refine LoopQ.o [10, 8, 0, 1, 2] (Kg n0 ops0 k0) (Pu n0 ops0 k0) h (fun s o h => Yf s o h) (by first | rfl | simp [restrict, look, Aa, V.fz, fzL, V.up, upL, Ab, Ac, Ad, slr]) (by rintro (_ | _) <;> rfl) ?_
 rintro (⟨⟩ | q29_8) h
 ·try dsimp only at h
  conv => whnf
  cases h; exact (by first | rfl | simp only [Ah, Aa, V.fz, fzL, V.up, upL, Ab, Ac, Ad, slr] | simp [Ah, Aa, V.fz, fzL, V.up, upL, Ab, Ac, Ad, slr])
 try dsimp only at h
 conv => whnf
 cases h; exact (by first | rfl | simp only [Ah, V.fz, fzL, V.up, Ab] | simp [Ah, Aa, V.fz, fzL, V.up, upL, Ab, Ac, Ad, slr])
noncomputable def F1 (f0 : Sl12Find) (table0 : (List Int)) (step0 : SCloneStep) : Option Sl12Find :=
 ((if (f0.large) = true then
 some (.inl ())
 else
 (Cy (f0.tables) (table0)).bind fun r2 =>
 if r2 ≥ (0 : Int) then
 some (.inl ())
 else
 some (.inr ()) : Option (Unit ⊕ Unit))).bind fun t => match t with
 | (.inl _) => (some f0)
 | (.inr _) => (if (↑f0.tables.length : Int) = (60 : Int) then
 some ({ tables := f0.tables, steps := f0.steps, large := true })
 else
 ask ((f0.tables).length + ([table0]).length ≤ LIM) <|
 ask ((f0.steps).length + ([step0]).length ≤ LIM) <|
 some ({ tables := f0.tables ++ [table0], steps := f0.steps ++ [step0], large := f0.large }))
theorem Wv {f0 : Sl12Find} {table0 : (List Int)} {step0 : SCloneStep} {v : Sl12Find} (h : F1 f0 table0 step0 = some v) : P7 Try.prog L0 [(Al) f0, (slr false 1 Ae) table0, (Ag false) step0] ((Al) v) 0 (V.agg (List.replicate 3 V.dead)) := by
 refine Akk rfl rfl Ae6 (Nat.le_of_ble_eq_true rfl) ?_
 unfold F1 at h
 conv => whnf
 refine CutQ.o (fun t : (Unit ⊕ Unit) => match t with | (.inl s) => (Ex.ret, [6], [(6, A.val ((rP true (Al)) (f0)))]) | (.inr s) => (Ex.normal, [6, 5, 3, 1], [(6, A.val ((rP true (Al)) ({ tables := Ar (List Int), steps := Ar SCloneStep, large := false }))), (5, A.val ((rP true (Ag false)) (step0))), (3, A.val ((rP true (Al)) (f0))), (1, A.val ((slr false 1 Ae) (table0)))])) h ?_ ?_
 ·intro t h
  conv => whnf
  refine Cells.lit rfl rfl ?_
  conv => whnf
  refine Br.ob h (fun p1 h => ?_) (fun p1 h => ?_)
  ·conv => whnf
   refine Br.yes ?_
   conv => whnf
   refine Br.yes ?_
   conv => whnf
   refine Br.yes ?_
   conv => whnf
   refine Br.yes ?_
   conv => whnf
   refine Br.yes ?_
   conv => whnf
   refine Br.yes ?_
   conv => whnf
   refine Cells.lit rfl rfl ?_
   conv => whnf
   refine SetKids.lit rfl ?_
   conv => whnf
   cases h; exact ⟨rfl, rfl⟩
  conv => whnf
  refine Br.no ?_
  conv => whnf
  refine Cells.lit rfl rfl ?_
  conv => whnf
  refine Br.no ?_
  conv => whnf
  refine Br.no ?_
  conv => whnf
  refine Kid.lit rfl rfl ?_
  conv => whnf
  refine CallQ.rd Ae (by first | rfl | simp only [V.fz, V.up, Ab, slr] | simp [Aa, V.fz, fzL, V.up, upL, Ab, Ac, Ad, slr]) (fun _ => rfl) h (fun r h => Mp h) (fun r2 h => ?_)
  conv => whnf
  refine Br.no ?_
  conv => whnf
  refine Br.no ?_
  conv => whnf
  refine Br.od h (fun p3 h => ?_) (fun p3 h => ?_)
  ·conv => whnf
   refine Cells.lit rfl rfl ?_
   conv => whnf
   refine SetKids.lit rfl ?_
   conv => whnf
   cases h; exact ⟨rfl, rfl⟩
  conv => whnf
  cases h; exact ⟨rfl, rfl⟩
 rintro (⟨⟩ | ⟨⟩) h
 ·try dsimp only at h
  conv => whnf
  cases h; exact (by first | rfl | simp only [Ah, Aa, V.fz, fzL, V.up, upL, Ab, Ac, Ad, slr] | simp [Ah, Aa, V.fz, fzL, V.up, upL, Ab, Ac, Ad, slr])
 try dsimp only at h
 conv => whnf
 refine Cells.lit rfl rfl ?_
 conv => whnf
 refine Kid.lit rfl rfl ?_
 conv => whnf
 refine Len.map ?_
 conv => whnf
 refine Br.oe h (fun p5 h => ?_) (fun p5 h => ?_)
 ·conv => whnf
  refine SetKids.lit rfl ?_
  conv => whnf
  refine Cells.lit rfl rfl ?_
  conv => whnf
  refine SetKids.lit rfl ?_
  conv => whnf
  cases h; exact (by first | rfl | simp only [Ah, Aa, V.fz, fzL, V.up, upL, Ab, Ac, Ad, slr] | simp [Ah, Aa, V.fz, fzL, V.up, upL, Ab, Ac, Ad, slr])
 conv => whnf
 refine Cells.lit rfl rfl ?_
 conv => whnf
 refine BslQ.o (slr false 1 Ae) [table0] (by exact fun _ => ⟨rfl, rfl⟩) (by first | rfl | simp only [Aa, V.fz, fzL, V.up, upL, Ab, Ac, Ad, slr, List.cons_append, List.nil_append] | simp [Aa, V.fz, fzL, V.up, upL, Ab, Ac, Ad, slr]) ?_
 conv => whnf
 refine NoOwn.o (fun _ => rfl) ?_
 conv => whnf
 refine Kid.lit rfl rfl ?_
 conv => whnf
 refine Kid.lit rfl rfl ?_
 conv => whnf
 refine SetKids.lit rfl ?_
 conv => whnf
 refine AppQ.o (m := 1) (slr false 1 Ae) (by exact fun _ => ⟨rfl, rfl⟩) (f0.tables) ([table0]) (by first | rfl | simp only [Aa, V.fz, fzL, V.up, upL, Ab, Ac, Ad, slr, List.cons_append, List.nil_append] | simp [Aa, V.fz, fzL, V.up, upL, Ab, Ac, Ad, slr]) (by first | rfl | simp only [Aa, V.fz, fzL, V.up, upL, Ab, Ac, Ad, slr, List.cons_append, List.nil_append] | simp [Aa, V.fz, fzL, V.up, upL, Ab, Ac, Ad, slr]) h fun h => ?_
 conv => whnf
 refine SetKids.lit rfl ?_
 conv => whnf
 refine Cells.lit rfl rfl ?_
 conv => whnf
 refine Cells.lit rfl rfl ?_
 conv => whnf
 refine BslQ.o (Ag false) [step0] (by exact fun _ => ⟨rfl, rfl⟩) (by first | rfl | simp only [Aa, V.fz, fzL, V.up, upL, Ab, Ac, Ad, slr, List.cons_append, List.nil_append] | simp [Aa, V.fz, fzL, V.up, upL, Ab, Ac, Ad, slr]) ?_
 conv => whnf
 refine NoOwn.o (fun _ => rfl) ?_
 conv => whnf
 refine Kid.lit rfl rfl ?_
 conv => whnf
 refine Kid.lit rfl rfl ?_
 conv => whnf
 refine SetKids.lit rfl ?_
 conv => whnf
 refine AppQ.o (m := 2) (Ag false) (by exact fun _ => ⟨rfl, rfl⟩) (f0.steps) ([step0]) (by first | rfl | simp only [Aa, V.fz, fzL, V.up, upL, Ab, Ac, Ad, slr, List.cons_append, List.nil_append] | simp [Aa, V.fz, fzL, V.up, upL, Ab, Ac, Ad, slr]) (by first | rfl | simp only [Aa, V.fz, fzL, V.up, upL, Ab, Ac, Ad, slr, List.cons_append, List.nil_append] | simp [Aa, V.fz, fzL, V.up, upL, Ab, Ac, Ad, slr]) h fun h => ?_
 conv => whnf
 refine SetKids.lit rfl ?_
 conv => whnf
 refine Cells.lit rfl rfl ?_
 conv => whnf
 refine SetKids.lit rfl ?_
 conv => whnf
 cases h; exact (by first | rfl | simp only [Ah, Aa, V.fz, fzL, V.up, upL, Ab, Ac, Ad, slr] | simp [Ah, Aa, V.fz, fzL, V.up, upL, Ab, Ac, Ad, slr])
noncomputable def Ev (a0 : SAlgebra) (k0 : Int) (steps0 : (List SCloneStep)) : Option (Bool × Bool) :=
 (((Ct (a0)).bind fun r1 =>
 if (r1) = true then
 (B0 (a0.Size) (k0)).bind fun r3 =>
 if (r3) = true then
 some (.inl ())
 else
 some (.inr ())
 else
 some (.inr ()) : Option (Unit ⊕ Unit))).bind fun t => match t with
 | (.inl _) => ((Gk (a0) (k0) (steps0)).bind fun r6 =>
 some (r6.snd, true))
 | (.inr _) => (some (false, false))
theorem Vv {a0 : SAlgebra} {k0 : Int} {steps0 : (List SCloneStep)} {v : (Bool × Bool)} (h : Ev a0 k0 steps0 = some v) : Ret Try.prog Iy [(Aj false) a0, Ae k0, (slr false 2 (Ag false)) steps0] ((fun r => V.tup [V.bool r.1, V.bool r.2]) v) := by
 refine Bm V5 (Nat.le_of_ble_eq_true rfl) ?_
 unfold Ev at h
 conv => whnf
 refine CutQ.o (fun t : (Unit ⊕ Unit) => match t with | (.inl s) => (Ex.normal, [3, 1, 2], [(3, A.val ((rP true (Aj false)) (a0))), (1, A.val (Ae (k0))), (2, A.val ((slr false 2 (Ag false)) (steps0)))]) | (.inr s) => (Ex.ret, [7, 6], [(7, A.val (V.bool (false))), (6, A.val (V.bool (false)))])) h ?_ ?_
 ·intro t h
  conv => whnf
  refine Cells.lit rfl rfl ?_
  conv => whnf
  refine CallQ.o V.bool (by first | rfl | simp only [Aa, V.fz, fzL, V.up, upL, Ab, Ac, Ad, slr, List.cons_append, List.nil_append] | simp [Aa, V.fz, fzL, V.up, upL, Ab, Ac, Ad, slr]) h (fun r h => H9 h) (fun r1 h => ?_)
  conv => whnf
  refine Br.flip ?_
  conv => whnf
  refine Br.ob h (fun p2 h => ?_) (fun p2 h => ?_)
  ·conv => whnf
   refine Br.no ?_
   conv => whnf
   refine Cells.lit rfl rfl ?_
   conv => whnf
   refine Br.no ?_
   conv => whnf
   refine Br.no ?_
   conv => whnf
   refine CallQ.o V.bool (by first | rfl | simp only [Aa, V.fz, fzL, V.up, upL, Ab, Ac, Ad, slr, List.cons_append, List.nil_append] | simp [Aa, V.fz, fzL, V.up, upL, Ab, Ac, Ad, slr]) h (fun r h => F5 h) (fun r3 h => ?_)
   conv => whnf
   refine Br.no ?_
   conv => whnf
   refine Br.no ?_
   conv => whnf
   refine Br.flip ?_
   conv => whnf
   refine Br.ob h (fun p4 h => ?_) (fun p4 h => ?_)
   ·conv => whnf
    cases h; exact ⟨rfl, rfl⟩
   conv => whnf
   cases h; exact ⟨rfl, rfl⟩
  conv => whnf
  refine Br.yes ?_
  conv => whnf
  refine Br.yes ?_
  conv => whnf
  refine Br.yes ?_
  conv => whnf
  refine Br.yes ?_
  conv => whnf
  refine Br.yes ?_
  conv => whnf
  refine Br.yes ?_
  conv => whnf
  cases h; exact ⟨rfl, rfl⟩
 rintro (⟨⟩ | ⟨⟩) h
 ·try dsimp only at h
  conv => whnf
  refine Cells.lit rfl rfl ?_
  conv => whnf
  refine CallQ.o (fun r => V.tup [(slr false 1 (slr false 1 Ae)) r.1, V.bool r.2]) (by first | rfl | simp only [Aa, V.fz, fzL, V.up, upL, Ab, Ac, Ad, slr, List.cons_append, List.nil_append] | simp [Aa, V.fz, fzL, V.up, upL, Ab, Ac, Ad, slr]) h (fun r h => Uu h) (fun r6 h => ?_)
  conv => whnf
  cases h; exact (by first | rfl | simp only [Ah, Aa, V.fz, fzL, V.up, upL, Ab, Ac, Ad, slr] | simp [Ah, Aa, V.fz, fzL, V.up, upL, Ab, Ac, Ad, slr])
 try dsimp only at h
 conv => whnf
 cases h; exact (by first | rfl | simp only [Ah, Aa, V.fz, fzL, V.up, upL, Ab, Ac, Ad, slr] | simp [Ah, Aa, V.fz, fzL, V.up, upL, Ab, Ac, Ad, slr])
noncomputable def C6 (a0 : SAlgebra) (k0 : Int) (steps0 : (List SCloneStep)) : Option ((List SOp) × Bool) :=
 (((Ct (a0)).bind fun r1 =>
 if (r1) = true then
 (B0 (a0.Size) (k0)).bind fun r3 =>
 if (r3) = true then
 some (.inl ())
 else
 some (.inr ())
 else
 some (.inr ()) : Option (Unit ⊕ Unit))).bind fun t => match t with
 | (.inl _) => ((Gk (a0) (k0) (steps0)).bind fun r6 =>
 if (r6.snd) = true then
 (Ib (k0) (r6.fst)).bind fun r8 =>
 some (r8, true)
 else
 some (Ar SOp, false))
 | (.inr _) => (some (Ar SOp, false))
theorem Qq {a0 : SAlgebra} {k0 : Int} {steps0 : (List SCloneStep)} {v : ((List SOp) × Bool)} (h : C6 a0 k0 steps0 = some v) : Ret Try.prog F9 [(Aj false) a0, Ae k0, (slr false 2 (Ag false)) steps0] ((fun r => V.tup [(slr true 2 (Ak true)) r.1, V.bool r.2]) v) := by
 refine Bm Qn (Nat.le_of_ble_eq_true rfl) ?_
 unfold C6 at h
 conv => whnf
 refine CutQ.o (fun t : (Unit ⊕ Unit) => match t with | (.inl s) => (Ex.normal, [3, 1, 2], [(3, A.val ((rP true (Aj false)) (a0))), (1, A.val (Ae (k0))), (2, A.val ((slr false 2 (Ag false)) (steps0)))]) | (.inr s) => (Ex.ret, [7, 6], [(7, A.val (V.bool (false))), (6, A.val ((slr true 2 (Ak true)) (Ar SOp)))])) h ?_ ?_
 ·intro t h
  conv => whnf
  refine Cells.lit rfl rfl ?_
  conv => whnf
  refine CallQ.o V.bool (by first | rfl | simp only [Aa, V.fz, fzL, V.up, upL, Ab, Ac, Ad, slr, List.cons_append, List.nil_append] | simp [Aa, V.fz, fzL, V.up, upL, Ab, Ac, Ad, slr]) h (fun r h => H9 h) (fun r1 h => ?_)
  conv => whnf
  refine Br.flip ?_
  conv => whnf
  refine Br.ob h (fun p2 h => ?_) (fun p2 h => ?_)
  ·conv => whnf
   refine Br.no ?_
   conv => whnf
   refine Cells.lit rfl rfl ?_
   conv => whnf
   refine Br.no ?_
   conv => whnf
   refine Br.no ?_
   conv => whnf
   refine CallQ.o V.bool (by first | rfl | simp only [Aa, V.fz, fzL, V.up, upL, Ab, Ac, Ad, slr, List.cons_append, List.nil_append] | simp [Aa, V.fz, fzL, V.up, upL, Ab, Ac, Ad, slr]) h (fun r h => F5 h) (fun r3 h => ?_)
   conv => whnf
   refine Br.no ?_
   conv => whnf
   refine Br.no ?_
   conv => whnf
   refine Br.flip ?_
   conv => whnf
   refine Br.ob h (fun p4 h => ?_) (fun p4 h => ?_)
   ·conv => whnf
    cases h; exact ⟨rfl, rfl⟩
   conv => whnf
   refine BslQ.o (Ak true) (Ar SOp) (by exact fun _ => ⟨rfl, rfl⟩) (by first | rfl | simp only [Aa, V.fz, fzL, V.up, upL, Ab, Ac, Ad, slr, List.cons_append, List.nil_append] | simp [Aa, V.fz, fzL, V.up, upL, Ab, Ac, Ad, slr]) ?_
   conv => whnf
   cases h; exact ⟨rfl, rfl⟩
  conv => whnf
  refine Br.yes ?_
  conv => whnf
  refine Br.yes ?_
  conv => whnf
  refine Br.yes ?_
  conv => whnf
  refine Br.yes ?_
  conv => whnf
  refine Br.yes ?_
  conv => whnf
  refine Br.yes ?_
  conv => whnf
  refine BslQ.o (Ak true) (Ar SOp) (by exact fun _ => ⟨rfl, rfl⟩) (by first | rfl | simp only [Aa, V.fz, fzL, V.up, upL, Ab, Ac, Ad, slr, List.cons_append, List.nil_append] | simp [Aa, V.fz, fzL, V.up, upL, Ab, Ac, Ad, slr]) ?_
  conv => whnf
  cases h; exact ⟨rfl, rfl⟩
 rintro (⟨⟩ | ⟨⟩) h
 ·try dsimp only at h
  conv => whnf
  refine Cells.lit rfl rfl ?_
  conv => whnf
  refine CallQ.o (fun r => V.tup [(slr false 1 (slr false 1 Ae)) r.1, V.bool r.2]) (by first | rfl | simp only [Aa, V.fz, fzL, V.up, upL, Ab, Ac, Ad, slr, List.cons_append, List.nil_append] | simp [Aa, V.fz, fzL, V.up, upL, Ab, Ac, Ad, slr]) h (fun r h => Uu h) (fun r6 h => ?_)
  conv => whnf
  refine Br.flip ?_
  conv => whnf
  refine Br.ob h (fun p7 h => ?_) (fun p7 h => ?_)
  ·conv => whnf
   refine CallQ.o (slr true 2 (Ak true)) (by first | rfl | simp only [Aa, V.fz, fzL, V.up, upL, Ab, Ac, Ad, slr, List.cons_append, List.nil_append] | simp [Aa, V.fz, fzL, V.up, upL, Ab, Ac, Ad, slr]) h (fun r h => Zg h) (fun r8 h => ?_)
   conv => whnf
   cases h; exact (by first | rfl | simp only [Ah, Aa, V.fz, fzL, V.up, upL, Ab, Ac, Ad, slr] | simp [Ah, Aa, V.fz, fzL, V.up, upL, Ab, Ac, Ad, slr])
  conv => whnf
  refine BslQ.o (Ak true) (Ar SOp) (by exact fun _ => ⟨rfl, rfl⟩) (by first | rfl | simp only [Aa, V.fz, fzL, V.up, upL, Ab, Ac, Ad, slr, List.cons_append, List.nil_append] | simp [Aa, V.fz, fzL, V.up, upL, Ab, Ac, Ad, slr]) ?_
  conv => whnf
  cases h; exact (by first | rfl | simp only [Ah, Aa, V.fz, fzL, V.up, upL, Ab, Ac, Ad, slr] | simp [Ah, Aa, V.fz, fzL, V.up, upL, Ab, Ac, Ad, slr])
 try dsimp only at h
 conv => whnf
 cases h; exact (by first | rfl | simp only [Ah, Aa, V.fz, fzL, V.up, upL, Ab, Ac, Ad, slr] | simp [Ah, Aa, V.fz, fzL, V.up, upL, Ab, Ac, Ad, slr])
end Go.Proofs.Ytoaojijoefljaaa.Ax
