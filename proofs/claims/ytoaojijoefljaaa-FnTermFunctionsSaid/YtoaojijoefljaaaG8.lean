/-
 What the functions compute, as functions on plain data, and that the program does compute it; written by program.
-/
import Derived.Test.YtoaojijoefljaaaCode
import Derived.Test.YtoaojijoefljaaaG1
import Derived.Test.YtoaojijoefljaaaG2
import Derived.Test.YtoaojijoefljaaaG3
import Derived.Test.YtoaojijoefljaaaG6
namespace Go.Proofs.Ytoaojijoefljaaa.Ax
open Go
set_option maxRecDepth 100000
set_option maxHeartbeats 4000000
noncomputable def Dg (a0 : SAlgebra) (k0 : Int) (list0 : List SOp) : (Int × (List (ByteArray × Bool))) → Option ((Int × (List (ByteArray × Bool))) ⊕ (Unit ⊕ (List (ByteArray × Bool)))) := fun (x36, x8) =>
 if x36 < (↑list0.length : Int) then
 ask ((0 : Int) ≤ x36 ∧ x36 < (↑list0.length : Int)) <|
 if (nth list0 x36.toNat).Arity ≠ k0 then
 some (.inr (.inl ()))
 else
 (D6 (nth list0 x36.toNat) (a0.Size)).bind fun r10 =>
 if (r10) = true then
 (Ey ((nth list0 x36.toNat).Table)).bind fun r12 =>
 ask (InI (x36 + (1 : Int))) <|
 some (.inl (x36 + (1 : Int), I9 x8 r12 true))
 else
 some (.inr (.inl ()))
 else
 some (.inr (.inr x8))
def G2 (a0 : SAlgebra) (k0 : Int) (list0 : List SOp) : (Int × (List (ByteArray × Bool))) → St := fun s => [(36, A.val (Ae s.1)), (35, A.val (Ae ((↑list0.length : Int)))), (34, A.val ((slr false 2 (Ak false)) (list0))), (8, A.val ((rMp true Lf.bool) s.2)), (3, A.val ((rP true (Aj false)) (a0))), (1, A.val (Ae (k0))), (2, A.val ((slr false 2 (Ak false)) (list0)))]
def Kw (a0 : SAlgebra) (k0 : Int) (list0 : List SOp) : (Unit ⊕ (List (ByteArray × Bool))) → Tgt
 | (.inl _s) => (Ex.ret, [7, 6], [(7, A.val (V.bool (false))), (6, A.val (V.bool (false)))])
 | (.inr s) => ((Ex.exit 0), [8, 3, 1, 2], [(8, A.val ((rMp true Lf.bool) s)), (3, A.val ((rP true (Aj false)) (a0))), (1, A.val (Ae (k0))), (2, A.val ((slr false 2 (Ak false)) (list0)))])
theorem Rx {a0 : SAlgebra} {k0 : Int} {list0 : List SOp} (s : (Int × (List (ByteArray × Bool)))) (o : (Int × (List (ByteArray × Bool))) ⊕ (Unit ⊕ (List (ByteArray × Bool)))) (h : Dg a0 k0 list0 s = some o) : vc Try.prog K3 (Ef [36, 35, 34, 8, 3, 1, 2] (G2 a0 k0 list0) (Kw a0 k0 list0) o) (G2 a0 k0 list0 s) := by
 obtain ⟨x36, x8⟩ := s
 unfold Dg at h
 try dsimp only at h
 conv => whnf
 refine Br.od h (fun p7 h => ?_) (fun p7 h => ?_)
 ·conv => whnf
  refine Len.map ?_
  conv => whnf
  refine Ask.o h fun p8 h => ?_
  conv => whnf
  refine Elem.o (by first | omega | (simp [Bc] at * <;> omega)) ?_
  conv => whnf
  refine SetKids.lit rfl ?_
  conv => whnf
  refine Cells.lit rfl rfl ?_
  conv => whnf
  refine Br.on h (fun p9 h => ?_) (fun p9 h => ?_)
  ·conv => whnf
   refine Br.yes ?_
   conv => whnf
   refine Br.yes ?_
   conv => whnf
   refine Br.yes ?_
   conv => whnf
   refine Br.yes ?_
   conv => whnf
   refine Br.yes ?_
   conv => whnf
   refine Br.yes ?_
   conv => whnf
   cases h; exact ⟨rfl, rfl⟩
  conv => whnf
  refine Cells.lit rfl rfl ?_
  conv => whnf
  refine Br.no ?_
  conv => whnf
  refine Br.no ?_
  conv => whnf
  refine Cells.lit rfl rfl ?_
  conv => whnf
  refine Br.no ?_
  conv => whnf
  refine CallQ.o V.bool (by first | rfl | simp only [Aa, V.fz, fzL, V.up, upL, Ab, Ac, Ad, slr, List.cons_append, List.nil_append] | simp [Aa, V.fz, fzL, V.up, upL, Ab, Ac, Ad, slr]) h (fun r h => Jw h) (fun r10 h => ?_)
  conv => whnf
  refine Br.no ?_
  conv => whnf
  refine Br.no ?_
  conv => whnf
  refine Br.flip ?_
  conv => whnf
  refine Br.ob h (fun p11 h => ?_) (fun p11 h => ?_)
  ·conv => whnf
   refine Cells.lit rfl rfl ?_
   conv => whnf
   refine CallQ.o V.str (by first | rfl | simp only [Aa, V.fz, fzL, V.up, upL, Ab, Ac, Ad, slr, List.cons_append, List.nil_append] | simp [Aa, V.fz, fzL, V.up, upL, Ab, Ac, Ad, slr]) h (fun r h => K5 h) (fun r12 h => ?_)
   conv => whnf
   refine MsQ.o Lf.bool x8 true (by first | rfl | simp [Ar]) rfl ?_
   conv => whnf
   refine Ask.o h fun p13 h => ?_
   conv => whnf
   cases h; exact ⟨rfl, rfl⟩
  conv => whnf
  cases h; exact ⟨rfl, rfl⟩
 conv => whnf
 cases h; exact ⟨rfl, rfl⟩
noncomputable def Cb (a0 : SAlgebra) (k0 : Int) (_list0 : List SOp) (q14_8 : List (ByteArray × Bool)) : Int → Option (Int ⊕ (Unit ⊕ Unit)) := fun x11 =>
 if x11 < k0 then
 (Dh (a0.Size) (k0) (x11)).bind fun r16 =>
 (Ey (r16)).bind fun r17 =>
 if ((Dr q14_8 r17).getD false) = true then
 ask (InI (x11 + (1 : Int))) <|
 some (.inl (x11 + (1 : Int)))
 else
 some (.inr (.inl ()))
 else
 some (.inr (.inr ()))
def G3 (a0 : SAlgebra) (k0 : Int) (list0 : List SOp) (q14_8 : List (ByteArray × Bool)) : Int → St := fun s => [(11, A.val (Ae s)), (8, A.val ((rMp true Lf.bool) (q14_8))), (3, A.val ((rP true (Aj false)) (a0))), (1, A.val (Ae (k0))), (2, A.val ((slr false 2 (Ak false)) (list0)))]
def Km (a0 : SAlgebra) (k0 : Int) (list0 : List SOp) (q14_8 : List (ByteArray × Bool)) : (Unit ⊕ Unit) → Tgt
 | (.inl _s) => (Ex.ret, [7, 6], [(7, A.val (V.bool (true))), (6, A.val (V.bool (false)))])
 | (.inr _s) => ((Ex.exit 2), [8, 3, 1, 2], [(8, A.val ((rMp true Lf.bool) (q14_8))), (3, A.val ((rP true (Aj false)) (a0))), (1, A.val (Ae (k0))), (2, A.val ((slr false 2 (Ak false)) (list0)))])
theorem R3 {a0 : SAlgebra} {k0 : Int} {list0 : List SOp} {q14_8 : List (ByteArray × Bool)} (x11 : Int) (o : Int ⊕ (Unit ⊕ Unit)) (h : Cb a0 k0 list0 q14_8 x11 = some o) : vc Try.prog Ko (Ef [11, 8, 3, 1, 2] (G3 a0 k0 list0 q14_8) (Km a0 k0 list0 q14_8) o) (G3 a0 k0 list0 q14_8 x11) := by
 unfold Cb at h
 try dsimp only at h
 conv => whnf
 refine Br.od h (fun p15 h => ?_) (fun p15 h => ?_)
 ·conv => whnf
  refine Cells.lit rfl rfl ?_
  conv => whnf
  refine CallQ.o (slr true 1 Ae) (by first | rfl | simp only [Aa, V.fz, fzL, V.up, upL, Ab, Ac, Ad, slr, List.cons_append, List.nil_append] | simp [Aa, V.fz, fzL, V.up, upL, Ab, Ac, Ad, slr]) h (fun r h => K4 h) (fun r16 h => ?_)
  conv => whnf
  refine CallQ.rd V.str (by first | rfl | simp only [V.fz, Ab, slr] | simp [Aa, V.fz, fzL, V.up, upL, Ab, Ac, Ad, slr]) (fun _ => rfl) h (fun r h => K5 h) (fun r17 h => ?_)
  conv => whnf
  refine LkQ.one Lf.bool V.bool q14_8 (false) (by first | rfl | simp [Ar]) rfl (fun _ => rfl) ?_
  conv => whnf
  refine Br.flip ?_
  conv => whnf
  refine Br.ob h (fun p18 h => ?_) (fun p18 h => ?_)
  ·conv => whnf
   refine Ask.o h fun p19 h => ?_
   conv => whnf
   cases h; exact ⟨rfl, rfl⟩
  conv => whnf
  cases h; exact ⟨rfl, rfl⟩
 conv => whnf
 cases h; exact ⟨rfl, rfl⟩
noncomputable def Cd (_a0 : SAlgebra) (_k0 : Int) (list0 : List SOp) (_q14_8 : List (ByteArray × Bool)) (_x73 : Int) (_x15 : Int) (r26 : List Int) : (Int × (List (List Int))) → Option ((Int × (List (List Int))) ⊕ (List (List Int))) := fun (x96, x14') =>
 if x96 < (↑r26.length : Int) then
 ask ((0 : Int) ≤ x96 ∧ x96 < (↑r26.length : Int)) <|
 ask ((0 : Int) ≤ nth r26 x96.toNat ∧ nth r26 x96.toNat < (↑list0.length : Int)) <|
 ask ((0 : Int) ≤ x96 ∧ x96 < (↑x14'.length : Int)) <|
 ask (InI (x96 + (1 : Int))) <|
 some (.inl (x96 + (1 : Int), x14'.set x96.toNat (nth list0 (nth r26 x96.toNat).toNat).Table))
 else
 some (.inr x14')
def Gt (a0 : SAlgebra) (k0 : Int) (list0 : List SOp) (q14_8 : List (ByteArray × Bool)) (x73 : Int) (x15 : Int) (r26 : List Int) : (Int × (List (List Int))) → St := fun s => [(96, A.val (Ae s.1)), (95, A.val (Ae ((↑r26.length : Int)))), (94, A.val ((slr true 1 Ae) (r26))), (14, A.val ((slr true 1 (slr false 1 Ae)) s.2)), (15, A.val (Ae (x15))), (13, A.val ((rP true (Ak false)) (nth a0.Ops x73.toNat))), (73, A.val (Ae (x73))), (72, A.val (Ae ((↑a0.Ops.length : Int)))), (71, A.val ((slr false 2 (Ak false)) (a0.Ops))), (8, A.val ((rMp true Lf.bool) (q14_8))), (3, A.val ((rP true (Aj false)) (a0))), (1, A.val (Ae (k0))), (2, A.val ((slr false 2 (Ak false)) (list0)))]
def Ks (a0 : SAlgebra) (k0 : Int) (list0 : List SOp) (q14_8 : List (ByteArray × Bool)) (x73 : Int) (x15 : Int) (_r26 : List Int) : (List (List Int)) → Tgt
 | s => ((Ex.exit 8), [14, 15, 13, 73, 72, 71, 8, 3, 1, 2], [(14, A.val ((slr true 1 (slr false 1 Ae)) s)), (15, A.val (Ae (x15))), (13, A.val ((rP true (Ak false)) (nth a0.Ops x73.toNat))), (73, A.val (Ae (x73))), (72, A.val (Ae ((↑a0.Ops.length : Int)))), (71, A.val ((slr false 2 (Ak false)) (a0.Ops))), (8, A.val ((rMp true Lf.bool) (q14_8))), (3, A.val ((rP true (Aj false)) (a0))), (1, A.val (Ae (k0))), (2, A.val ((slr false 2 (Ak false)) (list0)))])
theorem Sw {a0 : SAlgebra} {k0 : Int} {list0 : List SOp} {q14_8 : List (ByteArray × Bool)} {x73 : Int} {x15 : Int} {r26 : List Int} (s : (Int × (List (List Int)))) (o : (Int × (List (List Int))) ⊕ (List (List Int))) (h : Cd a0 k0 list0 q14_8 x73 x15 r26 s = some o) : vc Try.prog Kt (Ef [96, 95, 94, 14, 15, 13, 73, 72, 71, 8, 3, 1, 2] (Gt a0 k0 list0 q14_8 x73 x15 r26) (Ks a0 k0 list0 q14_8 x73 x15 r26) o) (Gt a0 k0 list0 q14_8 x73 x15 r26 s) := by
 obtain ⟨x96, x14'⟩ := s
 unfold Cd at h
 try dsimp only at h
 conv => whnf
 refine Br.od h (fun p27 h => ?_) (fun p27 h => ?_)
 ·conv => whnf
  refine Len.map ?_
  conv => whnf
  refine Ask.o h fun p28 h => ?_
  conv => whnf
  refine Cells.one (fun _ => ⟨rfl, rfl⟩) (by first | omega | (simp [Bc] at * <;> omega)) ?_
  conv => whnf
  refine Len.map ?_
  conv => whnf
  refine Ask.o h fun p29 h => ?_
  conv => whnf
  refine Elem.o (by first | omega | (simp [Bc] at * <;> omega)) ?_
  conv => whnf
  refine Len.map ?_
  conv => whnf
  refine Ask.o h fun p30 h => ?_
  conv => whnf
  refine SetKids.one (fun _ => ⟨rfl, rfl⟩) ((nth list0 (nth r26 x96.toNat).toNat).Table) (by first | rfl | simp only [Aa, V.fz, fzL, V.up, upL, Ab, Ac, Ad, slr, List.cons_append, List.nil_append] | simp [Aa, V.fz, fzL, V.up, upL, Ab, Ac, Ad, slr]) (by first | omega | (simp [Bc] at * <;> omega)) ?_
  conv => whnf
  refine Ask.o h fun p31 h => ?_
  conv => whnf
  cases h; exact ⟨rfl, rfl⟩
 conv => whnf
 cases h; exact ⟨rfl, rfl⟩
noncomputable def Dl (a0 : SAlgebra) (k0 : Int) (list0 : List SOp) (q14_8 : List (ByteArray × Bool)) (x73 : Int) : ((List (List Int)) × Int) → Option (((List (List Int)) × Int) ⊕ (Unit ⊕ Unit)) := fun (x14, x15) =>
 (Cc ((↑list0.length : Int)) ((nth a0.Ops x73.toNat).Arity)).bind fun r24 =>
 if x15 < r24 then
 (F4 (x15) ((nth a0.Ops x73.toNat).Arity) ((↑list0.length : Int))).bind fun r26 =>
 (At (Cd a0 k0 list0 q14_8 x73 x15 r26) ((0 : Int), x14)).bind fun q32_14 =>
 (Cc (a0.Size) (k0)).bind fun r33 =>
 (Cn (a0.Size) (nth a0.Ops x73.toNat) (q32_14) (r33)).bind fun r34 =>
 (Ey (r34)).bind fun r35 =>
 if ((Dr q14_8 r35).getD false) = true then
 ask (InI (x15 + (1 : Int))) <|
 some (.inl (q32_14, x15 + (1 : Int)))
 else
 some (.inr (.inl ()))
 else
 some (.inr (.inr ()))
def G0 (a0 : SAlgebra) (k0 : Int) (list0 : List SOp) (q14_8 : List (ByteArray × Bool)) (x73 : Int) : ((List (List Int)) × Int) → St := fun s => [(14, A.val ((slr true 1 (slr false 1 Ae)) s.1)), (15, A.val (Ae s.2)), (13, A.val ((rP true (Ak false)) (nth a0.Ops x73.toNat))), (73, A.val (Ae (x73))), (72, A.val (Ae ((↑a0.Ops.length : Int)))), (71, A.val ((slr false 2 (Ak false)) (a0.Ops))), (8, A.val ((rMp true Lf.bool) (q14_8))), (3, A.val ((rP true (Aj false)) (a0))), (1, A.val (Ae (k0))), (2, A.val ((slr false 2 (Ak false)) (list0)))]
def K1 (a0 : SAlgebra) (k0 : Int) (list0 : List SOp) (q14_8 : List (ByteArray × Bool)) (x73 : Int) : (Unit ⊕ Unit) → Tgt
 | (.inl _s) => (Ex.ret, [7, 6], [(7, A.val (V.bool (true))), (6, A.val (V.bool (false)))])
 | (.inr _s) => ((Ex.exit 6), [73, 72, 71, 8, 3, 1, 2], [(73, A.val (Ae (x73))), (72, A.val (Ae ((↑a0.Ops.length : Int)))), (71, A.val ((slr false 2 (Ak false)) (a0.Ops))), (8, A.val ((rMp true Lf.bool) (q14_8))), (3, A.val ((rP true (Aj false)) (a0))), (1, A.val (Ae (k0))), (2, A.val ((slr false 2 (Ak false)) (list0)))])
theorem R6 {a0 : SAlgebra} {k0 : Int} {list0 : List SOp} {q14_8 : List (ByteArray × Bool)} {x73 : Int} (s : ((List (List Int)) × Int)) (o : ((List (List Int)) × Int) ⊕ (Unit ⊕ Unit)) (h : Dl a0 k0 list0 q14_8 x73 s = some o) : vc Try.prog Kl (Ef [14, 15, 13, 73, 72, 71, 8, 3, 1, 2] (G0 a0 k0 list0 q14_8 x73) (K1 a0 k0 list0 q14_8 x73) o) (G0 a0 k0 list0 q14_8 x73 s) := by
 obtain ⟨x14, x15⟩ := s
 unfold Dl at h
 try dsimp only at h
 conv => whnf
 refine Len.map ?_
 conv => whnf
 refine Cells.lit rfl rfl ?_
 conv => whnf
 refine CallQ.o Ae (by first | rfl | simp only [Aa, V.fz, fzL, V.up, upL, Ab, Ac, Ad, slr, List.cons_append, List.nil_append] | simp [Aa, V.fz, fzL, V.up, upL, Ab, Ac, Ad, slr]) h (fun r h => Fu h) (fun r24 h => ?_)
 conv => whnf
 refine Br.od h (fun p25 h => ?_) (fun p25 h => ?_)
 ·conv => whnf
  refine Cells.lit rfl rfl ?_
  conv => whnf
  refine Len.map ?_
  conv => whnf
  refine CallQ.o (slr true 1 Ae) (by first | rfl | simp only [Aa, V.fz, fzL, V.up, upL, Ab, Ac, Ad, slr, List.cons_append, List.nil_append] | simp [Aa, V.fz, fzL, V.up, upL, Ab, Ac, Ad, slr]) h (fun r h => Qf h) (fun r26 h => ?_)
  conv => whnf
  refine Len.map ?_
  conv => whnf
  refine LoopQ.o [96, 95, 94, 14, 15, 13, 73, 72, 71, 8, 3, 1, 2] (Gt a0 k0 list0 q14_8 x73 x15 r26) (Ks a0 k0 list0 q14_8 x73 x15 r26) h (fun s o h => Sw s o h) (by first | rfl | simp [restrict, look, Aa, V.fz, fzL, V.up, upL, Ab, Ac, Ad, slr]) (fun _ => rfl) ?_
  rintro q32_14 h
  try dsimp only at h
  conv => whnf
  refine Cells.lit rfl rfl ?_
  conv => whnf
  refine Cells.lit rfl rfl ?_
  conv => whnf
  refine Cells.lit rfl rfl ?_
  conv => whnf
  refine CallP.o Ae (by first | rfl | simp only [Aa, V.fz, fzL, V.up, upL, Ab, Ac, Ad, slr, List.cons_append, List.nil_append] | simp [Aa, V.fz, fzL, V.up, upL, Ab, Ac, Ad, slr]) h (fun r h => Fu h) (fun r33 h => ?_)
  conv => whnf
  refine CallP.rd (slr true 1 Ae) (by first | rfl | simp only [V.fz, fzL, Ab, slr] | simp [Aa, V.fz, fzL, V.up, upL, Ab, Ac, Ad, slr]) (fun _ => by simp [V.noFz, B9]) h (fun r h => H4 h) (fun r34 h => ?_)
  conv => whnf
  refine CallP.rd V.str (by first | rfl | simp only [V.fz, Ab, slr] | simp [Aa, V.fz, fzL, V.up, upL, Ab, Ac, Ad, slr]) (fun _ => rfl) h (fun r h => K5 h) (fun r35 h => ?_)
  conv => whnf
  refine LkQ.one Lf.bool V.bool q14_8 (false) (by first | rfl | simp [Ar]) rfl (fun _ => rfl) ?_
  conv => whnf
  refine Br.flip ?_
  conv => whnf
  refine Br.ob h (fun p36 h => ?_) (fun p36 h => ?_)
  ·conv => whnf
   refine Ask.o h fun p37 h => ?_
   conv => whnf
   cases h; exact ⟨rfl, rfl⟩
  conv => whnf
  cases h; exact ⟨rfl, rfl⟩
 conv => whnf
 cases h; exact ⟨rfl, rfl⟩
noncomputable def Ca (a0 : SAlgebra) (k0 : Int) (list0 : List SOp) (q14_8 : List (ByteArray × Bool)) : Int → Option (Int ⊕ (Unit ⊕ Unit)) := fun x73 =>
 if x73 < (↑a0.Ops.length : Int) then
 ask ((0 : Int) ≤ x73 ∧ x73 < (↑a0.Ops.length : Int)) <|
 ask ((0 : Int) ≤ (nth a0.Ops x73.toNat).Arity ∧ (nth a0.Ops x73.toNat).Arity ≤ (↑LIM : Int)) <|
 (At (Dl a0 k0 list0 q14_8 x73) (List.replicate (nth a0.Ops x73.toNat).Arity.toNat (Ar Int), (0 : Int))).bind fun t => match t with
 | (.inl _) => (some (.inr (.inl ())))
 | (.inr _) => (ask (InI (x73 + (1 : Int))) <|
 some (.inl (x73 + (1 : Int))))
 else
 some (.inr (.inr ()))
def Gy (a0 : SAlgebra) (k0 : Int) (list0 : List SOp) (q14_8 : List (ByteArray × Bool)) : Int → St := fun s => [(73, A.val (Ae s)), (72, A.val (Ae ((↑a0.Ops.length : Int)))), (71, A.val ((slr false 2 (Ak false)) (a0.Ops))), (8, A.val ((rMp true Lf.bool) (q14_8))), (3, A.val ((rP true (Aj false)) (a0))), (1, A.val (Ae (k0))), (2, A.val ((slr false 2 (Ak false)) (list0)))]
def J9 (_a0 : SAlgebra) (_k0 : Int) (_list0 : List SOp) (_q14_8 : List (ByteArray × Bool)) : (Unit ⊕ Unit) → Tgt
 | (.inl _s) => (Ex.ret, [7, 6], [(7, A.val (V.bool (true))), (6, A.val (V.bool (false)))])
 | (.inr _s) => ((Ex.exit 4), [], [])
theorem Rv {a0 : SAlgebra} {k0 : Int} {list0 : List SOp} {q14_8 : List (ByteArray × Bool)} (x73 : Int) (o : Int ⊕ (Unit ⊕ Unit)) (h : Ca a0 k0 list0 q14_8 x73 = some o) : vc Try.prog Ku (Ef [73, 72, 71, 8, 3, 1, 2] (Gy a0 k0 list0 q14_8) (J9 a0 k0 list0 q14_8) o) (Gy a0 k0 list0 q14_8 x73) := by
 unfold Ca at h
 try dsimp only at h
 conv => whnf
 refine Br.od h (fun p21 h => ?_) (fun p21 h => ?_)
 ·conv => whnf
  refine Len.map ?_
  conv => whnf
  refine Ask.o h fun p22 h => ?_
  conv => whnf
  refine Elem.o (by first | omega | (simp [Bc] at * <;> omega)) ?_
  conv => whnf
  refine SetKids.lit rfl ?_
  conv => whnf
  refine Cells.lit rfl rfl ?_
  conv => whnf
  refine Ask.o h fun p23 h => ?_
  conv => whnf
  refine MkQ.o (slr true 1 Ae) (Ar Int) rfl ?_
  conv => whnf
  refine FrzQ.d (V.sl true (1 : Nat) (List.map (slr false (1 : Nat) Ae) (List.replicate (nth a0.Ops x73.toNat).Arity.toNat (Ar Int)))) (by first | (simp only [V.fzAt, Jl, Ab]; done) | exact Eq.trans (b := V.sl true (1 : Nat) (List.map (slr false (1 : Nat) Ae) (List.replicate (nth a0.Ops x73.toNat).Arity.toNat (Ar Int)))) rfl (by simp only [Ac])) ?_
  conv => whnf
  refine LoopQ.o [14, 15, 13, 73, 72, 71, 8, 3, 1, 2] (G0 a0 k0 list0 q14_8 x73) (K1 a0 k0 list0 q14_8 x73) h (fun s o h => R6 s o h) (by first | rfl | simp [restrict, look, Aa, V.fz, fzL, V.up, upL, Ab, Ac, Ad, slr]) (by rintro (_ | _) <;> rfl) ?_
  rintro (⟨⟩ | ⟨⟩) h
  ·try dsimp only at h
   conv => whnf
   cases h; exact ⟨rfl, rfl⟩
  try dsimp only at h
  conv => whnf
  refine Ask.o h fun p39 h => ?_
  conv => whnf
  cases h; exact ⟨rfl, rfl⟩
 conv => whnf
 cases h; exact ⟨rfl, rfl⟩
noncomputable def Er (a0 : SAlgebra) (k0 : Int) (list0 : (List SOp)) : Option (Bool × Bool) :=
 (((Ct (a0)).bind fun r1 =>
 if (r1) = true then
 (B0 (a0.Size) (k0)).bind fun r3 =>
 if (r3) = true then
 if (↑list0.length : Int) > (60 : Int) then
 some (.inl ())
 else
 some (.inr ())
 else
 some (.inl ())
 else
 some (.inl ()) : Option (Unit ⊕ Unit))).bind fun t => match t with
 | (.inl _) => (some (false, false))
 | (.inr _) => ((At (Dg a0 k0 list0) ((0 : Int), Ar (ByteArray × Bool))).bind fun t => match t with
 | (.inl _) => (some (false, false))
 | (.inr q14_8) => ((At (Cb a0 k0 list0 q14_8) (0 : Int)).bind fun t => match t with
 | (.inl _) => (some (false, true))
 | (.inr _) => ((At (Ca a0 k0 list0 q14_8) (0 : Int)).bind fun t => match t with
 | (.inl _) => (some (false, true))
 | (.inr _) => (some (true, true)))))
theorem V1 {a0 : SAlgebra} {k0 : Int} {list0 : (List SOp)} {v : (Bool × Bool)} (h : Er a0 k0 list0 = some v) : Ret Try.prog Iz [(Aj false) a0, Ae k0, (slr false 2 (Ak false)) list0] ((fun r => V.tup [V.bool r.1, V.bool r.2]) v) := by
 refine Bm V3 (Nat.le_of_ble_eq_true rfl) ?_
 unfold Er at h
 conv => whnf
 refine CutQ.o (fun t : (Unit ⊕ Unit) => match t with | (.inl s) => (Ex.ret, [7, 6], [(7, A.val (V.bool (false))), (6, A.val (V.bool (false)))]) | (.inr s) => (Ex.normal, [3, 1, 2], [(3, A.val ((rP true (Aj false)) (a0))), (1, A.val (Ae (k0))), (2, A.val ((slr false 2 (Ak false)) (list0)))])) h ?_ ?_
 ·intro t h
  conv => whnf
  refine Cells.lit rfl rfl ?_
  conv => whnf
  refine CallQ.o V.bool (by first | rfl | simp only [Aa, V.fz, fzL, V.up, upL, Ab, Ac, Ad, slr, List.cons_append, List.nil_append] | simp [Aa, V.fz, fzL, V.up, upL, Ab, Ac, Ad, slr]) h (fun r h => H9 h) (fun r1 h => ?_)
  conv => whnf
  refine Br.flip ?_
  conv => whnf
  refine Br.ob h (fun p2 h => ?_) (fun p2 h => ?_)
  ·conv => whnf
   refine Br.no ?_
   conv => whnf
   refine Cells.lit rfl rfl ?_
   conv => whnf
   refine Br.no ?_
   conv => whnf
   refine Br.no ?_
   conv => whnf
   refine CallQ.o V.bool (by first | rfl | simp only [Aa, V.fz, fzL, V.up, upL, Ab, Ac, Ad, slr, List.cons_append, List.nil_append] | simp [Aa, V.fz, fzL, V.up, upL, Ab, Ac, Ad, slr]) h (fun r h => F5 h) (fun r3 h => ?_)
   conv => whnf
   refine Br.no ?_
   conv => whnf
   refine Br.no ?_
   conv => whnf
   refine Br.flip ?_
   conv => whnf
   refine Br.ob h (fun p4 h => ?_) (fun p4 h => ?_)
   ·conv => whnf
    refine Br.no ?_
    conv => whnf
    refine Len.map ?_
    conv => whnf
    refine Br.no ?_
    conv => whnf
    refine Br.no ?_
    conv => whnf
    refine Br.od h (fun p5 h => ?_) (fun p5 h => ?_)
    ·conv => whnf
     cases h; exact ⟨rfl, rfl⟩
    conv => whnf
    cases h; exact ⟨rfl, rfl⟩
   conv => whnf
   refine Br.yes ?_
   conv => whnf
   refine Br.yes ?_
   conv => whnf
   refine Br.yes ?_
   conv => whnf
   refine Br.yes ?_
   conv => whnf
   cases h; exact ⟨rfl, rfl⟩
  conv => whnf
  refine Br.yes ?_
  conv => whnf
  refine Br.yes ?_
  conv => whnf
  refine Br.yes ?_
  conv => whnf
  refine Br.yes ?_
  conv => whnf
  refine Br.yes ?_
  conv => whnf
  refine Br.yes ?_
  conv => whnf
  refine Br.yes ?_
  conv => whnf
  refine Br.yes ?_
  conv => whnf
  refine Br.yes ?_
  conv => whnf
  refine Br.yes ?_
  conv => whnf
  cases h; exact ⟨rfl, rfl⟩
 rintro (⟨⟩ | ⟨⟩) h
 ·try dsimp only at h
  conv => whnf
  cases h; exact (by first | rfl | simp only [Ah, Aa, V.fz, fzL, V.up, upL, Ab, Ac, Ad, slr] | simp [Ah, Aa, V.fz, fzL, V.up, upL, Ab, Ac, Ad, slr])
 try dsimp only at h
 conv => whnf
 refine Len.map ?_
 conv => whnf
 refine LoopQ.o [36, 35, 34, 8, 3, 1, 2] (G2 a0 k0 list0) (Kw a0 k0 list0) h (fun s o h => Rx s o h) (by first | rfl | simp [restrict, look, Aa, V.fz, fzL, V.up, upL, Ab, Ac, Ad, slr]) (by rintro (_ | _) <;> rfl) ?_
 rintro (⟨⟩ | q14_8) h
 ·try dsimp only at h
  conv => whnf
  cases h; exact (by first | rfl | simp only [Ah, Aa, V.fz, fzL, V.up, upL, Ab, Ac, Ad, slr] | simp [Ah, Aa, V.fz, fzL, V.up, upL, Ab, Ac, Ad, slr])
 try dsimp only at h
 conv => whnf
 refine LoopQ.o [11, 8, 3, 1, 2] (G3 a0 k0 list0 q14_8) (Km a0 k0 list0 q14_8) h (fun s o h => R3 s o h) (by first | rfl | simp [restrict, look, Aa, V.fz, fzL, V.up, upL, Ab, Ac, Ad, slr]) (by rintro (_ | _) <;> rfl) ?_
 rintro (⟨⟩ | ⟨⟩) h
 ·try dsimp only at h
  conv => whnf
  cases h; exact (by first | rfl | simp only [Ah, Aa, V.fz, fzL, V.up, upL, Ab, Ac, Ad, slr] | simp [Ah, Aa, V.fz, fzL, V.up, upL, Ab, Ac, Ad, slr])
 try dsimp only at h
 conv => whnf
 refine Cells.lit rfl rfl ?_
 conv => whnf
 refine Len.map ?_
 conv => whnf
 refine LoopQ.o [73, 72, 71, 8, 3, 1, 2] (Gy a0 k0 list0 q14_8) (J9 a0 k0 list0 q14_8) h (fun s o h => Rv s o h) (by first | rfl | simp [restrict, look, Aa, V.fz, fzL, V.up, upL, Ab, Ac, Ad, slr]) (by rintro (_ | _) <;> rfl) ?_
 rintro (⟨⟩ | ⟨⟩) h
 ·try dsimp only at h
  conv => whnf
  cases h; exact (by first | rfl | simp only [Ah, Aa, V.fz, fzL, V.up, upL, Ab, Ac, Ad, slr] | simp [Ah, Aa, V.fz, fzL, V.up, upL, Ab, Ac, Ad, slr])
 try dsimp only at h
 conv => whnf
 cases h; exact (by first | rfl | simp only [Ah, Aa, V.fz, fzL, V.up, upL, Ab, Ac, Ad, slr] | simp [Ah, Aa, V.fz, fzL, V.up, upL, Ab, Ac, Ad, slr])
end Go.Proofs.Ytoaojijoefljaaa.Ax
