/-
 What the functions compute, as functions on plain data, and that the program does compute it; written by program.
-/
import Derived.Test.YtoaojijoefljaaaCode
import Derived.Test.YtoaojijoefljaaaG1
import Derived.Test.YtoaojijoefljaaaG2
import Derived.Test.YtoaojijoefljaaaG3
namespace Go.Proofs.Ytoaojijoefljaaa.Ax
open Go
set_option maxRecDepth 100000
set_option maxHeartbeats 4000000
noncomputable def Ft (a0 : List SOp) (b0 : List SOp) : Int → Option (Int ⊕ (Unit ⊕ Unit)) := fun x5 =>
 if x5 < (↑a0.length : Int) then
 ask ((0 : Int) ≤ x5 ∧ x5 < (↑a0.length : Int)) <|
 ask ((0 : Int) ≤ x5 ∧ x5 < (↑b0.length : Int)) <|
 (H4 (nth a0 x5.toNat) (nth b0 x5.toNat)).bind fun r5 =>
 if (r5) = true then
 ask (InI (x5 + (1 : Int))) <|
 some (.inl (x5 + (1 : Int)))
 else
 some (.inr (.inl ()))
 else
 some (.inr (.inr ()))
def P5 (a0 : List SOp) (b0 : List SOp) : Int → St := fun s => [(5, A.val (Ae s)), (0, A.val ((slr false 2 (Ai false)) (a0))), (1, A.val ((slr false 2 (Ai false)) (b0)))]
def Xw (_a0 : List SOp) (_b0 : List SOp) : (Unit ⊕ Unit) → Tgt
 | (.inl _s) => (Ex.ret, [4], [(4, A.val (V.bool (false)))])
 | (.inr _s) => ((Ex.exit 0), [], [])
theorem Ah9 {a0 : List SOp} {b0 : List SOp} (x5 : Int) (o : Int ⊕ (Unit ⊕ Unit)) (h : Ft a0 b0 x5 = some o) : vc Try.prog X2 (Dy [5, 0, 1] (P5 a0 b0) (Xw a0 b0) o) (P5 a0 b0 x5) := by
 unfold Ft at h
 try dsimp only at h
 conv => whnf
 refine Len.map ?_
 conv => whnf
 refine Br.od h (fun p2 h => ?_) (fun p2 h => ?_)
 ·conv => whnf
  refine Len.map ?_
  conv => whnf
  refine Ask.o h fun p3 h => ?_
  conv => whnf
  refine Elem.o (by first | omega | (simp [Bh] at * <;> omega)) ?_
  conv => whnf
  refine Len.map ?_
  conv => whnf
  refine Ask.o h fun p4 h => ?_
  conv => whnf
  refine Elem.o (by first | omega | (simp [Bh] at * <;> omega)) ?_
  conv => whnf
  refine CallQ.o V.bool (by rfl) h (fun r h => Z8 h) (fun r5 h => ?_)
  conv => whnf
  refine Br.flip ?_
  conv => whnf
  refine Br.ob h (fun p6 h => ?_) (fun p6 h => ?_)
  ·conv => whnf
   refine Ask.o h fun p7 h => ?_
   conv => whnf
   cases h; exact ⟨rfl, rfl⟩
  conv => whnf
  cases h; exact ⟨rfl, rfl⟩
 conv => whnf
 cases h; exact ⟨rfl, rfl⟩
noncomputable def Nr (a0 : (List SOp)) (b0 : (List SOp)) : Option Bool :=
 if (↑a0.length : Int) ≠ (↑b0.length : Int) then
 some false
 else
 (Ar (Ft a0 b0) (0 : Int)).bind fun t => match t with
 | (.inl _) => (some false)
 | (.inr _) => (some true)
theorem Aoz {a0 : (List SOp)} {b0 : (List SOp)} {v : Bool} (h : Nr a0 b0 = some v) : Ret Try.prog Xx [(slr false 2 (Ai false)) a0, (slr false 2 (Ai false)) b0] (V.bool v) := by
 refine Bg Anm (Nat.le_of_ble_eq_true rfl) ?_
 unfold Nr at h
 conv => whnf
 refine Len.map ?_
 conv => whnf
 refine Len.map ?_
 conv => whnf
 refine Br.on h (fun p1 h => ?_) (fun p1 h => ?_)
 ·conv => whnf
  cases h; exact (by rfl)
 conv => whnf
 refine LoopQ.o [5, 0, 1] (P5 a0 b0) (Xw a0 b0) h (fun s o h => Ah9 s o h) (by rfl) (by rintro (_ | _) <;> rfl) ?_
 rintro (⟨⟩ | ⟨⟩) h
 ·try dsimp only at h
  conv => whnf
  cases h; exact (by rfl)
 try dsimp only at h
 conv => whnf
 cases h; exact (by rfl)
noncomputable def Bv (n0 : Int) (_f0 : SOp) (list0 : List SOp) : (Int × (List (List Int))) → Option ((Int × (List (List Int))) ⊕ (Unit ⊕ (List (List Int)))) := fun (x41, x9) =>
 if x41 < (↑list0.length : Int) then
 ask ((0 : Int) ≤ x41 ∧ x41 < (↑list0.length : Int)) <|
 if (nth list0 x41.toNat).Arity ≠ (nth list0 (Int.toNat (0 : Int))).Arity then
 some (.inr (.inl ()))
 else
 if (nth list0 (Int.toNat (0 : Int))).Arity < (1 : Int) then
 some (.inr (.inl ()))
 else
 (C6 (nth list0 x41.toNat) (n0)).bind fun r13 =>
 if (r13) = true then
 ask ((x9).length + ([(nth list0 x41.toNat).Table]).length ≤ LIM) <|
 ask (InI (x41 + (1 : Int))) <|
 some (.inl (x41 + (1 : Int), x9 ++ [(nth list0 x41.toNat).Table]))
 else
 some (.inr (.inl ()))
 else
 some (.inr (.inr x9))
def Fy (n0 : Int) (f0 : SOp) (list0 : List SOp) : (Int × (List (List Int))) → St := fun s => [(41, A.val (Ae s.1)), (40, A.val (Ae ((↑list0.length : Int)))), (39, A.val ((slr false 2 (Ai false)) (list0))), (9, A.val ((slr true 1 (slr false 1 Ae)) s.2)), (8, A.val (Ae ((nth list0 (Int.toNat (0 : Int))).Arity))), (6, A.val ((rP true (Ai true)) ({ Arity := (0 : Int), Table := Ao Int }))), (4, A.val ((rP true (Ai false)) (f0))), (0, A.val (Ae (n0)))]
def Iw (n0 : Int) (f0 : SOp) (list0 : List SOp) : (Unit ⊕ (List (List Int))) → Tgt
 | (.inl _s) => (Ex.ret, [7, 6], [(7, A.val (V.bool (false))), (6, A.val ((rP true (Ai true)) ({ Arity := (0 : Int), Table := Ao Int })))])
 | (.inr s) => ((Ex.exit 0), [9, 8, 6, 4, 0], [(9, A.val ((slr true 1 (slr false 1 Ae)) s)), (8, A.val (Ae ((nth list0 (Int.toNat (0 : Int))).Arity))), (6, A.val ((rP true (Ai true)) ({ Arity := (0 : Int), Table := Ao Int }))), (4, A.val ((rP true (Ai false)) (f0))), (0, A.val (Ae (n0)))])
theorem Pj {n0 : Int} {f0 : SOp} {list0 : List SOp} (s : (Int × (List (List Int)))) (o : (Int × (List (List Int))) ⊕ (Unit ⊕ (List (List Int)))) (h : Bv n0 f0 list0 s = some o) : vc Try.prog Iu (Dy [41, 40, 39, 9, 8, 6, 4, 0] (Fy n0 f0 list0) (Iw n0 f0 list0) o) (Fy n0 f0 list0 s) := by
 obtain ⟨x41, x9⟩ := s
 unfold Bv at h
 try dsimp only at h
 conv => whnf
 refine Br.od h (fun p9 h => ?_) (fun p9 h => ?_)
 ·conv => whnf
  refine Len.map ?_
  conv => whnf
  refine Ask.o h fun p10 h => ?_
  conv => whnf
  refine Elem.o (by first | omega | (simp [Bh] at * <;> omega)) ?_
  conv => whnf
  refine SetKids.lit rfl ?_
  conv => whnf
  refine Cells.lit rfl rfl ?_
  conv => whnf
  refine Br.on h (fun p11 h => ?_) (fun p11 h => ?_)
  ·conv => whnf
   refine Br.yes ?_
   conv => whnf
   refine Br.yes ?_
   conv => whnf
   refine Br.yes ?_
   conv => whnf
   refine Br.yes ?_
   conv => whnf
   refine Br.yes ?_
   conv => whnf
   refine Br.yes ?_
   conv => whnf
   refine Br.yes ?_
   conv => whnf
   refine Br.yes ?_
   conv => whnf
   refine SetKids.lit rfl ?_
   conv => whnf
   cases h; exact ⟨rfl, rfl⟩
  conv => whnf
  refine Br.no ?_
  conv => whnf
  refine Br.no ?_
  conv => whnf
  refine Br.od h (fun p12 h => ?_) (fun p12 h => ?_)
  ·conv => whnf
   refine Br.yes ?_
   conv => whnf
   refine Br.yes ?_
   conv => whnf
   refine Br.yes ?_
   conv => whnf
   refine Br.yes ?_
   conv => whnf
   refine Br.yes ?_
   conv => whnf
   refine SetKids.lit rfl ?_
   conv => whnf
   cases h; exact ⟨rfl, rfl⟩
  conv => whnf
  refine Cells.lit rfl rfl ?_
  conv => whnf
  refine Br.no ?_
  conv => whnf
  refine Br.no ?_
  conv => whnf
  refine CallQ.o V.bool (by rfl) h (fun r h => Hq h) (fun r13 h => ?_)
  conv => whnf
  refine Br.no ?_
  conv => whnf
  refine Br.no ?_
  conv => whnf
  refine Br.flip ?_
  conv => whnf
  refine Br.ob h (fun p14 h => ?_) (fun p14 h => ?_)
  ·conv => whnf
   refine Cells.lit rfl rfl ?_
   conv => whnf
   refine BslQ.o (slr false 1 Ae) ([(nth list0 x41.toNat).Table]) (by exact fun _ => ⟨rfl, rfl⟩) (by rfl) ?_
   conv => whnf
   refine NoOwn.o (fun _ => rfl) ?_
   conv => whnf
   refine AppQ.o (m := 1) (slr false 1 Ae) (by exact fun _ => ⟨rfl, rfl⟩) (x9) ([(nth list0 x41.toNat).Table]) (by rfl) (by rfl) h fun h => ?_
   conv => whnf
   refine Ask.o h fun p15 h => ?_
   conv => whnf
   cases h; exact ⟨rfl, rfl⟩
  conv => whnf
  refine SetKids.lit rfl ?_
  conv => whnf
  cases h; exact ⟨rfl, rfl⟩
 conv => whnf
 cases h; exact ⟨rfl, rfl⟩
noncomputable def Df (n0 : Int) (f0 : SOp) (list0 : (List SOp)) : Option (SOp × Bool) :=
 (((En (n0)).bind fun r1 =>
 if (r1) = true then
 (C6 (f0) (n0)).bind fun r3 =>
 if (r3) = true then
 if f0.Arity < (1 : Int) then
 some (.inl ())
 else
 if (↑list0.length : Int) ≠ f0.Arity then
 some (.inl ())
 else
 some (.inr ())
 else
 some (.inl ())
 else
 some (.inl ()) : Option (Unit ⊕ Unit))).bind fun t => match t with
 | (.inl _) => (some ({ Arity := (0 : Int), Table := Ao Int }, false))
 | (.inr _) => (ask ((0 : Int) ≤ (0 : Int) ∧ (0 : Int) < (↑list0.length : Int)) <|
 (Ar (Bv n0 f0 list0) ((0 : Int), Ao (List Int))).bind fun t => match t with
 | (.inl _) => (some ({ Arity := (0 : Int), Table := Ao Int }, false))
 | (.inr q16_9) => ((Ck (n0) ((nth list0 (Int.toNat (0 : Int))).Arity)).bind fun r17 =>
 (Dh (n0) (f0) (q16_9) (r17)).bind fun r18 =>
 some ({ Arity := (nth list0 (Int.toNat (0 : Int))).Arity, Table := r18 }, true)))
theorem S9 {n0 : Int} {f0 : SOp} {list0 : (List SOp)} {v : (SOp × Bool)} (h : Df n0 f0 list0 = some v) : Ret Try.prog G5 [Ae n0, (Ai false) f0, (slr false 2 (Ai false)) list0] ((fun r => V.tup [(Ai true) r.1, V.bool r.2]) v) := by
 refine Bg Td (Nat.le_of_ble_eq_true rfl) ?_
 unfold Df at h
 conv => whnf
 refine CutQ.o (fun t : (Unit ⊕ Unit) => match t with | (.inl s) => (Ex.ret, [7, 6], [(7, A.val (V.bool (false))), (6, A.val ((rP true (Ai true)) ({ Arity := (0 : Int), Table := Ao Int })))]) | (.inr s) => (Ex.normal, [6, 4, 0, 2], [(6, A.val ((rP true (Ai true)) ({ Arity := (0 : Int), Table := Ao Int }))), (4, A.val ((rP true (Ai false)) (f0))), (0, A.val (Ae (n0))), (2, A.val ((slr false 2 (Ai false)) (list0)))])) h ?_ ?_
 ·intro t h
  conv => whnf
  refine CallQ.o V.bool (by rfl) h (fun r h => M5 h) (fun r1 h => ?_)
  conv => whnf
  refine Br.flip ?_
  conv => whnf
  refine Br.ob h (fun p2 h => ?_) (fun p2 h => ?_)
  ·conv => whnf
   refine Cells.lit rfl rfl ?_
   conv => whnf
   refine Br.no ?_
   conv => whnf
   refine Br.no ?_
   conv => whnf
   refine CallQ.o V.bool (by rfl) h (fun r h => Hq h) (fun r3 h => ?_)
   conv => whnf
   refine Br.no ?_
   conv => whnf
   refine Br.no ?_
   conv => whnf
   refine Br.flip ?_
   conv => whnf
   refine Br.ob h (fun p4 h => ?_) (fun p4 h => ?_)
   ·conv => whnf
    refine Br.no ?_
    conv => whnf
    refine Cells.lit rfl rfl ?_
    conv => whnf
    refine Br.no ?_
    conv => whnf
    refine Br.no ?_
    conv => whnf
    refine Br.od h (fun p5 h => ?_) (fun p5 h => ?_)
    ·conv => whnf
     refine Br.yes ?_
     conv => whnf
     refine Br.yes ?_
     conv => whnf
     refine Br.yes ?_
     conv => whnf
     refine Br.yes ?_
     conv => whnf
     refine Br.yes ?_
     conv => whnf
     refine Br.yes ?_
     conv => whnf
     refine SetKids.lit rfl ?_
     conv => whnf
     cases h; exact ⟨rfl, rfl⟩
    conv => whnf
    refine Br.no ?_
    conv => whnf
    refine Len.map ?_
    conv => whnf
    refine Br.no ?_
    conv => whnf
    refine Br.no ?_
    conv => whnf
    refine Cells.lit rfl rfl ?_
    conv => whnf
    refine Br.no ?_
    conv => whnf
    refine Br.no ?_
    conv => whnf
    refine Br.on h (fun p6 h => ?_) (fun p6 h => ?_)
    ·conv => whnf
     refine SetKids.lit rfl ?_
     conv => whnf
     cases h; exact ⟨rfl, rfl⟩
    conv => whnf
    cases h; exact ⟨rfl, rfl⟩
   conv => whnf
   refine Br.yes ?_
   conv => whnf
   refine Br.yes ?_
   conv => whnf
   refine Br.yes ?_
   conv => whnf
   refine Br.yes ?_
   conv => whnf
   refine Br.yes ?_
   conv => whnf
   refine Br.yes ?_
   conv => whnf
   refine Br.yes ?_
   conv => whnf
   refine Br.yes ?_
   conv => whnf
   refine Br.yes ?_
   conv => whnf
   refine Br.yes ?_
   conv => whnf
   refine SetKids.lit rfl ?_
   conv => whnf
   cases h; exact ⟨rfl, rfl⟩
  conv => whnf
  refine Br.yes ?_
  conv => whnf
  refine Br.yes ?_
  conv => whnf
  refine Br.yes ?_
  conv => whnf
  refine Br.yes ?_
  conv => whnf
  refine Br.yes ?_
  conv => whnf
  refine Br.yes ?_
  conv => whnf
  refine Br.yes ?_
  conv => whnf
  refine Br.yes ?_
  conv => whnf
  refine Br.yes ?_
  conv => whnf
  refine Br.yes ?_
  conv => whnf
  refine Br.yes ?_
  conv => whnf
  refine Br.yes ?_
  conv => whnf
  refine Br.yes ?_
  conv => whnf
  refine Br.yes ?_
  conv => whnf
  refine Br.yes ?_
  conv => whnf
  refine SetKids.lit rfl ?_
  conv => whnf
  cases h; exact ⟨rfl, rfl⟩
 rintro (⟨⟩ | ⟨⟩) h
 ·try dsimp only at h
  conv => whnf
  cases h; exact (by rfl)
 try dsimp only at h
 conv => whnf
 refine Len.map ?_
 conv => whnf
 refine Ask.o h fun p8 h => ?_
 conv => whnf
 refine Elem.o (by first | omega | (simp [Bh] at * <;> omega)) ?_
 conv => whnf
 refine BslQ.o (slr true 1 Ae) (Ao (List Int)) (by exact fun _ => ⟨rfl, rfl⟩) (by rfl) ?_
 conv => whnf
 refine Len.map ?_
 conv => whnf
 refine LoopQ.o [41, 40, 39, 9, 8, 6, 4, 0] (Fy n0 f0 list0) (Iw n0 f0 list0) h (fun s o h => Pj s o h) (by rfl) (by rintro (_ | _) <;> rfl) ?_
 rintro (⟨⟩ | q16_9) h
 ·try dsimp only at h
  conv => whnf
  cases h; exact (by rfl)
 try dsimp only at h
 conv => whnf
 refine Cells.lit rfl rfl ?_
 conv => whnf
 refine CallP.o Ae (by rfl) h (fun r h => Gq h) (fun r17 h => ?_)
 conv => whnf
 refine CallP.rd (slr true 1 Ae) (by first | rfl | simp only [V.fz, fzL, V.up, Ab, Ad, slr] | simp [Aa, V.fz, fzL, V.up, upL, Ab, Ac, Ad, slr]) (fun _ => by simp [V.noFz, Be]) h (fun r h => Nc h) (fun r18 h => ?_)
 conv => whnf
 refine SetKids.lit rfl ?_
 conv => whnf
 cases h; exact (by rfl)
noncomputable def Bu (n0 : Int) (_f0 : SOp) (list0 : List SOp) : (Int × (List (List Int))) → Option ((Int × (List (List Int))) ⊕ (Unit ⊕ (List (List Int)))) := fun (x9, x8) =>
 if x9 < (↑list0.length : Int) then
 ((ask ((0 : Int) ≤ x9 ∧ x9 < (↑list0.length : Int)) <|
 (C5 (n0) (nth list0 x9.toNat)).bind fun r10 =>
 if (r10) = true then
 ask ((0 : Int) ≤ x9 ∧ x9 < (↑list0.length : Int)) <|
 if (nth list0 x9.toNat).Arity < (1 : Int) then
 some (.inl ())
 else
 ask ((0 : Int) ≤ x9 ∧ x9 < (↑list0.length : Int)) <|
 ask ((0 : Int) ≤ (0 : Int) ∧ (0 : Int) < (↑list0.length : Int)) <|
 if (nth list0 x9.toNat).Arity ≠ (nth list0 (Int.toNat (0 : Int))).Arity then
 some (.inl ())
 else
 some (.inr ())
 else
 some (.inl ()) : Option (Unit ⊕ Unit))).bind fun t => match t with
 | (.inl _) => (some (.inr (.inl ())))
 | (.inr _) => (ask ((0 : Int) ≤ x9 ∧ x9 < (↑list0.length : Int)) <|
 ask ((x8).length + ([(nth list0 x9.toNat).Table]).length ≤ LIM) <|
 ask (InI (x9 + (1 : Int))) <|
 some (.inl (x9 + (1 : Int), x8 ++ [(nth list0 x9.toNat).Table])))
 else
 some (.inr (.inr x8))
def Fr (n0 : Int) (f0 : SOp) (list0 : List SOp) : (Int × (List (List Int))) → St := fun s => [(9, A.val (Ae s.1)), (8, A.val ((slr true 1 (slr false 1 Ae)) s.2)), (6, A.val ((rP true (Ai true)) ({ Arity := (0 : Int), Table := Ao Int }))), (4, A.val ((rP true (Ai false)) (f0))), (0, A.val (Ae (n0))), (2, A.val ((slr false 2 (Ai false)) (list0)))]
def I7 (n0 : Int) (f0 : SOp) (list0 : List SOp) : (Unit ⊕ (List (List Int))) → Tgt
 | (.inl _s) => (Ex.ret, [7, 6], [(7, A.val (V.bool (false))), (6, A.val ((rP true (Ai true)) ({ Arity := (0 : Int), Table := Ao Int })))])
 | (.inr s) => ((Ex.exit 0), [8, 6, 4, 0, 2], [(8, A.val ((slr true 1 (slr false 1 Ae)) s)), (6, A.val ((rP true (Ai true)) ({ Arity := (0 : Int), Table := Ao Int }))), (4, A.val ((rP true (Ai false)) (f0))), (0, A.val (Ae (n0))), (2, A.val ((slr false 2 (Ai false)) (list0)))])
theorem P7 {n0 : Int} {f0 : SOp} {list0 : List SOp} (s : (Int × (List (List Int)))) (o : (Int × (List (List Int))) ⊕ (Unit ⊕ (List (List Int)))) (h : Bu n0 f0 list0 s = some o) : vc Try.prog Iz (Dy [9, 8, 6, 4, 0, 2] (Fr n0 f0 list0) (I7 n0 f0 list0) o) (Fr n0 f0 list0 s) := by
 obtain ⟨x9, x8⟩ := s
 unfold Bu at h
 try dsimp only at h
 conv => whnf
 refine Len.map ?_
 conv => whnf
 refine Br.od h (fun p8 h => ?_) (fun p8 h => ?_)
 ·conv => whnf
  refine CutQ.o (fun t : (Unit ⊕ Unit) => match t with | (.inl s) => (Ex.ret, [7, 6], [(7, A.val (V.bool (false))), (6, A.val ((rP true (Ai true)) ({ Arity := (0 : Int), Table := Ao Int })))]) | (.inr s) => (Ex.normal, [9, 8, 6, 4, 0, 2], [(9, A.val (Ae (x9))), (8, A.val ((slr true 1 (slr false 1 Ae)) (x8))), (6, A.val ((rP true (Ai true)) ({ Arity := (0 : Int), Table := Ao Int }))), (4, A.val ((rP true (Ai false)) (f0))), (0, A.val (Ae (n0))), (2, A.val ((slr false 2 (Ai false)) (list0)))])) h ?_ ?_
  ·intro t h
   conv => whnf
   refine Len.map ?_
   conv => whnf
   refine Ask.o h fun p9 h => ?_
   conv => whnf
   refine Elem.o (by first | omega | (simp [Bh] at * <;> omega)) ?_
   conv => whnf
   refine CallP.o V.bool (by rfl) h (fun r h => Hn h) (fun r10 h => ?_)
   conv => whnf
   refine Br.flip ?_
   conv => whnf
   refine Br.ob h (fun p11 h => ?_) (fun p11 h => ?_)
   ·conv => whnf
    refine Br.no ?_
    conv => whnf
    refine Br.no ?_
    conv => whnf
    refine Len.map ?_
    conv => whnf
    refine Ask.o h fun p12 h => ?_
    conv => whnf
    refine Elem.o (by first | omega | (simp [Bh] at * <;> omega)) ?_
    conv => whnf
    refine Br.no ?_
    conv => whnf
    refine Br.no ?_
    conv => whnf
    refine Br.no ?_
    conv => whnf
    refine Br.no ?_
    conv => whnf
    refine Br.od h (fun p13 h => ?_) (fun p13 h => ?_)
    ·conv => whnf
     refine Br.yes ?_
     conv => whnf
     refine Br.yes ?_
     conv => whnf
     refine Br.yes ?_
     conv => whnf
     refine Br.yes ?_
     conv => whnf
     refine Br.yes ?_
     conv => whnf
     refine Br.yes ?_
     conv => whnf
     refine Br.yes ?_
     conv => whnf
     refine Br.yes ?_
     conv => whnf
     refine Br.yes ?_
     conv => whnf
     refine Br.yes ?_
     conv => whnf
     refine Br.yes ?_
     conv => whnf
     refine SetKids.lit rfl ?_
     conv => whnf
     cases h; exact ⟨rfl, rfl⟩
    conv => whnf
    refine Br.no ?_
    conv => whnf
    refine Br.no ?_
    conv => whnf
    refine Len.map ?_
    conv => whnf
    refine Ask.o h fun p14 h => ?_
    conv => whnf
    refine Elem.o (by first | omega | (simp [Bh] at * <;> omega)) ?_
    conv => whnf
    refine Br.no ?_
    conv => whnf
    refine Br.no ?_
    conv => whnf
    refine Br.no ?_
    conv => whnf
    refine Br.no ?_
    conv => whnf
    refine Len.map ?_
    conv => whnf
    refine Ask.o h fun p15 h => ?_
    conv => whnf
    refine Elem.o (by first | omega | (simp [Bh] at * <;> omega)) ?_
    conv => whnf
    refine Br.no ?_
    conv => whnf
    refine Br.no ?_
    conv => whnf
    refine Br.no ?_
    conv => whnf
    refine Br.no ?_
    conv => whnf
    refine Br.on h (fun p16 h => ?_) (fun p16 h => ?_)
    ·conv => whnf
     refine SetKids.lit rfl ?_
     conv => whnf
     cases h; exact ⟨rfl, rfl⟩
    conv => whnf
    cases h; exact ⟨rfl, rfl⟩
   conv => whnf
   refine Br.yes ?_
   conv => whnf
   refine Br.yes ?_
   conv => whnf
   refine Br.yes ?_
   conv => whnf
   refine Br.yes ?_
   conv => whnf
   refine Br.yes ?_
   conv => whnf
   refine Br.yes ?_
   conv => whnf
   refine Br.yes ?_
   conv => whnf
   refine Br.yes ?_
   conv => whnf
   refine Br.yes ?_
   conv => whnf
   refine Br.yes ?_
   conv => whnf
   refine Br.yes ?_
   conv => whnf
   refine Br.yes ?_
   conv => whnf
   refine Br.yes ?_
   conv => whnf
   refine Br.yes ?_
   conv => whnf
   refine Br.yes ?_
   conv => whnf
   refine Br.yes ?_
   conv => whnf
   refine Br.yes ?_
   conv => whnf
   refine Br.yes ?_
   conv => whnf
   refine SetKids.lit rfl ?_
   conv => whnf
   cases h; exact ⟨rfl, rfl⟩
  rintro (⟨⟩ | ⟨⟩) h
  ·try dsimp only at h
   conv => whnf
   cases h; exact ⟨rfl, rfl⟩
  try dsimp only at h
  conv => whnf
  refine Len.map ?_
  conv => whnf
  refine Ask.o h fun p18 h => ?_
  conv => whnf
  refine Elem.o (by first | omega | (simp [Bh] at * <;> omega)) ?_
  conv => whnf
  refine BslQ.o (slr false 1 Ae) ([(nth list0 x9.toNat).Table]) (by exact fun _ => ⟨rfl, rfl⟩) (by rfl) ?_
  conv => whnf
  refine NoOwn.o (fun _ => rfl) ?_
  conv => whnf
  refine AppQ.o (m := 1) (slr false 1 Ae) (by exact fun _ => ⟨rfl, rfl⟩) (x8) ([(nth list0 x9.toNat).Table]) (by rfl) (by rfl) h fun h => ?_
  conv => whnf
  refine Ask.o h fun p19 h => ?_
  conv => whnf
  cases h; exact ⟨rfl, rfl⟩
 conv => whnf
 cases h; exact ⟨rfl, rfl⟩
noncomputable def Ds (n0 : Int) (f0 : SOp) (list0 : (List SOp)) : Option (SOp × Bool) :=
 (((C8 (n0)).bind fun r1 =>
 if (r1) = true then
 (C5 (n0) (f0)).bind fun r3 =>
 if (r3) = true then
 if f0.Arity < (1 : Int) then
 some (.inl ())
 else
 if (↑list0.length : Int) ≠ f0.Arity then
 some (.inl ())
 else
 some (.inr ())
 else
 some (.inl ())
 else
 some (.inl ()) : Option (Unit ⊕ Unit))).bind fun t => match t with
 | (.inl _) => (some ({ Arity := (0 : Int), Table := Ao Int }, false))
 | (.inr _) => ((Ar (Bu n0 f0 list0) ((0 : Int), Ao (List Int))).bind fun t => match t with
 | (.inl _) => (some ({ Arity := (0 : Int), Table := Ao Int }, false))
 | (.inr q20_8) => (ask ((0 : Int) ≤ (0 : Int) ∧ (0 : Int) < (↑list0.length : Int)) <|
 ask ((0 : Int) ≤ (0 : Int) ∧ (0 : Int) < (↑list0.length : Int)) <|
 (Dw (n0) (f0) (q20_8) ((↑(nth list0 (Int.toNat (0 : Int))).Table.length : Int))).bind fun r23 =>
 some ({ Arity := (nth list0 (Int.toNat (0 : Int))).Arity, Table := r23 }, true)))
theorem S3 {n0 : Int} {f0 : SOp} {list0 : (List SOp)} {v : (SOp × Bool)} (h : Ds n0 f0 list0 = some v) : Ret Try.prog Ha [Ae n0, (Ai false) f0, (slr false 2 (Ai false)) list0] ((fun r => V.tup [(Ai true) r.1, V.bool r.2]) v) := by
 refine Bg Ta (Nat.le_of_ble_eq_true rfl) ?_
 unfold Ds at h
 conv => whnf
 refine CutQ.o (fun t : (Unit ⊕ Unit) => match t with | (.inl s) => (Ex.ret, [7, 6], [(7, A.val (V.bool (false))), (6, A.val ((rP true (Ai true)) ({ Arity := (0 : Int), Table := Ao Int })))]) | (.inr s) => (Ex.normal, [6, 4, 0, 2], [(6, A.val ((rP true (Ai true)) ({ Arity := (0 : Int), Table := Ao Int }))), (4, A.val ((rP true (Ai false)) (f0))), (0, A.val (Ae (n0))), (2, A.val ((slr false 2 (Ai false)) (list0)))])) h ?_ ?_
 ·intro t h
  conv => whnf
  refine CallQ.o V.bool (by rfl) h (fun r h => I3 h) (fun r1 h => ?_)
  conv => whnf
  refine Br.flip ?_
  conv => whnf
  refine Br.ob h (fun p2 h => ?_) (fun p2 h => ?_)
  ·conv => whnf
   refine Br.no ?_
   conv => whnf
   refine Cells.lit rfl rfl ?_
   conv => whnf
   refine Br.no ?_
   conv => whnf
   refine CallQ.o V.bool (by rfl) h (fun r h => Hn h) (fun r3 h => ?_)
   conv => whnf
   refine Br.no ?_
   conv => whnf
   refine Br.no ?_
   conv => whnf
   refine Br.flip ?_
   conv => whnf
   refine Br.ob h (fun p4 h => ?_) (fun p4 h => ?_)
   ·conv => whnf
    refine Br.no ?_
    conv => whnf
    refine Cells.lit rfl rfl ?_
    conv => whnf
    refine Br.no ?_
    conv => whnf
    refine Br.no ?_
    conv => whnf
    refine Br.od h (fun p5 h => ?_) (fun p5 h => ?_)
    ·conv => whnf
     refine Br.yes ?_
     conv => whnf
     refine Br.yes ?_
     conv => whnf
     refine Br.yes ?_
     conv => whnf
     refine Br.yes ?_
     conv => whnf
     refine Br.yes ?_
     conv => whnf
     refine Br.yes ?_
     conv => whnf
     refine SetKids.lit rfl ?_
     conv => whnf
     cases h; exact ⟨rfl, rfl⟩
    conv => whnf
    refine Br.no ?_
    conv => whnf
    refine Len.map ?_
    conv => whnf
    refine Br.no ?_
    conv => whnf
    refine Br.no ?_
    conv => whnf
    refine Cells.lit rfl rfl ?_
    conv => whnf
    refine Br.no ?_
    conv => whnf
    refine Br.no ?_
    conv => whnf
    refine Br.on h (fun p6 h => ?_) (fun p6 h => ?_)
    ·conv => whnf
     refine SetKids.lit rfl ?_
     conv => whnf
     cases h; exact ⟨rfl, rfl⟩
    conv => whnf
    cases h; exact ⟨rfl, rfl⟩
   conv => whnf
   refine Br.yes ?_
   conv => whnf
   refine Br.yes ?_
   conv => whnf
   refine Br.yes ?_
   conv => whnf
   refine Br.yes ?_
   conv => whnf
   refine Br.yes ?_
   conv => whnf
   refine Br.yes ?_
   conv => whnf
   refine Br.yes ?_
   conv => whnf
   refine Br.yes ?_
   conv => whnf
   refine Br.yes ?_
   conv => whnf
   refine Br.yes ?_
   conv => whnf
   refine SetKids.lit rfl ?_
   conv => whnf
   cases h; exact ⟨rfl, rfl⟩
  conv => whnf
  refine Br.yes ?_
  conv => whnf
  refine Br.yes ?_
  conv => whnf
  refine Br.yes ?_
  conv => whnf
  refine Br.yes ?_
  conv => whnf
  refine Br.yes ?_
  conv => whnf
  refine Br.yes ?_
  conv => whnf
  refine Br.yes ?_
  conv => whnf
  refine Br.yes ?_
  conv => whnf
  refine Br.yes ?_
  conv => whnf
  refine Br.yes ?_
  conv => whnf
  refine Br.yes ?_
  conv => whnf
  refine Br.yes ?_
  conv => whnf
  refine Br.yes ?_
  conv => whnf
  refine Br.yes ?_
  conv => whnf
  refine Br.yes ?_
  conv => whnf
  refine SetKids.lit rfl ?_
  conv => whnf
  cases h; exact ⟨rfl, rfl⟩
 rintro (⟨⟩ | ⟨⟩) h
 ·try dsimp only at h
  conv => whnf
  cases h; exact (by rfl)
 try dsimp only at h
 conv => whnf
 refine BslQ.o (slr true 1 Ae) (Ao (List Int)) (by exact fun _ => ⟨rfl, rfl⟩) (by rfl) ?_
 conv => whnf
 refine LoopQ.o [9, 8, 6, 4, 0, 2] (Fr n0 f0 list0) (I7 n0 f0 list0) h (fun s o h => P7 s o h) (by rfl) (by rintro (_ | _) <;> rfl) ?_
 rintro (⟨⟩ | q20_8) h
 ·try dsimp only at h
  conv => whnf
  cases h; exact (by rfl)
 try dsimp only at h
 conv => whnf
 refine Len.map ?_
 conv => whnf
 refine Ask.o h fun p21 h => ?_
 conv => whnf
 refine Elem.o (by first | omega | (simp [Bh] at * <;> omega)) ?_
 conv => whnf
 refine Cells.lit rfl rfl ?_
 conv => whnf
 refine Len.map ?_
 conv => whnf
 refine Ask.o h fun p22 h => ?_
 conv => whnf
 refine Elem.o (by first | omega | (simp [Bh] at * <;> omega)) ?_
 conv => whnf
 refine Len.map ?_
 conv => whnf
 refine CallP.rd (slr true 1 Ae) (by first | rfl | simp only [V.fz, fzL, V.up, Ab, Ad, slr] | simp [Aa, V.fz, fzL, V.up, upL, Ab, Ac, Ad, slr]) (fun _ => by simp [V.noFz, Be]) h (fun r h => Lz h) (fun r23 h => ?_)
 conv => whnf
 refine SetKids.lit rfl ?_
 conv => whnf
 cases h; exact (by rfl)
noncomputable def Ir (n0 : Int) (f0 : SOp) (places0 : (List Int)) (k0 : Int) : Option (SOp × Bool) :=
 (En (n0)).bind fun r1 =>
 if (r1) = true then
 (C6 (f0) (n0)).bind fun r3 =>
 if (r3) = true then
 if k0 < (1 : Int) then
 some ({ Arity := (0 : Int), Table := Ao Int }, false)
 else
 if k0 > (3 : Int) then
 some ({ Arity := (0 : Int), Table := Ao Int }, false)
 else
 if (↑places0.length : Int) ≠ f0.Arity then
 some ({ Arity := (0 : Int), Table := Ao Int }, false)
 else
 (Ig (places0) (k0)).bind fun r8 =>
 if (r8) = true then
 (L2 (n0) (f0) (places0) (k0)).bind fun r10 =>
 some (r10, true)
 else
 some ({ Arity := (0 : Int), Table := Ao Int }, false)
 else
 some ({ Arity := (0 : Int), Table := Ao Int }, false)
 else
 some ({ Arity := (0 : Int), Table := Ao Int }, false)
theorem Ah7 {n0 : Int} {f0 : SOp} {places0 : (List Int)} {k0 : Int} {v : (SOp × Bool)} (h : Ir n0 f0 places0 k0 = some v) : Ret Try.prog Ql [Ae n0, (Ai false) f0, (slr false 1 Ae) places0, Ae k0] ((fun r => V.tup [(Ai true) r.1, V.bool r.2]) v) := by
 refine Bg Ahe (Nat.le_of_ble_eq_true rfl) ?_
 unfold Ir at h
 conv => whnf
 refine CallQ.o V.bool (by rfl) h (fun r h => M5 h) (fun r1 h => ?_)
 conv => whnf
 refine Br.flip ?_
 conv => whnf
 refine Br.ob h (fun p2 h => ?_) (fun p2 h => ?_)
 ·conv => whnf
  refine Cells.lit rfl rfl ?_
  conv => whnf
  refine Br.no ?_
  conv => whnf
  refine Br.no ?_
  conv => whnf
  refine CallQ.o V.bool (by rfl) h (fun r h => Hq h) (fun r3 h => ?_)
  conv => whnf
  refine Br.no ?_
  conv => whnf
  refine Br.no ?_
  conv => whnf
  refine Br.flip ?_
  conv => whnf
  refine Br.ob h (fun p4 h => ?_) (fun p4 h => ?_)
  ·conv => whnf
   refine Br.no ?_
   conv => whnf
   refine Br.no ?_
   conv => whnf
   refine Br.od h (fun p5 h => ?_) (fun p5 h => ?_)
   ·conv => whnf
    refine Br.yes ?_
    conv => whnf
    refine Br.yes ?_
    conv => whnf
    refine Br.yes ?_
    conv => whnf
    refine Br.yes ?_
    conv => whnf
    refine Br.yes ?_
    conv => whnf
    refine Br.yes ?_
    conv => whnf
    refine Br.yes ?_
    conv => whnf
    refine Br.yes ?_
    conv => whnf
    refine Br.yes ?_
    conv => whnf
    refine Br.yes ?_
    conv => whnf
    refine Br.yes ?_
    conv => whnf
    refine Br.yes ?_
    conv => whnf
    refine Br.yes ?_
    conv => whnf
    refine Br.yes ?_
    conv => whnf
    refine SetKids.lit rfl ?_
    conv => whnf
    cases h; exact (by rfl)
   conv => whnf
   refine Br.no ?_
   conv => whnf
   refine Br.no ?_
   conv => whnf
   refine Br.od h (fun p6 h => ?_) (fun p6 h => ?_)
   ·conv => whnf
    refine Br.yes ?_
    conv => whnf
    refine Br.yes ?_
    conv => whnf
    refine Br.yes ?_
    conv => whnf
    refine Br.yes ?_
    conv => whnf
    refine Br.yes ?_
    conv => whnf
    refine Br.yes ?_
    conv => whnf
    refine Br.yes ?_
    conv => whnf
    refine Br.yes ?_
    conv => whnf
    refine Br.yes ?_
    conv => whnf
    refine Br.yes ?_
    conv => whnf
    refine Br.yes ?_
    conv => whnf
    refine SetKids.lit rfl ?_
    conv => whnf
    cases h; exact (by rfl)
   conv => whnf
   refine Br.no ?_
   conv => whnf
   refine Len.map ?_
   conv => whnf
   refine Br.no ?_
   conv => whnf
   refine Br.no ?_
   conv => whnf
   refine Cells.lit rfl rfl ?_
   conv => whnf
   refine Br.no ?_
   conv => whnf
   refine Br.no ?_
   conv => whnf
   refine Br.on h (fun p7 h => ?_) (fun p7 h => ?_)
   ·conv => whnf
    refine Br.yes ?_
    conv => whnf
    refine Br.yes ?_
    conv => whnf
    refine Br.yes ?_
    conv => whnf
    refine Br.yes ?_
    conv => whnf
    refine Br.yes ?_
    conv => whnf
    refine SetKids.lit rfl ?_
    conv => whnf
    cases h; exact (by rfl)
   conv => whnf
   refine Br.no ?_
   conv => whnf
   refine Br.no ?_
   conv => whnf
   refine CallQ.o V.bool (by rfl) h (fun r h => Zc h) (fun r8 h => ?_)
   conv => whnf
   refine Br.no ?_
   conv => whnf
   refine Br.no ?_
   conv => whnf
   refine Br.flip ?_
   conv => whnf
   refine Br.ob h (fun p9 h => ?_) (fun p9 h => ?_)
   ·conv => whnf
    refine Cells.lit rfl rfl ?_
    conv => whnf
    refine CallQ.o (Ai true) (by rfl) h (fun r h => Akt h) (fun r10 h => ?_)
    conv => whnf
    refine SetKids.lit rfl ?_
    conv => whnf
    cases h; exact (by rfl)
   conv => whnf
   refine SetKids.lit rfl ?_
   conv => whnf
   cases h; exact (by rfl)
  conv => whnf
  refine Br.yes ?_
  conv => whnf
  refine Br.yes ?_
  conv => whnf
  refine Br.yes ?_
  conv => whnf
  refine Br.yes ?_
  conv => whnf
  refine Br.yes ?_
  conv => whnf
  refine Br.yes ?_
  conv => whnf
  refine Br.yes ?_
  conv => whnf
  refine Br.yes ?_
  conv => whnf
  refine Br.yes ?_
  conv => whnf
  refine Br.yes ?_
  conv => whnf
  refine Br.yes ?_
  conv => whnf
  refine Br.yes ?_
  conv => whnf
  refine Br.yes ?_
  conv => whnf
  refine Br.yes ?_
  conv => whnf
  refine Br.yes ?_
  conv => whnf
  refine Br.yes ?_
  conv => whnf
  refine Br.yes ?_
  conv => whnf
  refine SetKids.lit rfl ?_
  conv => whnf
  cases h; exact (by rfl)
 conv => whnf
 refine Br.yes ?_
 conv => whnf
 refine Br.yes ?_
 conv => whnf
 refine Br.yes ?_
 conv => whnf
 refine Br.yes ?_
 conv => whnf
 refine Br.yes ?_
 conv => whnf
 refine Br.yes ?_
 conv => whnf
 refine Br.yes ?_
 conv => whnf
 refine Br.yes ?_
 conv => whnf
 refine Br.yes ?_
 conv => whnf
 refine Br.yes ?_
 conv => whnf
 refine Br.yes ?_
 conv => whnf
 refine Br.yes ?_
 conv => whnf
 refine Br.yes ?_
 conv => whnf
 refine Br.yes ?_
 conv => whnf
 refine Br.yes ?_
 conv => whnf
 refine Br.yes ?_
 conv => whnf
 refine Br.yes ?_
 conv => whnf
 refine Br.yes ?_
 conv => whnf
 refine Br.yes ?_
 conv => whnf
 refine Br.yes ?_
 conv => whnf
 refine Br.yes ?_
 conv => whnf
 refine Br.yes ?_
 conv => whnf
 refine SetKids.lit rfl ?_
 conv => whnf
 cases h; exact (by rfl)
end Go.Proofs.Ytoaojijoefljaaa.Ax
