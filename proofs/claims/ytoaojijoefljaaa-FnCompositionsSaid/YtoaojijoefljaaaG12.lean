/-
 What the functions compute, as functions on plain data, and that the program does compute it; written by program.
-/
import Derived.Test.YtoaojijoefljaaaCode
import Derived.Test.YtoaojijoefljaaaG1
import Derived.Test.YtoaojijoefljaaaG2
import Derived.Test.YtoaojijoefljaaaG3
import Derived.Test.YtoaojijoefljaaaG7
import Derived.Test.YtoaojijoefljaaaG8
import Derived.Test.YtoaojijoefljaaaG10
import Derived.Test.YtoaojijoefljaaaG11
namespace Go.Proofs.Ytoaojijoefljaaa.Ax
open Go
set_option maxRecDepth 100000
set_option maxHeartbeats 4000000
noncomputable def Ch (_r5 : Int) (r7 : SOp) (r18 : Int) : (Int × (List Int) × Sl1Cur) → Option ((Int × (List Int) × Sl1Cur) ⊕ (List Int)) := fun (x9, x8, x4) =>
 if x9 < r7.Arity then
 (Ap (x4) (r18 + (1 : Int))).bind fun (r22, u23) =>
 ask ((x8).length + ([r22]).length ≤ LIM) <|
 ask (InI (x9 + (1 : Int))) <|
 some (.inl (x9 + (1 : Int), x8 ++ [r22], u23))
 else
 some (.inr x8)
def Ev (r5 : Int) (r7 : SOp) (r18 : Int) : (Int × (List Int) × Sl1Cur) → St := fun s => [(9, A.val (Ae s.1)), (8, A.val ((slr true 1 Ae) s.2.1)), (7, A.val (Ae (r18 + (1 : Int)))), (6, A.val ((rP true (Ai true)) (r7))), (5, A.val (Ae (r5))), (4, A.val ((rP true (Ak false)) s.2.2)), (3, A.val ((rP true (Ai true)) ({ Arity := (0 : Int), Table := Ao Int })))]
def Ho (r5 : Int) (r7 : SOp) (r18 : Int) : (List Int) → Tgt
 | s => ((Ex.exit 0), [8, 7, 6, 5, 3], [(8, A.val ((slr true 1 Ae) s)), (7, A.val (Ae (r18 + (1 : Int)))), (6, A.val ((rP true (Ai true)) (r7))), (5, A.val (Ae (r5))), (3, A.val ((rP true (Ai true)) ({ Arity := (0 : Int), Table := Ao Int })))])
theorem Np {r5 : Int} {r7 : SOp} {r18 : Int} (s : (Int × (List Int) × Sl1Cur)) (o : (Int × (List Int) × Sl1Cur) ⊕ (List Int)) (h : Ch r5 r7 r18 s = some o) : vc Try.prog Hs (Dy [9, 8, 7, 6, 5, 4, 3] (Ev r5 r7 r18) (Ho r5 r7 r18) o) (Ev r5 r7 r18 s) := by
 obtain ⟨x9, x8, x4⟩ := s
 unfold Ch at h
 try dsimp only at h
 conv => whnf
 refine Cells.lit rfl rfl ?_
 conv => whnf
 refine Br.od h (fun p21 h => ?_) (fun p21 h => ?_)
 ·conv => whnf
  refine CallQ.io Ae (rP true (Ak false)) (by rfl) rfl (fun _ => rfl) (fun _ => ⟨rfl, rfl⟩) rfl h (fun r h => Aw h) (fun r22 u23 h => ?_)
  conv => whnf
  refine BslQ.o Ae [r22] (by exact fun _ => ⟨rfl, rfl⟩) (by rfl) ?_
  conv => whnf
  refine NoOwn.o (fun _ => rfl) ?_
  conv => whnf
  refine AppQ.o (m := 1) Ae (by exact fun _ => ⟨rfl, rfl⟩) (x8) ([r22]) (by rfl) (by rfl) h fun h => ?_
  conv => whnf
  refine Ask.o h fun p24 h => ?_
  conv => whnf
  cases h; exact ⟨rfl, rfl⟩
 conv => whnf
 cases h; exact ⟨rfl, rfl⟩
noncomputable def D2 (code0 : (List Int)) : Option (Int × SOp) :=
 (Ap ({ code := code0, at_ := (0 : Int), seed := (0 : Int) }) ((24 : Int))).bind fun (r1, u2) =>
 ask ((11 : Int) ≠ (0 : Int) ∧ InI (r1.tdiv (11 : Int))) <|
 ask (InI ((5 : Int) + r1.tdiv (11 : Int))) <|
 ask (0 ≤ (0 : Int) ∧ (0 : Int) ≤ (5 : Int) + r1.tdiv (11 : Int) ∧ (5 : Int) + r1.tdiv (11 : Int) ≤ (([(1 : Int), (2 : Int), (2 : Int), (3 : Int), (4 : Int), (0 : Int), (9 : Int)].length : Nat) : Int)) <|
 (Ay (u2) (List.take (((5 : Int) + r1.tdiv (11 : Int)).toNat - Int.toNat (0 : Int)) (List.drop (Int.toNat (0 : Int)) [(1 : Int), (2 : Int), (2 : Int), (3 : Int), (4 : Int), (0 : Int), (9 : Int)]))).bind fun (r5, u6) =>
 (Bn (u6) (r5)).bind fun (r7, u8) =>
 (((C8 (r5)).bind fun r9 =>
 if (r9) = true then
 (C5 (r5) (r7)).bind fun r11 =>
 if (r11) = true then
 if r7.Arity > (0 : Int) then
 (Do (u8) ((3 : Int))).bind fun (r14, u15) =>
 some (r14, u15)
 else
 some (false, u8)
 else
 some (false, u8)
 else
 some (false, u8) : Option (Bool × Sl1Cur))).bind fun (q16_39, q16_4) =>
 if (q16_39) = true then
 (Ap (q16_4) (r7.Arity)).bind fun (r18, u19) =>
 ask (InI (r18 + (1 : Int))) <|
 (Ar (Ch r5 r7 r18) ((0 : Int), Ao Int, u19)).bind fun q25_8 =>
 (C9 (r18 + (1 : Int)) ((2 : Int))).bind fun r26 =>
 (Gg (r5) (r7) (q25_8) (r26)).bind fun r27 =>
 some (r5, r27)
 else
 some (r5, r7)
theorem Qo {code0 : (List Int)} {v : (Int × SOp)} (h : D2 code0 = some v) : Ret Try.prog Fq [(slr false 1 (V.int IntKind.u8)) code0] ((fun r => V.tup [Ae r.1, (Ai true) r.2]) v) := by
 refine Bg P4 (Nat.le_of_ble_eq_true rfl) ?_
 unfold D2 at h
 conv => whnf
 refine BslQ.o Ae ([(1 : Int), (2 : Int), (2 : Int), (3 : Int), (4 : Int), (0 : Int), (9 : Int)]) (by exact fun _ => ⟨rfl, rfl⟩) (by rfl) ?_
 conv => whnf
 refine CallQ.io Ae (rP true (Ak false)) (by rfl) rfl (fun _ => rfl) (fun _ => ⟨rfl, rfl⟩) rfl h (fun r h => Aw h) (fun r1 u2 h => ?_)
 conv => whnf
 refine Ask.o h fun p3 h => ?_
 conv => whnf
 refine Ask.o h fun p4 h => ?_
 conv => whnf
 refine SlcQ.lst (xs := [(1 : Int), (2 : Int), (2 : Int), (3 : Int), (4 : Int), (0 : Int), (9 : Int)]) Ae (by rfl) h fun h => ?_
 conv => whnf
 refine CallQ.io Ae (rP true (Ak false)) (by rfl) rfl (fun _ => rfl) (fun _ => ⟨rfl, rfl⟩) rfl h (fun r h => A8 h) (fun r5 u6 h => ?_)
 conv => whnf
 refine CallQ.io (Ai true) (rP true (Ak false)) (by rfl) rfl (fun _ => rfl) (fun _ => ⟨rfl, rfl⟩) rfl h (fun r h => G4 h) (fun r7 u8 h => ?_)
 conv => whnf
 refine SetKids.lit rfl ?_
 conv => whnf
 refine CutQ.o (fun t : (Bool × Sl1Cur) => match t with | s => (Ex.normal, [39, 6, 5, 4, 3], [(39, A.val (V.bool s.1)), (6, A.val ((rP true (Ai true)) (r7))), (5, A.val (Ae (r5))), (4, A.val ((rP true (Ak false)) s.2)), (3, A.val ((rP true (Ai true)) ({ Arity := (0 : Int), Table := Ao Int })))])) h ?_ ?_
 ·intro t h
  conv => whnf
  refine CallQ.o V.bool (by rfl) h (fun r h => I3 h) (fun r9 h => ?_)
  conv => whnf
  refine Br.ob h (fun p10 h => ?_) (fun p10 h => ?_)
  ·conv => whnf
   refine Br.yes ?_
   conv => whnf
   refine Cells.lit rfl rfl ?_
   conv => whnf
   refine Br.yes ?_
   conv => whnf
   refine CallQ.rd V.bool (by first | rfl | simp only [V.fz, V.up, Ab, Ad] | simp [Aa, V.fz, fzL, V.up, upL, Ab, Ac, Ad, slr]) (fun _ => rfl) h (fun r h => Hn h) (fun r11 h => ?_)
   conv => whnf
   refine Br.yes ?_
   conv => whnf
   refine Br.ob h (fun p12 h => ?_) (fun p12 h => ?_)
   ·conv => whnf
    refine Br.yes ?_
    conv => whnf
    refine Cells.lit rfl rfl ?_
    conv => whnf
    refine Br.yes ?_
    conv => whnf
    refine Br.yes ?_
    conv => whnf
    refine Br.od h (fun p13 h => ?_) (fun p13 h => ?_)
    ·conv => whnf
     refine Br.yes ?_
     conv => whnf
     refine CallQ.io V.bool (rP true (Ak false)) (by rfl) rfl (fun _ => rfl) (fun _ => ⟨rfl, rfl⟩) rfl h (fun r h => Jr h) (fun r14 u15 h => ?_)
     conv => whnf
     refine Br.yes ?_
     conv => whnf
     cases h; exact ⟨rfl, rfl⟩
    conv => whnf
    refine Br.no ?_
    conv => whnf
    refine Br.no ?_
    conv => whnf
    cases h; exact ⟨rfl, rfl⟩
   conv => whnf
   refine Br.no ?_
   conv => whnf
   refine Br.no ?_
   conv => whnf
   refine Br.no ?_
   conv => whnf
   refine Br.no ?_
   conv => whnf
   refine Br.no ?_
   conv => whnf
   refine Br.no ?_
   conv => whnf
   cases h; exact ⟨rfl, rfl⟩
  conv => whnf
  refine Br.no ?_
  conv => whnf
  refine Br.no ?_
  conv => whnf
  refine Br.no ?_
  conv => whnf
  refine Br.no ?_
  conv => whnf
  refine Br.no ?_
  conv => whnf
  refine Br.no ?_
  conv => whnf
  refine Br.no ?_
  conv => whnf
  refine Br.no ?_
  conv => whnf
  refine Br.no ?_
  conv => whnf
  refine Br.no ?_
  conv => whnf
  cases h; exact ⟨rfl, rfl⟩
 rintro ⟨q16_39, q16_4⟩ h
 try dsimp only at h
 conv => whnf
 refine Br.ob h (fun p17 h => ?_) (fun p17 h => ?_)
 ·conv => whnf
  refine Cells.lit rfl rfl ?_
  conv => whnf
  refine CallQ.io Ae (rP true (Ak false)) (by rfl) rfl (fun _ => rfl) (fun _ => ⟨rfl, rfl⟩) rfl h (fun r h => Aw h) (fun r18 u19 h => ?_)
  conv => whnf
  refine Ask.o h fun p20 h => ?_
  conv => whnf
  refine BslQ.o Ae (Ao Int) (by exact fun _ => ⟨rfl, rfl⟩) (by rfl) ?_
  conv => whnf
  refine LoopQ.o [9, 8, 7, 6, 5, 4, 3] (Ev r5 r7 r18) (Ho r5 r7 r18) h (fun s o h => Np s o h) (by rfl) (fun _ => rfl) ?_
  rintro q25_8 h
  try dsimp only at h
  conv => whnf
  refine Cells.lit rfl rfl ?_
  conv => whnf
  refine CallP.o Ae (by rfl) h (fun r h => Sn h) (fun r26 h => ?_)
  conv => whnf
  refine CallQ.rd (Ai true) (by first | rfl | simp only [V.fz, V.up, Ab, Ad, slr] | simp [Aa, V.fz, fzL, V.up, upL, Ab, Ac, Ad, slr]) (fun _ => by simp [V.noFz, Bq, Be]) h (fun r h => Vi h) (fun r27 h => ?_)
  conv => whnf
  refine SetKids.lit rfl ?_
  conv => whnf
  refine Cells.lit rfl rfl ?_
  conv => whnf
  refine SetKids.lit rfl ?_
  conv => whnf
  cases h; exact (by rfl)
 conv => whnf
 refine Cells.lit rfl rfl ?_
 conv => whnf
 refine SetKids.lit rfl ?_
 conv => whnf
 cases h; exact (by rfl)
noncomputable def Fc (_n0 : Int) (_ops0 : List SOp) (first0 : List (List Int)) : (Int × Sl12Find) → Option ((Int × Sl12Find) ⊕ Sl12Find) := fun (x8, x7) =>
 if x8 < (↑first0.length : Int) then
 ask ((0 : Int) ≤ x8 ∧ x8 < (↑first0.length : Int)) <|
 (G0 (x7) (nth first0 x8.toNat) ({ Op := (-1 : Int), Args := [x8] })).bind fun r3 =>
 ask (InI (x8 + (1 : Int))) <|
 some (.inl (x8 + (1 : Int), r3))
 else
 some (.inr x7)
def J7 (n0 : Int) (ops0 : List SOp) (first0 : List (List Int)) : (Int × Sl12Find) → St := fun s => [(8, A.val (Ae s.1)), (7, A.val ((rP true (Am)) s.2)), (6, A.val ((rP true (Am)) ({ tables := Ao (List Int), steps := Ao SCloneStep, large := false }))), (0, A.val (Ae (n0))), (1, A.val ((slr false 2 (Ai false)) (ops0))), (2, A.val ((slr false 1 (slr false 1 Ae)) (first0)))]
def Oo (n0 : Int) (ops0 : List SOp) (first0 : List (List Int)) : Sl12Find → Tgt
 | s => ((Ex.exit 0), [7, 6, 0, 1, 2], [(7, A.val ((rP true (Am)) s)), (6, A.val ((rP true (Am)) ({ tables := Ao (List Int), steps := Ao SCloneStep, large := false }))), (0, A.val (Ae (n0))), (1, A.val ((slr false 2 (Ai false)) (ops0))), (2, A.val ((slr false 1 (slr false 1 Ae)) (first0)))])
theorem Yj {n0 : Int} {ops0 : List SOp} {first0 : List (List Int)} (s : (Int × Sl12Find)) (o : (Int × Sl12Find) ⊕ Sl12Find) (h : Fc n0 ops0 first0 s = some o) : vc Try.prog Ox (Dy [8, 7, 6, 0, 1, 2] (J7 n0 ops0 first0) (Oo n0 ops0 first0) o) (J7 n0 ops0 first0 s) := by
 obtain ⟨x8, x7⟩ := s
 unfold Fc at h
 try dsimp only at h
 conv => whnf
 refine Len.map ?_
 conv => whnf
 refine Br.od h (fun p1 h => ?_) (fun p1 h => ?_)
 ·conv => whnf
  refine Cells.lit rfl rfl ?_
  conv => whnf
  refine Len.map ?_
  conv => whnf
  refine Ask.o h fun p2 h => ?_
  conv => whnf
  refine Elem.o (by first | omega | (simp [Bh] at * <;> omega)) ?_
  conv => whnf
  refine BslQ.o Ae [x8] (by exact fun _ => ⟨rfl, rfl⟩) (by rfl) ?_
  conv => whnf
  refine FrzQ.d (V.sl false (1 : Nat) (List.map Ae [x8])) (by first | (simp only [Au, Ac]; done) | (simp [Au, V.fz, Ab, Ac, slr]; done) | (simp [Au, V.fz, fzL, Ab, slr]; done)) ?_
  conv => whnf
  refine Kid.lit rfl rfl ?_
  conv => whnf
  refine Kid.lit rfl rfl ?_
  conv => whnf
  refine LendQ.give2 (j1 := 0) (j2 := 1) 0 (Am) (by rfl) rfl rfl rfl (fun _ => by first | rfl | simp [Ea, V.noFz, Bq, Be, NoFz.eq]) rfl h (fun r h => Zb h) (fun r3 h => ?_)
  conv => whnf
  refine Kid.lit rfl rfl ?_
  conv => whnf
  refine SetKids.lit rfl ?_
  conv => whnf
  refine Kid.lit rfl rfl ?_
  conv => whnf
  refine SetKids.lit rfl ?_
  conv => whnf
  refine Kid.lit rfl rfl ?_
  conv => whnf
  refine SetKids.lit rfl ?_
  conv => whnf
  refine SetKids.lit rfl ?_
  conv => whnf
  refine Ask.o h fun p4 h => ?_
  conv => whnf
  cases h; exact ⟨rfl, rfl⟩
 conv => whnf
 cases h; exact ⟨rfl, rfl⟩
noncomputable def D5 (n0 : Int) (ops0 : List SOp) (first0 : List (List Int)) (x9 : Int) (x7 : Sl12Find) : (Int × Sl12Find) → Option ((Int × Sl12Find) ⊕ Sl12Find) := fun (x11, x7') =>
 ((if x11 < (↑ops0.length : Int) then
 if (x7'.large) = true then
 some (.inl ())
 else
 some (.inr ())
 else
 some (.inl ()) : Option (Unit ⊕ Unit))).bind fun t => match t with
 | (.inl _) => (some (.inr x7'))
 | (.inr _) => (ask ((0 : Int) ≤ x11 ∧ x11 < (↑ops0.length : Int)) <|
 ask ((0 : Int) ≤ (0 : Int) ∧ (0 : Int) < (↑first0.length : Int)) <|
 (H6 (n0) (x7') (nth ops0 x11.toNat) (x11) ((↑x7.tables.length : Int)) (x9) ((↑(nth first0 (Int.toNat (0 : Int))).length : Int))).bind fun r14 =>
 ask (InI (x11 + (1 : Int))) <|
 some (.inl (x11 + (1 : Int), r14)))
def J4 (n0 : Int) (ops0 : List SOp) (first0 : List (List Int)) (x9 : Int) (x7 : Sl12Find) : (Int × Sl12Find) → St := fun s => [(11, A.val (Ae s.1)), (10, A.val (Ae ((↑x7.tables.length : Int)))), (9, A.val (Ae (x9))), (7, A.val ((rP true (Am)) s.2)), (6, A.val ((rP true (Am)) ({ tables := Ao (List Int), steps := Ao SCloneStep, large := false }))), (0, A.val (Ae (n0))), (1, A.val ((slr false 2 (Ai false)) (ops0))), (2, A.val ((slr false 1 (slr false 1 Ae)) (first0)))]
def Ov (n0 : Int) (ops0 : List SOp) (first0 : List (List Int)) (_x9 : Int) (x7 : Sl12Find) : Sl12Find → Tgt
 | s => ((Ex.exit 4), [10, 7, 6, 0, 1, 2], [(10, A.val (Ae ((↑x7.tables.length : Int)))), (7, A.val ((rP true (Am)) s)), (6, A.val ((rP true (Am)) ({ tables := Ao (List Int), steps := Ao SCloneStep, large := false }))), (0, A.val (Ae (n0))), (1, A.val ((slr false 2 (Ai false)) (ops0))), (2, A.val ((slr false 1 (slr false 1 Ae)) (first0)))])
theorem Yz {n0 : Int} {ops0 : List SOp} {first0 : List (List Int)} {x9 : Int} {x7 : Sl12Find} (s : (Int × Sl12Find)) (o : (Int × Sl12Find) ⊕ Sl12Find) (h : D5 n0 ops0 first0 x9 x7 s = some o) : vc Try.prog Ou (Dy [11, 10, 9, 7, 6, 0, 1, 2] (J4 n0 ops0 first0 x9 x7) (Ov n0 ops0 first0 x9 x7) o) (J4 n0 ops0 first0 x9 x7 s) := by
 obtain ⟨x11, x7'⟩ := s
 unfold D5 at h
 try dsimp only at h
 conv => whnf
 refine CutQ.o (fun t : (Unit ⊕ Unit) => match t with | (.inl s) => ((Ex.exit 4), [10, 7, 6, 0, 1, 2], [(10, A.val (Ae ((↑x7.tables.length : Int)))), (7, A.val ((rP true (Am)) (x7'))), (6, A.val ((rP true (Am)) ({ tables := Ao (List Int), steps := Ao SCloneStep, large := false }))), (0, A.val (Ae (n0))), (1, A.val ((slr false 2 (Ai false)) (ops0))), (2, A.val ((slr false 1 (slr false 1 Ae)) (first0)))]) | (.inr s) => (Ex.normal, [11, 10, 9, 7, 6, 0, 1, 2], [(11, A.val (Ae (x11))), (10, A.val (Ae ((↑x7.tables.length : Int)))), (9, A.val (Ae (x9))), (7, A.val ((rP true (Am)) (x7'))), (6, A.val ((rP true (Am)) ({ tables := Ao (List Int), steps := Ao SCloneStep, large := false }))), (0, A.val (Ae (n0))), (1, A.val ((slr false 2 (Ai false)) (ops0))), (2, A.val ((slr false 1 (slr false 1 Ae)) (first0)))])) h ?_ ?_
 ·intro t h
  conv => whnf
  refine Len.map ?_
  conv => whnf
  refine Br.od h (fun p9 h => ?_) (fun p9 h => ?_)
  ·conv => whnf
   refine Br.yes ?_
   conv => whnf
   refine Cells.lit rfl rfl ?_
   conv => whnf
   refine Br.yes ?_
   conv => whnf
   refine Br.yes ?_
   conv => whnf
   refine Br.flip ?_
   conv => whnf
   refine Br.ob h (fun p10 h => ?_) (fun p10 h => ?_)
   ·conv => whnf
    cases h; exact ⟨rfl, rfl⟩
   conv => whnf
   cases h; exact ⟨rfl, rfl⟩
  conv => whnf
  refine Br.no ?_
  conv => whnf
  refine Br.no ?_
  conv => whnf
  refine Br.no ?_
  conv => whnf
  refine Br.no ?_
  conv => whnf
  cases h; exact ⟨rfl, rfl⟩
 rintro (⟨⟩ | ⟨⟩) h
 ·try dsimp only at h
  conv => whnf
  cases h; exact ⟨rfl, rfl⟩
 try dsimp only at h
 conv => whnf
 refine Cells.lit rfl rfl ?_
 conv => whnf
 refine Len.map ?_
 conv => whnf
 refine Ask.o h fun p12 h => ?_
 conv => whnf
 refine Elem.o (by first | omega | (simp [Bh] at * <;> omega)) ?_
 conv => whnf
 refine Len.map ?_
 conv => whnf
 refine Ask.o h fun p13 h => ?_
 conv => whnf
 refine Elem.o (by first | omega | (simp [Bh] at * <;> omega)) ?_
 conv => whnf
 refine Len.map ?_
 conv => whnf
 refine Kid.lit rfl rfl ?_
 conv => whnf
 refine Kid.lit rfl rfl ?_
 conv => whnf
 refine LendQ.give2 (j1 := 0) (j2 := 1) 1 (Am) (by rfl) rfl rfl rfl (fun _ => by first | rfl | simp [Ea, V.noFz, Bq, Be, NoFz.eq]) rfl h (fun r h => Ae0 h) (fun r14 h => ?_)
 conv => whnf
 refine Kid.lit rfl rfl ?_
 conv => whnf
 refine SetKids.lit rfl ?_
 conv => whnf
 refine Kid.lit rfl rfl ?_
 conv => whnf
 refine SetKids.lit rfl ?_
 conv => whnf
 refine Kid.lit rfl rfl ?_
 conv => whnf
 refine SetKids.lit rfl ?_
 conv => whnf
 refine SetKids.lit rfl ?_
 conv => whnf
 refine Ask.o h fun p15 h => ?_
 conv => whnf
 cases h; exact ⟨rfl, rfl⟩
noncomputable def Bz (n0 : Int) (ops0 : List SOp) (first0 : List (List Int)) : (Int × Sl12Find) → Option ((Int × Sl12Find) ⊕ Sl12Find) := fun (x9, x7) =>
 ((if x9 < (↑x7.tables.length : Int) then
 if (x7.large) = true then
 some (.inl ())
 else
 some (.inr ())
 else
 some (.inl ()) : Option (Unit ⊕ Unit))).bind fun t => match t with
 | (.inl _) => (some (.inr x7))
 | (.inr _) => ((Ar (D5 n0 ops0 first0 x9 x7) ((0 : Int), x7)).bind fun q16_7 =>
 some (.inl ((↑x7.tables.length : Int), q16_7)))
def Ka (n0 : Int) (ops0 : List SOp) (first0 : List (List Int)) : (Int × Sl12Find) → St := fun s => [(9, A.val (Ae s.1)), (7, A.val ((rP true (Am)) s.2)), (6, A.val ((rP true (Am)) ({ tables := Ao (List Int), steps := Ao SCloneStep, large := false }))), (0, A.val (Ae (n0))), (1, A.val ((slr false 2 (Ai false)) (ops0))), (2, A.val ((slr false 1 (slr false 1 Ae)) (first0)))]
def Om (_n0 : Int) (_ops0 : List SOp) (_first0 : List (List Int)) : Sl12Find → Tgt
 | s => ((Ex.exit 2), [7, 6], [(7, A.val ((rP true (Am)) s)), (6, A.val ((rP true (Am)) ({ tables := Ao (List Int), steps := Ao SCloneStep, large := false })))])
theorem Yr {n0 : Int} {ops0 : List SOp} {first0 : List (List Int)} (s : (Int × Sl12Find)) (o : (Int × Sl12Find) ⊕ Sl12Find) (h : Bz n0 ops0 first0 s = some o) : vc Try.prog Ow (Dy [9, 7, 6, 0, 1, 2] (Ka n0 ops0 first0) (Om n0 ops0 first0) o) (Ka n0 ops0 first0 s) := by
 obtain ⟨x9, x7⟩ := s
 unfold Bz at h
 try dsimp only at h
 conv => whnf
 refine CutQ.o (fun t : (Unit ⊕ Unit) => match t with | (.inl s) => ((Ex.exit 2), [7, 6], [(7, A.val ((rP true (Am)) (x7))), (6, A.val ((rP true (Am)) ({ tables := Ao (List Int), steps := Ao SCloneStep, large := false })))]) | (.inr s) => (Ex.normal, [9, 7, 6, 0, 1, 2], [(9, A.val (Ae (x9))), (7, A.val ((rP true (Am)) (x7))), (6, A.val ((rP true (Am)) ({ tables := Ao (List Int), steps := Ao SCloneStep, large := false }))), (0, A.val (Ae (n0))), (1, A.val ((slr false 2 (Ai false)) (ops0))), (2, A.val ((slr false 1 (slr false 1 Ae)) (first0)))])) h ?_ ?_
 ·intro t h
  conv => whnf
  refine Cells.lit rfl rfl ?_
  conv => whnf
  refine Kid.lit rfl rfl ?_
  conv => whnf
  refine Len.map ?_
  conv => whnf
  refine Br.od h (fun p6 h => ?_) (fun p6 h => ?_)
  ·conv => whnf
   refine Br.yes ?_
   conv => whnf
   refine Cells.lit rfl rfl ?_
   conv => whnf
   refine Br.yes ?_
   conv => whnf
   refine Br.yes ?_
   conv => whnf
   refine Br.flip ?_
   conv => whnf
   refine Br.ob h (fun p7 h => ?_) (fun p7 h => ?_)
   ·conv => whnf
    cases h; exact ⟨rfl, rfl⟩
   conv => whnf
   cases h; exact ⟨rfl, rfl⟩
  conv => whnf
  refine Br.no ?_
  conv => whnf
  refine Br.no ?_
  conv => whnf
  refine Br.no ?_
  conv => whnf
  refine Br.no ?_
  conv => whnf
  cases h; exact ⟨rfl, rfl⟩
 rintro (⟨⟩ | ⟨⟩) h
 ·try dsimp only at h
  conv => whnf
  cases h; exact ⟨rfl, rfl⟩
 try dsimp only at h
 conv => whnf
 refine Cells.lit rfl rfl ?_
 conv => whnf
 refine Kid.lit rfl rfl ?_
 conv => whnf
 refine Len.map ?_
 conv => whnf
 refine LoopQ.o [11, 10, 9, 7, 6, 0, 1, 2] (J4 n0 ops0 first0 x9 x7) (Ov n0 ops0 first0 x9 x7) h (fun s o h => Yz s o h) (by rfl) (fun _ => rfl) ?_
 rintro q16_7 h
 try dsimp only at h
 conv => whnf
 cases h; exact ⟨rfl, rfl⟩
noncomputable def G9 (n0 : Int) (ops0 : (List SOp)) (first0 : (List (List Int))) : Option Sl12Find :=
 (Ar (Fc n0 ops0 first0) ((0 : Int), { tables := Ao (List Int), steps := Ao SCloneStep, large := false })).bind fun q5_7 =>
 (Ar (Bz n0 ops0 first0) ((0 : Int), q5_7)).bind fun q17_7 =>
 some q17_7
theorem Ade {n0 : Int} {ops0 : (List SOp)} {first0 : (List (List Int))} {v : Sl12Find} (h : G9 n0 ops0 first0 = some v) : Ret Try.prog Ml [Ae n0, (slr false 2 (Ai false)) ops0, (slr false 1 (slr false 1 Ae)) first0] ((Am) v) := by
 refine Bg Add (Nat.le_of_ble_eq_true rfl) ?_
 unfold G9 at h
 conv => whnf
 refine SetKids.lit rfl ?_
 conv => whnf
 refine LoopQ.o [8, 7, 6, 0, 1, 2] (J7 n0 ops0 first0) (Oo n0 ops0 first0) h (fun s o h => Yj s o h) (by rfl) (fun _ => rfl) ?_
 rintro q5_7 h
 try dsimp only at h
 conv => whnf
 refine LoopQ.o [9, 7, 6, 0, 1, 2] (Ka n0 ops0 first0) (Om n0 ops0 first0) h (fun s o h => Yr s o h) (by rfl) (fun _ => rfl) ?_
 rintro q17_7 h
 try dsimp only at h
 conv => whnf
 refine Cells.lit rfl rfl ?_
 conv => whnf
 refine SetKids.lit rfl ?_
 conv => whnf
 cases h; exact (by rfl)
noncomputable def Dp (code0 : (List Int)) : Option (Int × SOp) :=
 (D2 (code0)).bind fun r1 =>
 some r1
theorem Tm {code0 : (List Int)} {v : (Int × SOp)} (h : Dp code0 = some v) : Ret Try.prog G6 [(slr false 1 (V.int IntKind.u8)) code0] ((fun r => V.tup [Ae r.1, (Ai true) r.2]) v) := by
 refine Bg Tw (Nat.le_of_ble_eq_true rfl) ?_
 unfold Dp at h
 conv => whnf
 refine CallQ.o (fun r => V.tup [Ae r.1, (Ai true) r.2]) (by rfl) h (fun r h => Qo h) (fun r1 h => ?_)
 conv => whnf
 refine SetKids.lit rfl ?_
 conv => whnf
 cases h; exact (by rfl)
noncomputable def Db (a0 : SAlgebra) (k0 : Int) : (Int × (List (List Int))) → Option ((Int × (List (List Int))) ⊕ (List (List Int))) := fun (x6, x5) =>
 if x6 < k0 then
 (Ci (a0.Size) (k0) (x6)).bind fun r2 =>
 ask ((x5).length + ([r2]).length ≤ LIM) <|
 ask (InI (x6 + (1 : Int))) <|
 some (.inl (x6 + (1 : Int), x5 ++ [r2]))
 else
 some (.inr x5)
def Ks (a0 : SAlgebra) (k0 : Int) : (Int × (List (List Int))) → St := fun s => [(6, A.val (Ae s.1)), (5, A.val ((slr true 1 (slr true 1 Ae)) s.2)), (4, A.val ((rP true (Am)) ({ tables := Ao (List Int), steps := Ao SCloneStep, large := false }))), (2, A.val ((rP true (Al false)) (a0))), (1, A.val (Ae (k0)))]
def P8 (a0 : SAlgebra) (_k0 : Int) : (List (List Int)) → Tgt
 | s => ((Ex.exit 0), [5, 4, 2], [(5, A.val ((slr true 1 (slr true 1 Ae)) s)), (4, A.val ((rP true (Am)) ({ tables := Ao (List Int), steps := Ao SCloneStep, large := false }))), (2, A.val ((rP true (Al false)) (a0)))])
theorem Z6 {a0 : SAlgebra} {k0 : Int} (s : (Int × (List (List Int)))) (o : (Int × (List (List Int))) ⊕ (List (List Int))) (h : Db a0 k0 s = some o) : vc Try.prog P0 (Dy [6, 5, 4, 2, 1] (Ks a0 k0) (P8 a0 k0) o) (Ks a0 k0 s) := by
 obtain ⟨x6, x5⟩ := s
 unfold Db at h
 try dsimp only at h
 conv => whnf
 refine Br.od h (fun p1 h => ?_) (fun p1 h => ?_)
 ·conv => whnf
  refine Cells.lit rfl rfl ?_
  conv => whnf
  refine CallQ.o (slr true 1 Ae) (by rfl) h (fun r h => Gi h) (fun r2 h => ?_)
  conv => whnf
  refine BslQ.o (slr true 1 Ae) [r2] (by exact fun _ => ⟨rfl, rfl⟩) (by rfl) ?_
  conv => whnf
  refine NoOwn.own rfl ?_
  conv => whnf
  refine AppQ.o (m := 1) (slr true 1 Ae) (by exact fun _ => ⟨rfl, rfl⟩) (x5) ([r2]) (by rfl) (by rfl) h fun h => ?_
  conv => whnf
  refine Ask.o h fun p3 h => ?_
  conv => whnf
  cases h; exact ⟨rfl, rfl⟩
 conv => whnf
 cases h; exact ⟨rfl, rfl⟩
noncomputable def D8 (a0 : SAlgebra) (k0 : Int) : Option Sl12Find :=
 (Ar (Db a0 k0) ((0 : Int), Ao (List Int))).bind fun q4_5 =>
 (G9 (a0.Size) (a0.Ops) (q4_5)).bind fun r5 =>
 some r5
theorem Ol {a0 : SAlgebra} {k0 : Int} {v : Sl12Find} (h : D8 a0 k0 = some v) : Ret Try.prog Id [(Al false) a0, Ae k0] ((Am) v) := by
 refine Bg Afj (Nat.le_of_ble_eq_true rfl) ?_
 unfold D8 at h
 conv => whnf
 refine BslQ.o (slr true 1 Ae) (Ao (List Int)) (by exact fun _ => ⟨rfl, rfl⟩) (by rfl) ?_
 conv => whnf
 refine LoopQ.o [6, 5, 4, 2, 1] (Ks a0 k0) (P8 a0 k0) h (fun s o h => Z6 s o h) (by rfl) (fun _ => rfl) ?_
 rintro q4_5 h
 try dsimp only at h
 conv => whnf
 refine FrzQ.d (V.sl false (1 : Nat) (List.map (slr false (1 : Nat) Ae) q4_5)) (by first | (simp only [slr]; done) | (simp [Au, V.fz, Ab, slr]; done) | (simp [Au, V.fz, fzL, Ab, slr]; done)) ?_
 conv => whnf
 refine Cells.lit rfl rfl ?_
 conv => whnf
 refine Cells.lit rfl rfl ?_
 conv => whnf
 refine CallQ.o (Am) (by rfl) h (fun r h => Ade h) (fun r5 h => ?_)
 conv => whnf
 refine SetKids.lit rfl ?_
 conv => whnf
 cases h; exact (by rfl)
noncomputable def Ed (a0 : SAlgebra) (f0 : SOp) : Option (Bool × Bool) :=
 (Ly (a0) (f0)).bind fun r1 =>
 if (r1) = true then
 (D8 (a0) (f0.Arity)).bind fun r3 =>
 if (r3.large) = true then
 some (false, false)
 else
 (D9 (r3.tables) (f0.Table)).bind fun r5 =>
 some (decide (r5 ≥ (0 : Int)), true)
 else
 some (false, false)
theorem Wd {a0 : SAlgebra} {f0 : SOp} {v : (Bool × Bool)} (h : Ed a0 f0 = some v) : Ret Try.prog Im [(Al false) a0, (Ai false) f0] ((fun r => V.tup [V.bool r.1, V.bool r.2]) v) := by
 refine Bg Wa (Nat.le_of_ble_eq_true rfl) ?_
 unfold Ed at h
 conv => whnf
 refine Cells.lit rfl rfl ?_
 conv => whnf
 refine Cells.lit rfl rfl ?_
 conv => whnf
 refine CallQ.o V.bool (by rfl) h (fun r h => Ak7 h) (fun r1 h => ?_)
 conv => whnf
 refine Br.flip ?_
 conv => whnf
 refine Br.ob h (fun p2 h => ?_) (fun p2 h => ?_)
 ·conv => whnf
  refine Cells.lit rfl rfl ?_
  conv => whnf
  refine Cells.lit rfl rfl ?_
  conv => whnf
  refine CallQ.o (Am) (by rfl) h (fun r h => Ol h) (fun r3 h => ?_)
  conv => whnf
  refine SetKids.lit rfl ?_
  conv => whnf
  refine Cells.lit rfl rfl ?_
  conv => whnf
  refine Br.ob h (fun p4 h => ?_) (fun p4 h => ?_)
  ·conv => whnf
   cases h; exact (by rfl)
  conv => whnf
  refine Cells.lit rfl rfl ?_
  conv => whnf
  refine Cells.lit rfl rfl ?_
  conv => whnf
  refine Kid.lit rfl rfl ?_
  conv => whnf
  refine CallQ.rd Ae (by first | rfl | simp only [V.fz, V.up, Ab, slr] | simp [Aa, V.fz, fzL, V.up, upL, Ab, Ac, Ad, slr]) (fun _ => rfl) h (fun r h => Vw h) (fun r5 h => ?_)
  conv => whnf
  cases h; exact (by rfl)
 conv => whnf
 cases h; exact (by rfl)
noncomputable def Er (a0 : SAlgebra) (k0 : Int) : Option ((List SOp) × Bool) :=
 (((G2 (a0)).bind fun r1 =>
 if (r1) = true then
 (Ej (a0.Size) (k0)).bind fun r3 =>
 if (r3) = true then
 some (.inl ())
 else
 some (.inr ())
 else
 some (.inr ()) : Option (Unit ⊕ Unit))).bind fun t => match t with
 | (.inl _) => ((D8 (a0) (k0)).bind fun r6 =>
 if (r6.large) = true then
 some (Ao SOp, false)
 else
 (Kf (k0) (r6.tables)).bind fun r8 =>
 some (r8, true))
 | (.inr _) => (some (Ao SOp, false))
theorem W9 {a0 : SAlgebra} {k0 : Int} {v : ((List SOp) × Bool)} (h : Er a0 k0 = some v) : Ret Try.prog Jd [(Al false) a0, Ae k0] ((fun r => V.tup [(slr true 2 (Ai true)) r.1, V.bool r.2]) v) := by
 refine Bg Xh (Nat.le_of_ble_eq_true rfl) ?_
 unfold Er at h
 conv => whnf
 refine CutQ.o (fun t : (Unit ⊕ Unit) => match t with | (.inl s) => (Ex.normal, [2, 1], [(2, A.val ((rP true (Al false)) (a0))), (1, A.val (Ae (k0)))]) | (.inr s) => (Ex.ret, [5, 4], [(5, A.val (V.bool (false))), (4, A.val ((slr true 2 (Ai true)) (Ao SOp)))])) h ?_ ?_
 ·intro t h
  conv => whnf
  refine Cells.lit rfl rfl ?_
  conv => whnf
  refine CallQ.o V.bool (by rfl) h (fun r h => Ss h) (fun r1 h => ?_)
  conv => whnf
  refine Br.flip ?_
  conv => whnf
  refine Br.ob h (fun p2 h => ?_) (fun p2 h => ?_)
  ·conv => whnf
   refine Br.no ?_
   conv => whnf
   refine Cells.lit rfl rfl ?_
   conv => whnf
   refine Br.no ?_
   conv => whnf
   refine Br.no ?_
   conv => whnf
   refine CallQ.o V.bool (by rfl) h (fun r h => M0 h) (fun r3 h => ?_)
   conv => whnf
   refine Br.no ?_
   conv => whnf
   refine Br.no ?_
   conv => whnf
   refine Br.flip ?_
   conv => whnf
   refine Br.ob h (fun p4 h => ?_) (fun p4 h => ?_)
   ·conv => whnf
    cases h; exact ⟨rfl, rfl⟩
   conv => whnf
   refine BslQ.o (Ai true) (Ao SOp) (by exact fun _ => ⟨rfl, rfl⟩) (by rfl) ?_
   conv => whnf
   cases h; exact ⟨rfl, rfl⟩
  conv => whnf
  refine Br.yes ?_
  conv => whnf
  refine Br.yes ?_
  conv => whnf
  refine Br.yes ?_
  conv => whnf
  refine Br.yes ?_
  conv => whnf
  refine Br.yes ?_
  conv => whnf
  refine Br.yes ?_
  conv => whnf
  refine BslQ.o (Ai true) (Ao SOp) (by exact fun _ => ⟨rfl, rfl⟩) (by rfl) ?_
  conv => whnf
  cases h; exact ⟨rfl, rfl⟩
 rintro (⟨⟩ | ⟨⟩) h
 ·try dsimp only at h
  conv => whnf
  refine Cells.lit rfl rfl ?_
  conv => whnf
  refine CallQ.o (Am) (by rfl) h (fun r h => Ol h) (fun r6 h => ?_)
  conv => whnf
  refine SetKids.lit rfl ?_
  conv => whnf
  refine Cells.lit rfl rfl ?_
  conv => whnf
  refine Br.ob h (fun p7 h => ?_) (fun p7 h => ?_)
  ·conv => whnf
   refine BslQ.o (Ai true) (Ao SOp) (by exact fun _ => ⟨rfl, rfl⟩) (by rfl) ?_
   conv => whnf
   cases h; exact (by rfl)
  conv => whnf
  refine Cells.lit rfl rfl ?_
  conv => whnf
  refine Kid.lit rfl rfl ?_
  conv => whnf
  refine CallQ.rd (slr true 2 (Ai true)) (by first | rfl | simp only [V.fz, V.up, Ab, Ad, slr] | simp [Aa, V.fz, fzL, V.up, upL, Ab, Ac, Ad, slr]) (fun _ => by simp [V.noFz, Be]) h (fun r h => Ai5 h) (fun r8 h => ?_)
  conv => whnf
  cases h; exact (by rfl)
 try dsimp only at h
 conv => whnf
 cases h; exact (by rfl)
end Go.Proofs.Ytoaojijoefljaaa.Ax
