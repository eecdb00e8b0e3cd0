/-
 What the functions compute, as functions on plain data, and that the program does compute it; written by program.
-/
import Derived.Test.YtoaojijoefljaaaCode
import Derived.Test.YtoaojijoefljaaaG1
import Derived.Test.YtoaojijoefljaaaG2
import Derived.Test.YtoaojijoefljaaaG3
namespace Go.Proofs.Ytoaojijoefljaaa.Ax
open Go
set_option maxRecDepth 100000
set_option maxHeartbeats 4000000
noncomputable def Bb (n0 : Int) (f0 : SOp) (x7 : Int) (x6 : List Int) (r9 : Int) : Int → Option (Int ⊕ (List Int)) := fun x38 =>
 if x38 < (↑f0.Table.length : Int) then
 ask ((0 : Int) ≤ x38 ∧ x38 < (↑f0.Table.length : Int)) <|
 ask (r9 ≠ (0 : Int) ∧ InI (x38.tdiv r9)) <|
 ask (n0 ≠ (0 : Int)) <|
 ask (InI ((x38.tdiv r9).tmod n0 * r9)) <|
 ask (InI (x38 - (x38.tdiv r9).tmod n0 * r9)) <|
 ask ((0 : Int) ≤ x38 - (x38.tdiv r9).tmod n0 * r9 ∧ x38 - (x38.tdiv r9).tmod n0 * r9 < (↑f0.Table.length : Int)) <|
 if nth f0.Table x38.toNat ≠ nth f0.Table (x38 - (x38.tdiv r9).tmod n0 * r9).toNat then
 ask ((x6).length + ([x7]).length ≤ LIM) <|
 some (.inr (x6 ++ [x7]))
 else
 ask (InI (x38 + (1 : Int))) <|
 some (.inl (x38 + (1 : Int)))
 else
 some (.inr x6)
def Ga (n0 : Int) (f0 : SOp) (x7 : Int) (x6 : List Int) (r9 : Int) : Int → St := fun s => [(38, A.val (Ae s)), (37, A.val (Ae ((↑f0.Table.length : Int)))), (36, A.val ((slr false 1 Ae) (f0.Table))), (8, A.val (Ae (r9))), (7, A.val (Ae (x7))), (6, A.val ((slr true 1 Ae) (x6))), (3, A.val ((rP true (Ai false)) (f0))), (0, A.val (Ae (n0)))]
def J0 (n0 : Int) (f0 : SOp) (x7 : Int) (_x6 : List Int) (_r9 : Int) : (List Int) → Tgt
 | s => ((Ex.exit 2), [6, 7, 3, 0], [(6, A.val ((slr true 1 Ae) s)), (7, A.val (Ae (x7))), (3, A.val ((rP true (Ai false)) (f0))), (0, A.val (Ae (n0)))])
theorem Qx {n0 : Int} {f0 : SOp} {x7 : Int} {x6 : List Int} {r9 : Int} (x38 : Int) (o : Int ⊕ (List Int)) (h : Bb n0 f0 x7 x6 r9 x38 = some o) : vc Try.prog Jv (Dy [38, 37, 36, 8, 7, 6, 3, 0] (Ga n0 f0 x7 x6 r9) (J0 n0 f0 x7 x6 r9) o) (Ga n0 f0 x7 x6 r9 x38) := by
 unfold Bb at h
 try dsimp only at h
 conv => whnf
 refine Br.od h (fun p10 h => ?_) (fun p10 h => ?_)
 ·conv => whnf
  refine Len.map ?_
  conv => whnf
  refine Ask.o h fun p11 h => ?_
  conv => whnf
  refine Elem.o (by first | omega | (simp [Bh] at * <;> omega)) ?_
  conv => whnf
  refine Cells.lit rfl rfl ?_
  conv => whnf
  refine Ask.o h fun p12 h => ?_
  conv => whnf
  refine Ask.o h fun p13 h => ?_
  conv => whnf
  refine Ask.o h fun p14 h => ?_
  conv => whnf
  refine Ask.o h fun p15 h => ?_
  conv => whnf
  refine Len.map ?_
  conv => whnf
  refine Ask.o h fun p16 h => ?_
  conv => whnf
  refine Elem.o (by first | omega | (simp [Bh] at * <;> omega)) ?_
  conv => whnf
  refine Br.on h (fun p17 h => ?_) (fun p17 h => ?_)
  ·conv => whnf
   refine BslQ.o Ae [x7] (by exact fun _ => ⟨rfl, rfl⟩) (by rfl) ?_
   conv => whnf
   refine NoOwn.o (fun _ => rfl) ?_
   conv => whnf
   refine AppQ.o (m := 1) Ae (by exact fun _ => ⟨rfl, rfl⟩) (x6) ([x7]) (by rfl) (by rfl) h fun h => ?_
   conv => whnf
   cases h; exact ⟨rfl, rfl⟩
  conv => whnf
  refine Ask.o h fun p18 h => ?_
  conv => whnf
  cases h; exact ⟨rfl, rfl⟩
 conv => whnf
 cases h; exact ⟨rfl, rfl⟩
noncomputable def B4 (n0 : Int) (f0 : SOp) : (Int × (List Int)) → Option ((Int × (List Int)) ⊕ (List Int)) := fun (x7, x6) =>
 if x7 < f0.Arity then
 ask (InI (f0.Arity - (1 : Int))) <|
 ask (InI (f0.Arity - (1 : Int) - x7)) <|
 (Ck (n0) (f0.Arity - (1 : Int) - x7)).bind fun r9 =>
 (Ar (Bb n0 f0 x7 x6 r9) (0 : Int)).bind fun q19_6 =>
 ask (InI (x7 + (1 : Int))) <|
 some (.inl (x7 + (1 : Int), q19_6))
 else
 some (.inr x6)
def Gd (n0 : Int) (f0 : SOp) : (Int × (List Int)) → St := fun s => [(7, A.val (Ae s.1)), (6, A.val ((slr true 1 Ae) s.2)), (3, A.val ((rP true (Ai false)) (f0))), (0, A.val (Ae (n0)))]
def Ju (_n0 : Int) (_f0 : SOp) : (List Int) → Tgt
 | s => ((Ex.exit 0), [6], [(6, A.val ((slr true 1 Ae) s))])
theorem Qw {n0 : Int} {f0 : SOp} (s : (Int × (List Int))) (o : (Int × (List Int)) ⊕ (List Int)) (h : B4 n0 f0 s = some o) : vc Try.prog Jt (Dy [7, 6, 3, 0] (Gd n0 f0) (Ju n0 f0) o) (Gd n0 f0 s) := by
 obtain ⟨x7, x6⟩ := s
 unfold B4 at h
 try dsimp only at h
 conv => whnf
 refine Cells.lit rfl rfl ?_
 conv => whnf
 refine Br.od h (fun p6 h => ?_) (fun p6 h => ?_)
 ·conv => whnf
  refine Cells.lit rfl rfl ?_
  conv => whnf
  refine Ask.o h fun p7 h => ?_
  conv => whnf
  refine Ask.o h fun p8 h => ?_
  conv => whnf
  refine CallQ.o Ae (by rfl) h (fun r h => Gq h) (fun r9 h => ?_)
  conv => whnf
  refine Cells.lit rfl rfl ?_
  conv => whnf
  refine Len.map ?_
  conv => whnf
  refine LoopQ.o [38, 37, 36, 8, 7, 6, 3, 0] (Ga n0 f0 x7 x6 r9) (J0 n0 f0 x7 x6 r9) h (fun s o h => Qx s o h) (by rfl) (fun _ => rfl) ?_
  rintro q19_6 h
  try dsimp only at h
  conv => whnf
  refine Ask.o h fun p20 h => ?_
  conv => whnf
  cases h; exact ⟨rfl, rfl⟩
 conv => whnf
 cases h; exact ⟨rfl, rfl⟩
noncomputable def C0 (n0 : Int) (f0 : SOp) : Option ((List Int) × Bool) :=
 (((En (n0)).bind fun r1 =>
 if (r1) = true then
 (C6 (f0) (n0)).bind fun r3 =>
 if (r3) = true then
 some (.inl ())
 else
 some (.inr ())
 else
 some (.inr ()) : Option (Unit ⊕ Unit))).bind fun t => match t with
 | (.inl _) => ((Ar (B4 n0 f0) ((0 : Int), Ao Int)).bind fun q21_6 =>
 some (q21_6, true))
 | (.inr _) => (some (Ao Int, false))
theorem Lx {n0 : Int} {f0 : SOp} {v : ((List Int) × Bool)} (h : C0 n0 f0 = some v) : Ret Try.prog Fh [Ae n0, (Ai false) f0] ((fun r => V.tup [(slr true 1 Ae) r.1, V.bool r.2]) v) := by
 refine Bg U3 (Nat.le_of_ble_eq_true rfl) ?_
 unfold C0 at h
 conv => whnf
 refine CutQ.o (fun t : (Unit ⊕ Unit) => match t with | (.inl s) => (Ex.normal, [3, 0], [(3, A.val ((rP true (Ai false)) (f0))), (0, A.val (Ae (n0)))]) | (.inr s) => (Ex.ret, [5, 4], [(5, A.val (V.bool (false))), (4, A.val ((slr true 1 Ae) (Ao Int)))])) h ?_ ?_
 ·intro t h
  conv => whnf
  refine CallQ.o V.bool (by rfl) h (fun r h => M5 h) (fun r1 h => ?_)
  conv => whnf
  refine Br.flip ?_
  conv => whnf
  refine Br.ob h (fun p2 h => ?_) (fun p2 h => ?_)
  ·conv => whnf
   refine Cells.lit rfl rfl ?_
   conv => whnf
   refine Br.no ?_
   conv => whnf
   refine Br.no ?_
   conv => whnf
   refine CallQ.o V.bool (by rfl) h (fun r h => Hq h) (fun r3 h => ?_)
   conv => whnf
   refine Br.no ?_
   conv => whnf
   refine Br.no ?_
   conv => whnf
   refine Br.flip ?_
   conv => whnf
   refine Br.ob h (fun p4 h => ?_) (fun p4 h => ?_)
   ·conv => whnf
    cases h; exact ⟨rfl, rfl⟩
   conv => whnf
   refine BslQ.o Ae (Ao Int) (by exact fun _ => ⟨rfl, rfl⟩) (by rfl) ?_
   conv => whnf
   cases h; exact ⟨rfl, rfl⟩
  conv => whnf
  refine Br.yes ?_
  conv => whnf
  refine Br.yes ?_
  conv => whnf
  refine Br.yes ?_
  conv => whnf
  refine Br.yes ?_
  conv => whnf
  refine Br.yes ?_
  conv => whnf
  refine BslQ.o Ae (Ao Int) (by exact fun _ => ⟨rfl, rfl⟩) (by rfl) ?_
  conv => whnf
  cases h; exact ⟨rfl, rfl⟩
 rintro (⟨⟩ | ⟨⟩) h
 ·try dsimp only at h
  conv => whnf
  refine BslQ.o Ae (Ao Int) (by exact fun _ => ⟨rfl, rfl⟩) (by rfl) ?_
  conv => whnf
  refine LoopQ.o [7, 6, 3, 0] (Gd n0 f0) (Ju n0 f0) h (fun s o h => Qw s o h) (by rfl) (fun _ => rfl) ?_
  rintro q21_6 h
  try dsimp only at h
  conv => whnf
  cases h; exact (by rfl)
 try dsimp only at h
 conv => whnf
 cases h; exact (by rfl)
noncomputable def B0 (n0 : Int) (f0 : SOp) (_x7 : Int) (_x6 : List Int) (r9 : Int) : (Int × Bool) → Option ((Int × Bool) ⊕ Bool) := fun (x10, x9) =>
 if x10 < (↑f0.Table.length : Int) then
 ask (r9 ≠ (0 : Int) ∧ InI (x10.tdiv r9)) <|
 ask (n0 ≠ (0 : Int)) <|
 ask (InI ((x10.tdiv r9).tmod n0 * r9)) <|
 ask (InI (x10 - (x10.tdiv r9).tmod n0 * r9)) <|
 if (x9) = true then
 ask (InI (x10 + (1 : Int))) <|
 some (.inl (x10 + (1 : Int), true))
 else
 ask ((0 : Int) ≤ x10 ∧ x10 < (↑f0.Table.length : Int)) <|
 ask ((0 : Int) ≤ x10 - (x10.tdiv r9).tmod n0 * r9 ∧ x10 - (x10.tdiv r9).tmod n0 * r9 < (↑f0.Table.length : Int)) <|
 ask (InI (x10 + (1 : Int))) <|
 some (.inl (x10 + (1 : Int), nth f0.Table x10.toNat != nth f0.Table (x10 - (x10.tdiv r9).tmod n0 * r9).toNat))
 else
 some (.inr x9)
def Gc (n0 : Int) (f0 : SOp) (x7 : Int) (x6 : List Int) (r9 : Int) : (Int × Bool) → St := fun s => [(10, A.val (Ae s.1)), (9, A.val (V.bool s.2)), (8, A.val (Ae (r9))), (7, A.val (Ae (x7))), (6, A.val ((slr true 1 Ae) (x6))), (3, A.val ((rP true (Ai false)) (f0))), (0, A.val (Ae (n0)))]
def Jz (n0 : Int) (f0 : SOp) (x7 : Int) (x6 : List Int) (_r9 : Int) : Bool → Tgt
 | s => ((Ex.exit 2), [9, 7, 6, 3, 0], [(9, A.val (V.bool s)), (7, A.val (Ae (x7))), (6, A.val ((slr true 1 Ae) (x6))), (3, A.val ((rP true (Ai false)) (f0))), (0, A.val (Ae (n0)))])
theorem Q2 {n0 : Int} {f0 : SOp} {x7 : Int} {x6 : List Int} {r9 : Int} (s : (Int × Bool)) (o : (Int × Bool) ⊕ Bool) (h : B0 n0 f0 x7 x6 r9 s = some o) : vc Try.prog J1 (Dy [10, 9, 8, 7, 6, 3, 0] (Gc n0 f0 x7 x6 r9) (Jz n0 f0 x7 x6 r9) o) (Gc n0 f0 x7 x6 r9 s) := by
 obtain ⟨x10, x9⟩ := s
 unfold B0 at h
 try dsimp only at h
 conv => whnf
 refine Cells.lit rfl rfl ?_
 conv => whnf
 refine Len.map ?_
 conv => whnf
 refine Br.od h (fun p10 h => ?_) (fun p10 h => ?_)
 ·conv => whnf
  refine Ask.o h fun p11 h => ?_
  conv => whnf
  refine Ask.o h fun p12 h => ?_
  conv => whnf
  refine Ask.o h fun p13 h => ?_
  conv => whnf
  refine Ask.o h fun p14 h => ?_
  conv => whnf
  refine Br.ob h (fun p15 h => ?_) (fun p15 h => ?_)
  ·conv => whnf
   refine Br.yes ?_
   conv => whnf
   refine Br.yes ?_
   conv => whnf
   refine Br.yes ?_
   conv => whnf
   refine Br.yes ?_
   conv => whnf
   refine Br.yes ?_
   conv => whnf
   refine Br.yes ?_
   conv => whnf
   refine Br.yes ?_
   conv => whnf
   refine Br.yes ?_
   conv => whnf
   refine Br.yes ?_
   conv => whnf
   refine Br.yes ?_
   conv => whnf
   refine Br.yes ?_
   conv => whnf
   refine Ask.o h fun p16 h => ?_
   conv => whnf
   cases h; exact ⟨rfl, rfl⟩
  conv => whnf
  refine Br.no ?_
  conv => whnf
  refine Cells.lit rfl rfl ?_
  conv => whnf
  refine Br.no ?_
  conv => whnf
  refine Br.no ?_
  conv => whnf
  refine Len.map ?_
  conv => whnf
  refine Ask.o h fun p17 h => ?_
  conv => whnf
  refine Elem.o (by first | omega | (simp [Bh] at * <;> omega)) ?_
  conv => whnf
  refine Br.no ?_
  conv => whnf
  refine Br.no ?_
  conv => whnf
  refine Br.no ?_
  conv => whnf
  refine Cells.lit rfl rfl ?_
  conv => whnf
  refine Br.no ?_
  conv => whnf
  refine Br.no ?_
  conv => whnf
  refine Len.map ?_
  conv => whnf
  refine Ask.o h fun p18 h => ?_
  conv => whnf
  refine Elem.o (by first | omega | (simp [Bh] at * <;> omega)) ?_
  conv => whnf
  refine Br.no ?_
  conv => whnf
  refine Br.no ?_
  conv => whnf
  refine Br.no ?_
  conv => whnf
  refine Ask.o h fun p19 h => ?_
  conv => whnf
  cases h; exact ⟨rfl, rfl⟩
 conv => whnf
 cases h; exact ⟨rfl, rfl⟩
noncomputable def B5 (n0 : Int) (f0 : SOp) : (Int × (List Int)) → Option ((Int × (List Int)) ⊕ (List Int)) := fun (x7, x6) =>
 if x7 < f0.Arity then
 ask (InI (f0.Arity - (1 : Int))) <|
 ask (InI (f0.Arity - (1 : Int) - x7)) <|
 (Cj (n0) (f0.Arity - (1 : Int) - x7)).bind fun r9 =>
 (Ar (B0 n0 f0 x7 x6 r9) ((0 : Int), false)).bind fun q20_9 =>
 if (q20_9) = true then
 ask ((x6).length + ([x7]).length ≤ LIM) <|
 ask (InI (x7 + (1 : Int))) <|
 some (.inl (x7 + (1 : Int), x6 ++ [x7]))
 else
 ask (InI (x7 + (1 : Int))) <|
 some (.inl (x7 + (1 : Int), x6))
 else
 some (.inr x6)
def Gb (n0 : Int) (f0 : SOp) : (Int × (List Int)) → St := fun s => [(7, A.val (Ae s.1)), (6, A.val ((slr true 1 Ae) s.2)), (3, A.val ((rP true (Ai false)) (f0))), (0, A.val (Ae (n0)))]
def Jy (_n0 : Int) (_f0 : SOp) : (List Int) → Tgt
 | s => ((Ex.exit 0), [6], [(6, A.val ((slr true 1 Ae) s))])
theorem Q6 {n0 : Int} {f0 : SOp} (s : (Int × (List Int))) (o : (Int × (List Int)) ⊕ (List Int)) (h : B5 n0 f0 s = some o) : vc Try.prog Jw (Dy [7, 6, 3, 0] (Gb n0 f0) (Jy n0 f0) o) (Gb n0 f0 s) := by
 obtain ⟨x7, x6⟩ := s
 unfold B5 at h
 try dsimp only at h
 conv => whnf
 refine Cells.lit rfl rfl ?_
 conv => whnf
 refine Br.od h (fun p6 h => ?_) (fun p6 h => ?_)
 ·conv => whnf
  refine Cells.lit rfl rfl ?_
  conv => whnf
  refine Ask.o h fun p7 h => ?_
  conv => whnf
  refine Ask.o h fun p8 h => ?_
  conv => whnf
  refine CallQ.o Ae (by rfl) h (fun r h => Gm h) (fun r9 h => ?_)
  conv => whnf
  refine LoopQ.o [10, 9, 8, 7, 6, 3, 0] (Gc n0 f0 x7 x6 r9) (Jz n0 f0 x7 x6 r9) h (fun s o h => Q2 s o h) (by rfl) (fun _ => rfl) ?_
  rintro q20_9 h
  try dsimp only at h
  conv => whnf
  refine Br.ob h (fun p21 h => ?_) (fun p21 h => ?_)
  ·conv => whnf
   refine BslQ.o Ae [x7] (by exact fun _ => ⟨rfl, rfl⟩) (by rfl) ?_
   conv => whnf
   refine NoOwn.o (fun _ => rfl) ?_
   conv => whnf
   refine AppQ.o (m := 1) Ae (by exact fun _ => ⟨rfl, rfl⟩) (x6) ([x7]) (by rfl) (by rfl) h fun h => ?_
   conv => whnf
   refine Ask.o h fun p22 h => ?_
   conv => whnf
   cases h; exact ⟨rfl, rfl⟩
  conv => whnf
  refine Ask.o h fun p23 h => ?_
  conv => whnf
  cases h; exact ⟨rfl, rfl⟩
 conv => whnf
 cases h; exact ⟨rfl, rfl⟩
noncomputable def D3 (n0 : Int) (f0 : SOp) : Option ((List Int) × Bool) :=
 (((C8 (n0)).bind fun r1 =>
 if (r1) = true then
 (C5 (n0) (f0)).bind fun r3 =>
 if (r3) = true then
 some (.inl ())
 else
 some (.inr ())
 else
 some (.inr ()) : Option (Unit ⊕ Unit))).bind fun t => match t with
 | (.inl _) => ((Ar (B5 n0 f0) ((0 : Int), Ao Int)).bind fun q24_6 =>
 some (q24_6, true))
 | (.inr _) => (some (Ao Int, false))
theorem Va {n0 : Int} {f0 : SOp} {v : ((List Int) × Bool)} (h : D3 n0 f0 = some v) : Ret Try.prog Hu [Ae n0, (Ai false) f0] ((fun r => V.tup [(slr true 1 Ae) r.1, V.bool r.2]) v) := by
 refine Bg U0 (Nat.le_of_ble_eq_true rfl) ?_
 unfold D3 at h
 conv => whnf
 refine BslQ.o Ae (Ao Int) (by exact fun _ => ⟨rfl, rfl⟩) (by rfl) ?_
 conv => whnf
 refine CutQ.o (fun t : (Unit ⊕ Unit) => match t with | (.inl s) => (Ex.normal, [6, 3, 0], [(6, A.val ((slr true 1 Ae) (Ao Int))), (3, A.val ((rP true (Ai false)) (f0))), (0, A.val (Ae (n0)))]) | (.inr s) => (Ex.ret, [5, 4], [(5, A.val (V.bool (false))), (4, A.val ((slr true 1 Ae) (Ao Int)))])) h ?_ ?_
 ·intro t h
  conv => whnf
  refine CallQ.o V.bool (by rfl) h (fun r h => I3 h) (fun r1 h => ?_)
  conv => whnf
  refine Br.flip ?_
  conv => whnf
  refine Br.ob h (fun p2 h => ?_) (fun p2 h => ?_)
  ·conv => whnf
   refine Br.no ?_
   conv => whnf
   refine Cells.lit rfl rfl ?_
   conv => whnf
   refine Br.no ?_
   conv => whnf
   refine CallQ.o V.bool (by rfl) h (fun r h => Hn h) (fun r3 h => ?_)
   conv => whnf
   refine Br.no ?_
   conv => whnf
   refine Br.no ?_
   conv => whnf
   refine Br.flip ?_
   conv => whnf
   refine Br.ob h (fun p4 h => ?_) (fun p4 h => ?_)
   ·conv => whnf
    cases h; exact ⟨rfl, rfl⟩
   conv => whnf
   cases h; exact ⟨rfl, rfl⟩
  conv => whnf
  refine Br.yes ?_
  conv => whnf
  refine Br.yes ?_
  conv => whnf
  refine Br.yes ?_
  conv => whnf
  refine Br.yes ?_
  conv => whnf
  refine Br.yes ?_
  conv => whnf
  cases h; exact ⟨rfl, rfl⟩
 rintro (⟨⟩ | ⟨⟩) h
 ·try dsimp only at h
  conv => whnf
  refine LoopQ.o [7, 6, 3, 0] (Gb n0 f0) (Jy n0 f0) h (fun s o h => Q6 s o h) (by rfl) (fun _ => rfl) ?_
  rintro q24_6 h
  try dsimp only at h
  conv => whnf
  cases h; exact (by rfl)
 try dsimp only at h
 conv => whnf
 cases h; exact (by rfl)
noncomputable def B6 (n0 : Int) (f0 : SOp) : Int → Option (Int ⊕ (Unit ⊕ Unit)) := fun x6 =>
 if x6 < f0.Arity then
 (E1 (n0) (f0.Arity) (x6)).bind fun r7 =>
 (H7 (f0.Table) (r7)).bind fun r8 =>
 if (r8) = true then
 some (.inr (.inl ()))
 else
 ask (InI (x6 + (1 : Int))) <|
 some (.inl (x6 + (1 : Int)))
 else
 some (.inr (.inr ()))
def Hw (n0 : Int) (f0 : SOp) : Int → St := fun s => [(6, A.val (Ae s)), (3, A.val ((rP true (Ai false)) (f0))), (0, A.val (Ae (n0)))]
def L9 (_n0 : Int) (_f0 : SOp) : (Unit ⊕ Unit) → Tgt
 | (.inl _s) => (Ex.ret, [5, 4], [(5, A.val (V.bool (true))), (4, A.val (V.bool (true)))])
 | (.inr _s) => ((Ex.exit 0), [], [])
theorem Uk {n0 : Int} {f0 : SOp} (x6 : Int) (o : Int ⊕ (Unit ⊕ Unit)) (h : B6 n0 f0 x6 = some o) : vc Try.prog Ll (Dy [6, 3, 0] (Hw n0 f0) (L9 n0 f0) o) (Hw n0 f0 x6) := by
 unfold B6 at h
 try dsimp only at h
 conv => whnf
 refine Cells.lit rfl rfl ?_
 conv => whnf
 refine Br.od h (fun p6 h => ?_) (fun p6 h => ?_)
 ·conv => whnf
  refine Cells.lit rfl rfl ?_
  conv => whnf
  refine Cells.lit rfl rfl ?_
  conv => whnf
  refine CallP.o (slr true 1 Ae) (by rfl) h (fun r h => Rg h) (fun r7 h => ?_)
  conv => whnf
  refine CallQ.rd V.bool (by first | rfl | simp only [V.fz, Ab, slr] | simp [Aa, V.fz, fzL, V.up, upL, Ab, Ac, Ad, slr]) (fun _ => rfl) h (fun r h => Ae6 h) (fun r8 h => ?_)
  conv => whnf
  refine Br.ob h (fun p9 h => ?_) (fun p9 h => ?_)
  ·conv => whnf
   cases h; exact ⟨rfl, rfl⟩
  conv => whnf
  refine Ask.o h fun p10 h => ?_
  conv => whnf
  cases h; exact ⟨rfl, rfl⟩
 conv => whnf
 cases h; exact ⟨rfl, rfl⟩
noncomputable def Fb (n0 : Int) (f0 : SOp) : Option (Bool × Bool) :=
 (((En (n0)).bind fun r1 =>
 if (r1) = true then
 (C6 (f0) (n0)).bind fun r3 =>
 if (r3) = true then
 some (.inl ())
 else
 some (.inr ())
 else
 some (.inr ()) : Option (Unit ⊕ Unit))).bind fun t => match t with
 | (.inl _) => ((Ar (B6 n0 f0) (0 : Int)).bind fun t => match t with
 | (.inl _) => (some (true, true))
 | (.inr _) => (some (false, true)))
 | (.inr _) => (some (false, false))
theorem Yu {n0 : Int} {f0 : SOp} {v : (Bool × Bool)} (h : Fb n0 f0 = some v) : Ret Try.prog J5 [Ae n0, (Ai false) f0] ((fun r => V.tup [V.bool r.1, V.bool r.2]) v) := by
 refine Bg Yl (Nat.le_of_ble_eq_true rfl) ?_
 unfold Fb at h
 conv => whnf
 refine CutQ.o (fun t : (Unit ⊕ Unit) => match t with | (.inl s) => (Ex.normal, [3, 0], [(3, A.val ((rP true (Ai false)) (f0))), (0, A.val (Ae (n0)))]) | (.inr s) => (Ex.ret, [5, 4], [(5, A.val (V.bool (false))), (4, A.val (V.bool (false)))])) h ?_ ?_
 ·intro t h
  conv => whnf
  refine CallQ.o V.bool (by rfl) h (fun r h => M5 h) (fun r1 h => ?_)
  conv => whnf
  refine Br.flip ?_
  conv => whnf
  refine Br.ob h (fun p2 h => ?_) (fun p2 h => ?_)
  ·conv => whnf
   refine Cells.lit rfl rfl ?_
   conv => whnf
   refine Br.no ?_
   conv => whnf
   refine Br.no ?_
   conv => whnf
   refine CallQ.o V.bool (by rfl) h (fun r h => Hq h) (fun r3 h => ?_)
   conv => whnf
   refine Br.no ?_
   conv => whnf
   refine Br.no ?_
   conv => whnf
   refine Br.flip ?_
   conv => whnf
   refine Br.ob h (fun p4 h => ?_) (fun p4 h => ?_)
   ·conv => whnf
    cases h; exact ⟨rfl, rfl⟩
   conv => whnf
   cases h; exact ⟨rfl, rfl⟩
  conv => whnf
  refine Br.yes ?_
  conv => whnf
  refine Br.yes ?_
  conv => whnf
  refine Br.yes ?_
  conv => whnf
  refine Br.yes ?_
  conv => whnf
  refine Br.yes ?_
  conv => whnf
  cases h; exact ⟨rfl, rfl⟩
 rintro (⟨⟩ | ⟨⟩) h
 ·try dsimp only at h
  conv => whnf
  refine LoopQ.o [6, 3, 0] (Hw n0 f0) (L9 n0 f0) h (fun s o h => Uk s o h) (by rfl) (by rintro (_ | _) <;> rfl) ?_
  rintro (⟨⟩ | ⟨⟩) h
  ·try dsimp only at h
   conv => whnf
   cases h; exact (by rfl)
  try dsimp only at h
  conv => whnf
  cases h; exact (by rfl)
 try dsimp only at h
 conv => whnf
 cases h; exact (by rfl)
noncomputable def B7 (n0 : Int) (f0 : SOp) : Int → Option (Int ⊕ (Unit ⊕ Unit)) := fun x6 =>
 if x6 < f0.Arity then
 (Ci (n0) (f0.Arity) (x6)).bind fun r7 =>
 (Ie (f0.Table) (r7)).bind fun r8 =>
 if (r8) = true then
 some (.inr (.inl ()))
 else
 ask (InI (x6 + (1 : Int))) <|
 some (.inl (x6 + (1 : Int)))
 else
 some (.inr (.inr ()))
def Ht (n0 : Int) (f0 : SOp) : Int → St := fun s => [(6, A.val (Ae s)), (3, A.val ((rP true (Ai false)) (f0))), (0, A.val (Ae (n0)))]
def Lm (_n0 : Int) (_f0 : SOp) : (Unit ⊕ Unit) → Tgt
 | (.inl _s) => (Ex.ret, [5, 4], [(5, A.val (V.bool (true))), (4, A.val (V.bool (true)))])
 | (.inr _s) => ((Ex.exit 0), [], [])
theorem Uj {n0 : Int} {f0 : SOp} (x6 : Int) (o : Int ⊕ (Unit ⊕ Unit)) (h : B7 n0 f0 x6 = some o) : vc Try.prog Lw (Dy [6, 3, 0] (Ht n0 f0) (Lm n0 f0) o) (Ht n0 f0 x6) := by
 unfold B7 at h
 try dsimp only at h
 conv => whnf
 refine Cells.lit rfl rfl ?_
 conv => whnf
 refine Br.od h (fun p6 h => ?_) (fun p6 h => ?_)
 ·conv => whnf
  refine Cells.lit rfl rfl ?_
  conv => whnf
  refine Cells.lit rfl rfl ?_
  conv => whnf
  refine CallP.o (slr true 1 Ae) (by rfl) h (fun r h => Gi h) (fun r7 h => ?_)
  conv => whnf
  refine CallQ.rd V.bool (by first | rfl | simp only [V.fz, Ab, slr] | simp [Aa, V.fz, fzL, V.up, upL, Ab, Ac, Ad, slr]) (fun _ => rfl) h (fun r h => Y8 h) (fun r8 h => ?_)
  conv => whnf
  refine Br.ob h (fun p9 h => ?_) (fun p9 h => ?_)
  ·conv => whnf
   cases h; exact ⟨rfl, rfl⟩
  conv => whnf
  refine Ask.o h fun p10 h => ?_
  conv => whnf
  cases h; exact ⟨rfl, rfl⟩
 conv => whnf
 cases h; exact ⟨rfl, rfl⟩
noncomputable def Fe (n0 : Int) (f0 : SOp) : Option (Bool × Bool) :=
 (((C8 (n0)).bind fun r1 =>
 if (r1) = true then
 (C5 (n0) (f0)).bind fun r3 =>
 if (r3) = true then
 some (.inl ())
 else
 some (.inr ())
 else
 some (.inr ()) : Option (Unit ⊕ Unit))).bind fun t => match t with
 | (.inl _) => ((Ar (B7 n0 f0) (0 : Int)).bind fun t => match t with
 | (.inl _) => (some (true, true))
 | (.inr _) => (some (false, true)))
 | (.inr _) => (some (false, false))
theorem Y0 {n0 : Int} {f0 : SOp} {v : (Bool × Bool)} (h : Fe n0 f0 = some v) : Ret Try.prog J9 [Ae n0, (Ai false) f0] ((fun r => V.tup [V.bool r.1, V.bool r.2]) v) := by
 refine Bg Yp (Nat.le_of_ble_eq_true rfl) ?_
 unfold Fe at h
 conv => whnf
 refine CutQ.o (fun t : (Unit ⊕ Unit) => match t with | (.inl s) => (Ex.normal, [3, 0], [(3, A.val ((rP true (Ai false)) (f0))), (0, A.val (Ae (n0)))]) | (.inr s) => (Ex.ret, [5, 4], [(5, A.val (V.bool (false))), (4, A.val (V.bool (false)))])) h ?_ ?_
 ·intro t h
  conv => whnf
  refine CallQ.o V.bool (by rfl) h (fun r h => I3 h) (fun r1 h => ?_)
  conv => whnf
  refine Br.flip ?_
  conv => whnf
  refine Br.ob h (fun p2 h => ?_) (fun p2 h => ?_)
  ·conv => whnf
   refine Br.no ?_
   conv => whnf
   refine Cells.lit rfl rfl ?_
   conv => whnf
   refine Br.no ?_
   conv => whnf
   refine CallQ.o V.bool (by rfl) h (fun r h => Hn h) (fun r3 h => ?_)
   conv => whnf
   refine Br.no ?_
   conv => whnf
   refine Br.no ?_
   conv => whnf
   refine Br.flip ?_
   conv => whnf
   refine Br.ob h (fun p4 h => ?_) (fun p4 h => ?_)
   ·conv => whnf
    cases h; exact ⟨rfl, rfl⟩
   conv => whnf
   cases h; exact ⟨rfl, rfl⟩
  conv => whnf
  refine Br.yes ?_
  conv => whnf
  refine Br.yes ?_
  conv => whnf
  refine Br.yes ?_
  conv => whnf
  refine Br.yes ?_
  conv => whnf
  refine Br.yes ?_
  conv => whnf
  cases h; exact ⟨rfl, rfl⟩
 rintro (⟨⟩ | ⟨⟩) h
 ·try dsimp only at h
  conv => whnf
  refine LoopQ.o [6, 3, 0] (Ht n0 f0) (Lm n0 f0) h (fun s o h => Uj s o h) (by rfl) (by rintro (_ | _) <;> rfl) ?_
  rintro (⟨⟩ | ⟨⟩) h
  ·try dsimp only at h
   conv => whnf
   cases h; exact (by rfl)
  try dsimp only at h
  conv => whnf
  cases h; exact (by rfl)
 try dsimp only at h
 conv => whnf
 cases h; exact (by rfl)
noncomputable def C3 (a0 : SAlgebra) : Int → Option (Int ⊕ (Unit ⊕ Unit)) := fun x22 =>
 if x22 < (↑a0.Ops.length : Int) then
 ask ((0 : Int) ≤ x22 ∧ x22 < (↑a0.Ops.length : Int)) <|
 (C6 (nth a0.Ops x22.toNat) (a0.Size)).bind fun r7 =>
 if (r7) = true then
 ask (InI (x22 + (1 : Int))) <|
 some (.inl (x22 + (1 : Int)))
 else
 some (.inr (.inl ()))
 else
 some (.inr (.inr ()))
def J2 (a0 : SAlgebra) : Int → St := fun s => [(22, A.val (Ae s)), (21, A.val (Ae ((↑a0.Ops.length : Int)))), (20, A.val ((slr false 2 (Ai false)) (a0.Ops))), (1, A.val ((rP true (Al false)) (a0)))]
def On (_a0 : SAlgebra) : (Unit ⊕ Unit) → Tgt
 | (.inl _s) => (Ex.ret, [2], [(2, A.val (V.bool (false)))])
 | (.inr _s) => ((Ex.exit 0), [], [])
theorem Yk {a0 : SAlgebra} (x22 : Int) (o : Int ⊕ (Unit ⊕ Unit)) (h : C3 a0 x22 = some o) : vc Try.prog Ot (Dy [22, 21, 20, 1] (J2 a0) (On a0) o) (J2 a0 x22) := by
 unfold C3 at h
 try dsimp only at h
 conv => whnf
 refine Br.od h (fun p5 h => ?_) (fun p5 h => ?_)
 ·conv => whnf
  refine Len.map ?_
  conv => whnf
  refine Ask.o h fun p6 h => ?_
  conv => whnf
  refine Elem.o (by first | omega | (simp [Bh] at * <;> omega)) ?_
  conv => whnf
  refine SetKids.lit rfl ?_
  conv => whnf
  refine Cells.lit rfl rfl ?_
  conv => whnf
  refine Cells.lit rfl rfl ?_
  conv => whnf
  refine CallQ.o V.bool (by rfl) h (fun r h => Hq h) (fun r7 h => ?_)
  conv => whnf
  refine Br.flip ?_
  conv => whnf
  refine Br.ob h (fun p8 h => ?_) (fun p8 h => ?_)
  ·conv => whnf
   refine Ask.o h fun p9 h => ?_
   conv => whnf
   cases h; exact ⟨rfl, rfl⟩
  conv => whnf
  cases h; exact ⟨rfl, rfl⟩
 conv => whnf
 cases h; exact ⟨rfl, rfl⟩
noncomputable def Hm (a0 : SAlgebra) : Option Bool :=
 ((if a0.Size < (1 : Int) then
 some (.inl ())
 else
 if a0.Size > (8 : Int) then
 some (.inl ())
 else
 if (↑a0.Ops.length : Int) > (4 : Int) then
 some (.inl ())
 else
 some (.inr ()) : Option (Unit ⊕ Unit))).bind fun t => match t with
 | (.inl _) => (some false)
 | (.inr _) => ((Ar (C3 a0) (0 : Int)).bind fun t => match t with
 | (.inl _) => (some false)
 | (.inr _) => (some true))
theorem Acs {a0 : SAlgebra} {v : Bool} (h : Hm a0 = some v) : Ret Try.prog My [(Al false) a0] (V.bool v) := by
 refine Bg Adk (Nat.le_of_ble_eq_true rfl) ?_
 unfold Hm at h
 conv => whnf
 refine CutQ.o (fun t : (Unit ⊕ Unit) => match t with | (.inl s) => (Ex.ret, [2], [(2, A.val (V.bool (false)))]) | (.inr s) => (Ex.normal, [1], [(1, A.val ((rP true (Al false)) (a0)))])) h ?_ ?_
 ·intro t h
  conv => whnf
  refine Cells.lit rfl rfl ?_
  conv => whnf
  refine Br.od h (fun p1 h => ?_) (fun p1 h => ?_)
  ·conv => whnf
   refine Br.yes ?_
   conv => whnf
   refine Br.yes ?_
   conv => whnf
   refine Br.yes ?_
   conv => whnf
   refine Br.yes ?_
   conv => whnf
   refine Br.yes ?_
   conv => whnf
   refine Br.yes ?_
   conv => whnf
   refine Br.yes ?_
   conv => whnf
   refine Br.yes ?_
   conv => whnf
   refine Br.yes ?_
   conv => whnf
   cases h; exact ⟨rfl, rfl⟩
  conv => whnf
  refine Br.no ?_
  conv => whnf
  refine Cells.lit rfl rfl ?_
  conv => whnf
  refine Br.no ?_
  conv => whnf
  refine Br.no ?_
  conv => whnf
  refine Br.od h (fun p2 h => ?_) (fun p2 h => ?_)
  ·conv => whnf
   refine Br.yes ?_
   conv => whnf
   refine Br.yes ?_
   conv => whnf
   refine Br.yes ?_
   conv => whnf
   refine Br.yes ?_
   conv => whnf
   refine Br.yes ?_
   conv => whnf
   cases h; exact ⟨rfl, rfl⟩
  conv => whnf
  refine Br.no ?_
  conv => whnf
  refine Cells.lit rfl rfl ?_
  conv => whnf
  refine Br.no ?_
  conv => whnf
  refine Len.map ?_
  conv => whnf
  refine Br.no ?_
  conv => whnf
  refine Br.no ?_
  conv => whnf
  refine Br.od h (fun p3 h => ?_) (fun p3 h => ?_)
  ·conv => whnf
   cases h; exact ⟨rfl, rfl⟩
  conv => whnf
  cases h; exact ⟨rfl, rfl⟩
 rintro (⟨⟩ | ⟨⟩) h
 ·try dsimp only at h
  conv => whnf
  cases h; exact (by rfl)
 try dsimp only at h
 conv => whnf
 refine Cells.lit rfl rfl ?_
 conv => whnf
 refine Len.map ?_
 conv => whnf
 refine LoopQ.o [22, 21, 20, 1] (J2 a0) (On a0) h (fun s o h => Yk s o h) (by rfl) (by rintro (_ | _) <;> rfl) ?_
 rintro (⟨⟩ | ⟨⟩) h
 ·try dsimp only at h
  conv => whnf
  cases h; exact (by rfl)
 try dsimp only at h
 conv => whnf
 cases h; exact (by rfl)
noncomputable def Eh (a0 : SAlgebra) : Int → Option (Int ⊕ (Unit ⊕ Unit)) := fun x3 =>
 if x3 < (↑a0.Ops.length : Int) then
 ask ((0 : Int) ≤ x3 ∧ x3 < (↑a0.Ops.length : Int)) <|
 (C5 (a0.Size) (nth a0.Ops x3.toNat)).bind fun r7 =>
 if (r7) = true then
 ask (InI (x3 + (1 : Int))) <|
 some (.inl (x3 + (1 : Int)))
 else
 some (.inr (.inl ()))
 else
 some (.inr (.inr ()))
def Mn (a0 : SAlgebra) : Int → St := fun s => [(3, A.val (Ae s)), (1, A.val ((rP true (Al false)) (a0)))]
def T3 (_a0 : SAlgebra) : (Unit ⊕ Unit) → Tgt
 | (.inl _s) => (Ex.ret, [2], [(2, A.val (V.bool (false)))])
 | (.inr _s) => ((Ex.exit 0), [], [])
theorem Adi {a0 : SAlgebra} (x3 : Int) (o : Int ⊕ (Unit ⊕ Unit)) (h : Eh a0 x3 = some o) : vc Try.prog T7 (Dy [3, 1] (Mn a0) (T3 a0) o) (Mn a0 x3) := by
 unfold Eh at h
 try dsimp only at h
 conv => whnf
 refine Cells.lit rfl rfl ?_
 conv => whnf
 refine Len.map ?_
 conv => whnf
 refine Br.od h (fun p5 h => ?_) (fun p5 h => ?_)
 ·conv => whnf
  refine Cells.lit rfl rfl ?_
  conv => whnf
  refine Cells.lit rfl rfl ?_
  conv => whnf
  refine Len.map ?_
  conv => whnf
  refine Ask.o h fun p6 h => ?_
  conv => whnf
  refine Elem.o (by first | omega | (simp [Bh] at * <;> omega)) ?_
  conv => whnf
  refine CallQ.o V.bool (by rfl) h (fun r h => Hn h) (fun r7 h => ?_)
  conv => whnf
  refine Br.flip ?_
  conv => whnf
  refine Br.ob h (fun p8 h => ?_) (fun p8 h => ?_)
  ·conv => whnf
   refine Ask.o h fun p9 h => ?_
   conv => whnf
   cases h; exact ⟨rfl, rfl⟩
  conv => whnf
  cases h; exact ⟨rfl, rfl⟩
 conv => whnf
 cases h; exact ⟨rfl, rfl⟩
noncomputable def G2 (a0 : SAlgebra) : Option Bool :=
 (((Ey (a0.Size) ((1 : Int)) ((8 : Int))).bind fun r1 =>
 if (r1) = true then
 if (↑a0.Ops.length : Int) > (4 : Int) then
 some (.inl ())
 else
 some (.inr ())
 else
 some (.inl ()) : Option (Unit ⊕ Unit))).bind fun t => match t with
 | (.inl _) => (some false)
 | (.inr _) => ((Ar (Eh a0) (0 : Int)).bind fun t => match t with
 | (.inl _) => (some false)
 | (.inr _) => (some true))
theorem Ss {a0 : SAlgebra} {v : Bool} (h : G2 a0 = some v) : Ret Try.prog Kj [(Al false) a0] (V.bool v) := by
 refine Bg Ain (Nat.le_of_ble_eq_true rfl) ?_
 unfold G2 at h
 conv => whnf
 refine CutQ.o (fun t : (Unit ⊕ Unit) => match t with | (.inl s) => (Ex.ret, [2], [(2, A.val (V.bool (false)))]) | (.inr s) => (Ex.normal, [1], [(1, A.val ((rP true (Al false)) (a0)))])) h ?_ ?_
 ·intro t h
  conv => whnf
  refine Cells.lit rfl rfl ?_
  conv => whnf
  refine CallQ.o V.bool (by rfl) h (fun r h => I0 h) (fun r1 h => ?_)
  conv => whnf
  refine Br.flip ?_
  conv => whnf
  refine Br.ob h (fun p2 h => ?_) (fun p2 h => ?_)
  ·conv => whnf
   refine Br.no ?_
   conv => whnf
   refine Cells.lit rfl rfl ?_
   conv => whnf
   refine Br.no ?_
   conv => whnf
   refine Len.map ?_
   conv => whnf
   refine Br.no ?_
   conv => whnf
   refine Br.no ?_
   conv => whnf
   refine Br.od h (fun p3 h => ?_) (fun p3 h => ?_)
   ·conv => whnf
    cases h; exact ⟨rfl, rfl⟩
   conv => whnf
   cases h; exact ⟨rfl, rfl⟩
  conv => whnf
  refine Br.yes ?_
  conv => whnf
  refine Br.yes ?_
  conv => whnf
  refine Br.yes ?_
  conv => whnf
  refine Br.yes ?_
  conv => whnf
  refine Br.yes ?_
  conv => whnf
  cases h; exact ⟨rfl, rfl⟩
 rintro (⟨⟩ | ⟨⟩) h
 ·try dsimp only at h
  conv => whnf
  cases h; exact (by rfl)
 try dsimp only at h
 conv => whnf
 refine LoopQ.o [3, 1] (Mn a0) (T3 a0) h (fun s o h => Adi s o h) (by rfl) (by rintro (_ | _) <;> rfl) ?_
 rintro (⟨⟩ | ⟨⟩) h
 ·try dsimp only at h
  conv => whnf
  cases h; exact (by rfl)
 try dsimp only at h
 conv => whnf
 cases h; exact (by rfl)
end Go.Proofs.Ytoaojijoefljaaa.Ax
