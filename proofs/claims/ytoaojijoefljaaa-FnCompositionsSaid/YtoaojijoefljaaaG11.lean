/-
 What the functions compute, as functions on plain data, and that the program does compute it; written by program.
-/
import Derived.Test.YtoaojijoefljaaaCode
import Derived.Test.YtoaojijoefljaaaG1
import Derived.Test.YtoaojijoefljaaaG2
import Derived.Test.YtoaojijoefljaaaG3
import Derived.Test.YtoaojijoefljaaaG8
import Derived.Test.YtoaojijoefljaaaG10
namespace Go.Proofs.Ytoaojijoefljaaa.Ax
open Go
set_option maxRecDepth 100000
set_option maxHeartbeats 4000000
noncomputable def Dd (_n0 : Int) (_op0 : SOp) (_number0 : Int) (_known0 : Int) (_before0 : Int) (_size0 : Int) (_x15 : Int) (x8 : Sl12Find) (r7 : List Int) : (Int × (List (List Int))) → Option ((Int × (List (List Int))) ⊕ (List (List Int))) := fun (x18, x17) =>
 if x18 < (↑r7.length : Int) then
 ask ((0 : Int) ≤ x18 ∧ x18 < (↑r7.length : Int)) <|
 ask ((0 : Int) ≤ nth r7 x18.toNat ∧ nth r7 x18.toNat < (↑x8.tables.length : Int)) <|
 ask ((x17).length + ([nth x8.tables (nth r7 x18.toNat).toNat]).length ≤ LIM) <|
 ask (InI (x18 + (1 : Int))) <|
 some (.inl (x18 + (1 : Int), x17 ++ [nth x8.tables (nth r7 x18.toNat).toNat]))
 else
 some (.inr x17)
def Kq (n0 : Int) (op0 : SOp) (number0 : Int) (known0 : Int) (before0 : Int) (size0 : Int) (x15 : Int) (x8 : Sl12Find) (r7 : List Int) : (Int × (List (List Int))) → St := fun s => [(18, A.val (Ae s.1)), (17, A.val ((slr true 1 (slr false 1 Ae)) s.2)), (16, A.val ((slr true 1 Ae) (r7))), (15, A.val (Ae (x15))), (14, A.val ((rP true (Am)) ({ tables := Ao (List Int), steps := Ao SCloneStep, large := false }))), (9, A.val ((rP true (Ai false)) (op0))), (8, A.val ((rP true (Am)) (x8))), (0, A.val (Ae (n0))), (3, A.val (Ae (number0))), (4, A.val (Ae (known0))), (5, A.val (Ae (before0))), (6, A.val (Ae (size0)))]
def Pk (n0 : Int) (op0 : SOp) (number0 : Int) (known0 : Int) (before0 : Int) (size0 : Int) (x15 : Int) (x8 : Sl12Find) (r7 : List Int) : (List (List Int)) → Tgt
 | s => ((Ex.exit 2), [17, 16, 15, 14, 9, 8, 0, 3, 4, 5, 6], [(17, A.val ((slr true 1 (slr false 1 Ae)) s)), (16, A.val ((slr true 1 Ae) (r7))), (15, A.val (Ae (x15))), (14, A.val ((rP true (Am)) ({ tables := Ao (List Int), steps := Ao SCloneStep, large := false }))), (9, A.val ((rP true (Ai false)) (op0))), (8, A.val ((rP true (Am)) (x8))), (0, A.val (Ae (n0))), (3, A.val (Ae (number0))), (4, A.val (Ae (known0))), (5, A.val (Ae (before0))), (6, A.val (Ae (size0)))])
theorem Aaf {n0 : Int} {op0 : SOp} {number0 : Int} {known0 : Int} {before0 : Int} {size0 : Int} {x15 : Int} {x8 : Sl12Find} {r7 : List Int} (s : (Int × (List (List Int)))) (o : (Int × (List (List Int))) ⊕ (List (List Int))) (h : Dd n0 op0 number0 known0 before0 size0 x15 x8 r7 s = some o) : vc Try.prog Po (Dy [18, 17, 16, 15, 14, 9, 8, 0, 3, 4, 5, 6] (Kq n0 op0 number0 known0 before0 size0 x15 x8 r7) (Pk n0 op0 number0 known0 before0 size0 x15 x8 r7) o) (Kq n0 op0 number0 known0 before0 size0 x15 x8 r7 s) := by
 obtain ⟨x18, x17⟩ := s
 unfold Dd at h
 try dsimp only at h
 conv => whnf
 refine Len.map ?_
 conv => whnf
 refine Br.od h (fun p8 h => ?_) (fun p8 h => ?_)
 ·conv => whnf
  refine Cells.lit rfl rfl ?_
  conv => whnf
  refine Len.map ?_
  conv => whnf
  refine Ask.o h fun p9 h => ?_
  conv => whnf
  refine Cells.one (fun _ => ⟨rfl, rfl⟩) (by first | omega | (simp [Bh] at * <;> omega)) ?_
  conv => whnf
  refine Kid.lit rfl rfl ?_
  conv => whnf
  refine Len.map ?_
  conv => whnf
  refine Ask.o h fun p10 h => ?_
  conv => whnf
  refine Kid.lit rfl rfl ?_
  conv => whnf
  refine Cells.one (fun _ => ⟨rfl, rfl⟩) (by first | omega | (simp [Bh] at * <;> omega)) ?_
  conv => whnf
  refine BslQ.o (slr false 1 Ae) ([nth x8.tables (nth r7 x18.toNat).toNat]) (by exact fun _ => ⟨rfl, rfl⟩) (by rfl) ?_
  conv => whnf
  refine NoOwn.o (fun _ => rfl) ?_
  conv => whnf
  refine AppQ.o (m := 1) (slr false 1 Ae) (by exact fun _ => ⟨rfl, rfl⟩) (x17) ([nth x8.tables (nth r7 x18.toNat).toNat]) (by rfl) (by rfl) h fun h => ?_
  conv => whnf
  refine Ask.o h fun p11 h => ?_
  conv => whnf
  cases h; exact ⟨rfl, rfl⟩
 conv => whnf
 cases h; exact ⟨rfl, rfl⟩
noncomputable def Fw (n0 : Int) (op0 : SOp) (number0 : Int) (known0 : Int) (before0 : Int) (size0 : Int) : (Int × Sl12Find) → Option ((Int × Sl12Find) ⊕ Sl12Find) := fun (x15, x8) =>
 (((Cj (known0) (op0.Arity)).bind fun r1 =>
 if x15 < r1 then
 if (x8.large) = true then
 some (.inl ())
 else
 some (.inr ())
 else
 some (.inl ()) : Option (Unit ⊕ Unit))).bind fun t => match t with
 | (.inl _) => (some (.inr x8))
 | (.inr _) => ((H9 (known0) (op0.Arity) (x15) (before0)).bind fun r5 =>
 if (r5) = true then
 (Gx (known0) (op0.Arity) (x15)).bind fun r7 =>
 (Ar (Dd n0 op0 number0 known0 before0 size0 x15 x8 r7) ((0 : Int), Ao (List Int))).bind fun q12_17 =>
 (Dw (n0) (op0) (q12_17) (size0)).bind fun r13 =>
 (G0 (x8) (r13) ({ Op := number0, Args := r7 })).bind fun r14 =>
 ask (InI (x15 + (1 : Int))) <|
 some (.inl (x15 + (1 : Int), r14))
 else
 ask (InI (x15 + (1 : Int))) <|
 some (.inl (x15 + (1 : Int), x8)))
def K1 (n0 : Int) (op0 : SOp) (number0 : Int) (known0 : Int) (before0 : Int) (size0 : Int) : (Int × Sl12Find) → St := fun s => [(15, A.val (Ae s.1)), (14, A.val ((rP true (Am)) ({ tables := Ao (List Int), steps := Ao SCloneStep, large := false }))), (9, A.val ((rP true (Ai false)) (op0))), (8, A.val ((rP true (Am)) s.2)), (0, A.val (Ae (n0))), (3, A.val (Ae (number0))), (4, A.val (Ae (known0))), (5, A.val (Ae (before0))), (6, A.val (Ae (size0)))]
def Qp (_n0 : Int) (_op0 : SOp) (_number0 : Int) (_known0 : Int) (_before0 : Int) (_size0 : Int) : Sl12Find → Tgt
 | s => ((Ex.exit 0), [14, 8], [(14, A.val ((rP true (Am)) ({ tables := Ao (List Int), steps := Ao SCloneStep, large := false }))), (8, A.val ((rP true (Am)) s))])
theorem Zo {n0 : Int} {op0 : SOp} {number0 : Int} {known0 : Int} {before0 : Int} {size0 : Int} (s : (Int × Sl12Find)) (o : (Int × Sl12Find) ⊕ Sl12Find) (h : Fw n0 op0 number0 known0 before0 size0 s = some o) : vc Try.prog Qh (Dy [15, 14, 9, 8, 0, 3, 4, 5, 6] (K1 n0 op0 number0 known0 before0 size0) (Qp n0 op0 number0 known0 before0 size0) o) (K1 n0 op0 number0 known0 before0 size0 s) := by
 obtain ⟨x15, x8⟩ := s
 unfold Fw at h
 try dsimp only at h
 conv => whnf
 refine CutQ.o (fun t : (Unit ⊕ Unit) => match t with | (.inl s) => ((Ex.exit 0), [14, 8], [(14, A.val ((rP true (Am)) ({ tables := Ao (List Int), steps := Ao SCloneStep, large := false }))), (8, A.val ((rP true (Am)) (x8)))]) | (.inr s) => (Ex.normal, [15, 14, 9, 8, 0, 3, 4, 5, 6], [(15, A.val (Ae (x15))), (14, A.val ((rP true (Am)) ({ tables := Ao (List Int), steps := Ao SCloneStep, large := false }))), (9, A.val ((rP true (Ai false)) (op0))), (8, A.val ((rP true (Am)) (x8))), (0, A.val (Ae (n0))), (3, A.val (Ae (number0))), (4, A.val (Ae (known0))), (5, A.val (Ae (before0))), (6, A.val (Ae (size0)))])) h ?_ ?_
 ·intro t h
  conv => whnf
  refine Cells.lit rfl rfl ?_
  conv => whnf
  refine CallQ.o Ae (by rfl) h (fun r h => Gm h) (fun r1 h => ?_)
  conv => whnf
  refine Br.od h (fun p2 h => ?_) (fun p2 h => ?_)
  ·conv => whnf
   refine Br.yes ?_
   conv => whnf
   refine Cells.lit rfl rfl ?_
   conv => whnf
   refine Br.yes ?_
   conv => whnf
   refine Br.yes ?_
   conv => whnf
   refine Br.flip ?_
   conv => whnf
   refine Br.ob h (fun p3 h => ?_) (fun p3 h => ?_)
   ·conv => whnf
    cases h; exact ⟨rfl, rfl⟩
   conv => whnf
   cases h; exact ⟨rfl, rfl⟩
  conv => whnf
  refine Br.no ?_
  conv => whnf
  refine Br.no ?_
  conv => whnf
  refine Br.no ?_
  conv => whnf
  refine Br.no ?_
  conv => whnf
  cases h; exact ⟨rfl, rfl⟩
 rintro (⟨⟩ | ⟨⟩) h
 ·try dsimp only at h
  conv => whnf
  cases h; exact ⟨rfl, rfl⟩
 try dsimp only at h
 conv => whnf
 refine Cells.lit rfl rfl ?_
 conv => whnf
 refine CallQ.o V.bool (by rfl) h (fun r h => Afc h) (fun r5 h => ?_)
 conv => whnf
 refine Br.flip ?_
 conv => whnf
 refine Br.ob h (fun p6 h => ?_) (fun p6 h => ?_)
 ·conv => whnf
  refine Cells.lit rfl rfl ?_
  conv => whnf
  refine CallQ.o (slr true 1 Ae) (by rfl) h (fun r h => Zg h) (fun r7 h => ?_)
  conv => whnf
  refine BslQ.o (slr true 1 Ae) (Ao (List Int)) (by exact fun _ => ⟨rfl, rfl⟩) (by rfl) ?_
  conv => whnf
  refine LoopQ.o [18, 17, 16, 15, 14, 9, 8, 0, 3, 4, 5, 6] (Kq n0 op0 number0 known0 before0 size0 x15 x8 r7) (Pk n0 op0 number0 known0 before0 size0 x15 x8 r7) h (fun s o h => Aaf s o h) (by rfl) (fun _ => rfl) ?_
  rintro q12_17 h
  try dsimp only at h
  conv => whnf
  refine FrzQ.d (V.sl false (1 : Nat) (List.map Ae r7)) (by first | (simp only [slr]; done) | (simp [Au, V.fz, Ab, slr]; done) | (simp [Au, V.fz, fzL, Ab, slr]; done)) ?_
  conv => whnf
  refine Cells.lit rfl rfl ?_
  conv => whnf
  refine Cells.lit rfl rfl ?_
  conv => whnf
  refine CallP.rd (slr true 1 Ae) (by first | rfl | simp only [V.fz, fzL, V.up, Ab, Ad, slr] | simp [Aa, V.fz, fzL, V.up, upL, Ab, Ac, Ad, slr]) (fun _ => by simp [V.noFz, Be]) h (fun r h => Lz h) (fun r13 h => ?_)
  conv => whnf
  refine Kid.lit rfl rfl ?_
  conv => whnf
  refine Kid.lit rfl rfl ?_
  conv => whnf
  refine LendQ.give2 (j1 := 0) (j2 := 1) 0 (Am) (by first | rfl | simp [Ag8, Au, V.fz, fzL, V.up, upL, Ab, slr]) rfl rfl rfl (fun _ => by first | rfl | simp [Ea, V.noFz, Bq, Be, NoFz.eq]) rfl h (fun r h => Zb h) (fun r14 h => ?_)
  conv => whnf
  refine Kid.lit rfl rfl ?_
  conv => whnf
  refine SetKids.lit rfl ?_
  conv => whnf
  refine Kid.lit rfl rfl ?_
  conv => whnf
  refine SetKids.lit rfl ?_
  conv => whnf
  refine Kid.lit rfl rfl ?_
  conv => whnf
  refine SetKids.lit rfl ?_
  conv => whnf
  refine SetKids.lit rfl ?_
  conv => whnf
  refine Ask.o h fun p15 h => ?_
  conv => whnf
  cases h; exact ⟨rfl, rfl⟩
 conv => whnf
 refine Ask.o h fun p16 h => ?_
 conv => whnf
 cases h; exact ⟨rfl, rfl⟩
noncomputable def H6 (n0 : Int) (f0 : Sl12Find) (op0 : SOp) (number0 : Int) (known0 : Int) (before0 : Int) (size0 : Int) : Option Sl12Find :=
 (Ar (Fw n0 op0 number0 known0 before0 size0) ((0 : Int), f0)).bind fun q17_8 =>
 some q17_8
theorem Ae0 {n0 : Int} {f0 : Sl12Find} {op0 : SOp} {number0 : Int} {known0 : Int} {before0 : Int} {size0 : Int} {v : Sl12Find} (h : H6 n0 f0 op0 number0 known0 before0 size0 = some v) : Sm Try.prog N8 [Ae n0, (Am) f0, (Ai false) op0, Ae number0, Ae known0, Ae before0, Ae size0] ((Am) v) 1 (V.agg (List.replicate 3 V.dead)) := by
 refine Aoj rfl rfl Aep (Nat.le_of_ble_eq_true rfl) ?_
 unfold H6 at h
 conv => whnf
 refine LoopQ.o [15, 14, 9, 8, 0, 3, 4, 5, 6] (K1 n0 op0 number0 known0 before0 size0) (Qp n0 op0 number0 known0 before0 size0) h (fun s o h => Zo s o h) (by rfl) (fun _ => rfl) ?_
 rintro q17_8 h
 try dsimp only at h
 conv => whnf
 refine Cells.lit rfl rfl ?_
 conv => whnf
 refine SetKids.lit rfl ?_
 conv => whnf
 cases h; exact (by rfl)
noncomputable def C7 (a0 : SAlgebra) (f0 : SOp) : Option (Bool × Bool) :=
 (Cs (a0) (f0.Arity)).bind fun t => match t with
 | (none, r1_2) => (((if (r1_2) = true then
 (C6 (f0) (a0.Size)).bind fun r3 =>
 if (r3) = true then
 some (.inl ())
 else
 some (.inr ())
 else
 some (.inr ()) : Option (Unit ⊕ Unit))).bind fun t => match t with
 | (.inl _) => (none)
 | (.inr _) => (some (false, false)))
 | ((some r1_1), r1_2) => (((if (r1_2) = true then
 (C6 (f0) (a0.Size)).bind fun r7 =>
 if (r7) = true then
 some (.inl ())
 else
 some (.inr ())
 else
 some (.inr ()) : Option (Unit ⊕ Unit))).bind fun t => match t with
 | (.inl _) => ((Jo (f0.Table)).bind fun r10 =>
 some ((E5 r1_1.seen r10).getD false, true))
 | (.inr _) => (some (false, false)))
theorem Mh {a0 : SAlgebra} {f0 : SOp} {v : (Bool × Bool)} (h : C7 a0 f0 = some v) : Ret Try.prog F6 [(Al false) a0, (Ai false) f0] ((fun r => V.tup [V.bool r.1, V.bool r.2]) v) := by
 refine Bg Vy (Nat.le_of_ble_eq_true rfl) ?_
 unfold C7 at h
 conv => whnf
 refine Cells.lit rfl rfl ?_
 conv => whnf
 refine Cells.lit rfl rfl ?_
 conv => whnf
 refine CallQ.o (fun r => V.tup [(rO false (Ee false)) r.1, V.bool r.2]) (by rfl) h (fun r h => Nw h) (fun r1 h => ?_)
 rcases r1 with ⟨(_ | r1_1), r1_2⟩
 ·try dsimp only at h
  conv => whnf
  refine CutQ.o (fun t : (Unit ⊕ Unit) => match t with | (.inl s) => (Ex.normal, [6, 3], [(6, A.val (rO false (Ee false) none).up.up), (3, A.val ((rP true (Ai false)) (f0)))]) | (.inr s) => (Ex.ret, [5, 4], [(5, A.val (V.bool (false))), (4, A.val (V.bool (false)))])) h ?_ ?_
  ·intro t h
   conv => whnf
   refine Br.flip ?_
   conv => whnf
   refine Br.ob h (fun p2 h => ?_) (fun p2 h => ?_)
   ·conv => whnf
    refine Cells.lit rfl rfl ?_
    conv => whnf
    refine Br.no ?_
    conv => whnf
    refine Br.no ?_
    conv => whnf
    refine Cells.lit rfl rfl ?_
    conv => whnf
    refine Br.no ?_
    conv => whnf
    refine CallQ.o V.bool (by rfl) h (fun r h => Hq h) (fun r3 h => ?_)
    conv => whnf
    refine Br.no ?_
    conv => whnf
    refine Br.no ?_
    conv => whnf
    refine Br.flip ?_
    conv => whnf
    refine Br.ob h (fun p4 h => ?_) (fun p4 h => ?_)
    ·conv => whnf
     cases h; exact ⟨rfl, rfl⟩
    conv => whnf
    cases h; exact ⟨rfl, rfl⟩
   conv => whnf
   refine Br.yes ?_
   conv => whnf
   refine Br.yes ?_
   conv => whnf
   refine Br.yes ?_
   conv => whnf
   refine Br.yes ?_
   conv => whnf
   refine Br.yes ?_
   conv => whnf
   refine Br.yes ?_
   conv => whnf
   cases h; exact ⟨rfl, rfl⟩
  rintro (⟨⟩ | ⟨⟩) h
  ·try dsimp only at h
   conv => whnf
   cases h
  try dsimp only at h
  conv => whnf
  cases h; exact (by rfl)
 try dsimp only at h
 conv => whnf
 refine CutQ.o (fun t : (Unit ⊕ Unit) => match t with | (.inl s) => (Ex.normal, [6, 3], [(6, A.val ((rP false (Ee false)) (r1_1))), (3, A.val ((rP true (Ai false)) (f0)))]) | (.inr s) => (Ex.ret, [5, 4], [(5, A.val (V.bool (false))), (4, A.val (V.bool (false)))])) h ?_ ?_
 ·intro t h
  conv => whnf
  refine Br.flip ?_
  conv => whnf
  refine Br.ob h (fun p6 h => ?_) (fun p6 h => ?_)
  ·conv => whnf
   refine Cells.lit rfl rfl ?_
   conv => whnf
   refine Br.no ?_
   conv => whnf
   refine Br.no ?_
   conv => whnf
   refine Cells.lit rfl rfl ?_
   conv => whnf
   refine Br.no ?_
   conv => whnf
   refine CallQ.o V.bool (by rfl) h (fun r h => Hq h) (fun r7 h => ?_)
   conv => whnf
   refine Br.no ?_
   conv => whnf
   refine Br.no ?_
   conv => whnf
   refine Br.flip ?_
   conv => whnf
   refine Br.ob h (fun p8 h => ?_) (fun p8 h => ?_)
   ·conv => whnf
    cases h; exact ⟨rfl, rfl⟩
   conv => whnf
   cases h; exact ⟨rfl, rfl⟩
  conv => whnf
  refine Br.yes ?_
  conv => whnf
  refine Br.yes ?_
  conv => whnf
  refine Br.yes ?_
  conv => whnf
  refine Br.yes ?_
  conv => whnf
  refine Br.yes ?_
  conv => whnf
  refine Br.yes ?_
  conv => whnf
  cases h; exact ⟨rfl, rfl⟩
 rintro (⟨⟩ | ⟨⟩) h
 ·try dsimp only at h
  conv => whnf
  refine Cells.lit rfl rfl ?_
  conv => whnf
  refine CallP.o V.str (by rfl) h (fun r h => Aa3 h) (fun r10 h => ?_)
  conv => whnf
  refine LkQ.one Lf.bool V.bool r1_1.seen (false) (by rfl) rfl (fun _ => rfl) ?_
  conv => whnf
  cases h; exact (by rfl)
 try dsimp only at h
 conv => whnf
 cases h; exact (by rfl)
noncomputable def Eu (a0 : SAlgebra) (k0 : Int) : Option ((List SOp) × Bool) :=
 (Cs (a0) (k0)).bind fun t => match t with
 | (none, r1_2) => (if (r1_2) = true then
 none
 else
 some (Ao SOp, false))
 | ((some r1_1), r1_2) => (if (r1_2) = true then
 (Lv (k0) (r1_1.tables)).bind fun r4 =>
 some (r4, true)
 else
 some (Ao SOp, false))
theorem Wx {a0 : SAlgebra} {k0 : Int} {v : ((List SOp) × Bool)} (h : Eu a0 k0 = some v) : Ret Try.prog Jc [(Al false) a0, Ae k0] ((fun r => V.tup [(slr true 2 (Ai true)) r.1, V.bool r.2]) v) := by
 refine Bg Xi (Nat.le_of_ble_eq_true rfl) ?_
 unfold Eu at h
 conv => whnf
 refine Cells.lit rfl rfl ?_
 conv => whnf
 refine CallQ.o (fun r => V.tup [(rO false (Ee false)) r.1, V.bool r.2]) (by rfl) h (fun r h => Nw h) (fun r1 h => ?_)
 rcases r1 with ⟨(_ | r1_1), r1_2⟩
 ·try dsimp only at h
  conv => whnf
  refine Br.flip ?_
  conv => whnf
  refine Br.ob h (fun p2 h => ?_) (fun p2 h => ?_)
  ·conv => whnf
   cases h
  conv => whnf
  refine BslQ.o (Ai true) (Ao SOp) (by exact fun _ => ⟨rfl, rfl⟩) (by rfl) ?_
  conv => whnf
  cases h; exact (by rfl)
 try dsimp only at h
 conv => whnf
 refine Br.flip ?_
 conv => whnf
 refine Br.ob h (fun p3 h => ?_) (fun p3 h => ?_)
 ·conv => whnf
  refine CallQ.o (slr true 2 (Ai true)) (by rfl) h (fun r h => Ak5 h) (fun r4 h => ?_)
  conv => whnf
  cases h; exact (by rfl)
 conv => whnf
 refine BslQ.o (Ai true) (Ao SOp) (by exact fun _ => ⟨rfl, rfl⟩) (by rfl) ?_
 conv => whnf
 cases h; exact (by rfl)
noncomputable def Eb (_r5 : Int) (r7 : SOp) (r9 : Int) : (Int × (List Int) × Sl1Cur) → Option ((Int × (List Int) × Sl1Cur) ⊕ ((List Int) × Sl1Cur)) := fun (x11, x10, x6) =>
 if x11 < r7.Arity then
 (C9 (r9) ((1 : Int))).bind fun r12 =>
 (Ap (x6) (r12)).bind fun (r13, u14) =>
 ask ((x10).length + ([r13]).length ≤ LIM) <|
 ask (InI (x11 + (1 : Int))) <|
 some (.inl (x11 + (1 : Int), x10 ++ [r13], u14))
 else
 some (.inr (x10, x6))
def Ij (r5 : Int) (r7 : SOp) (r9 : Int) : (Int × (List Int) × Sl1Cur) → St := fun s => [(11, A.val (Ae s.1)), (10, A.val ((slr true 1 Ae) s.2.1)), (9, A.val (Ae (r9))), (8, A.val ((rP true (Ai true)) (r7))), (7, A.val (Ae (r5))), (6, A.val ((rP true (Ak false)) s.2.2)), (3, A.val ((rP true (Ai true)) ({ Arity := (0 : Int), Table := Ao Int })))]
def Mf (r5 : Int) (r7 : SOp) (r9 : Int) : ((List Int) × Sl1Cur) → Tgt
 | s => ((Ex.exit 0), [10, 9, 8, 7, 6, 3], [(10, A.val ((slr true 1 Ae) s.1)), (9, A.val (Ae (r9))), (8, A.val ((rP true (Ai true)) (r7))), (7, A.val (Ae (r5))), (6, A.val ((rP true (Ak false)) s.2)), (3, A.val ((rP true (Ai true)) ({ Arity := (0 : Int), Table := Ao Int })))])
theorem We {r5 : Int} {r7 : SOp} {r9 : Int} (s : (Int × (List Int) × Sl1Cur)) (o : (Int × (List Int) × Sl1Cur) ⊕ ((List Int) × Sl1Cur)) (h : Eb r5 r7 r9 s = some o) : vc Try.prog Me (Dy [11, 10, 9, 8, 7, 6, 3] (Ij r5 r7 r9) (Mf r5 r7 r9) o) (Ij r5 r7 r9 s) := by
 obtain ⟨x11, x10, x6⟩ := s
 unfold Eb at h
 try dsimp only at h
 conv => whnf
 refine Cells.lit rfl rfl ?_
 conv => whnf
 refine Br.od h (fun p11 h => ?_) (fun p11 h => ?_)
 ·conv => whnf
  refine CallQ.o Ae (by rfl) h (fun r h => Sn h) (fun r12 h => ?_)
  conv => whnf
  refine CallQ.io Ae (rP true (Ak false)) (by rfl) rfl (fun _ => rfl) (fun _ => ⟨rfl, rfl⟩) rfl h (fun r h => Aw h) (fun r13 u14 h => ?_)
  conv => whnf
  refine BslQ.o Ae [r13] (by exact fun _ => ⟨rfl, rfl⟩) (by rfl) ?_
  conv => whnf
  refine NoOwn.o (fun _ => rfl) ?_
  conv => whnf
  refine AppQ.o (m := 1) Ae (by exact fun _ => ⟨rfl, rfl⟩) (x10) ([r13]) (by rfl) (by rfl) h fun h => ?_
  conv => whnf
  refine Ask.o h fun p15 h => ?_
  conv => whnf
  cases h; exact ⟨rfl, rfl⟩
 conv => whnf
 cases h; exact ⟨rfl, rfl⟩
noncomputable def F2 (code0 : (List Int)) : Option (Int × SOp × (List Int) × Int) :=
 (Ap ({ code := code0, at_ := (0 : Int), seed := (0 : Int) }) ((24 : Int))).bind fun (r1, u2) =>
 ask ((11 : Int) ≠ (0 : Int) ∧ InI (r1.tdiv (11 : Int))) <|
 ask (InI ((5 : Int) + r1.tdiv (11 : Int))) <|
 ask (0 ≤ (0 : Int) ∧ (0 : Int) ≤ (5 : Int) + r1.tdiv (11 : Int) ∧ (5 : Int) + r1.tdiv (11 : Int) ≤ (([(1 : Int), (2 : Int), (2 : Int), (3 : Int), (4 : Int), (0 : Int), (9 : Int)].length : Nat) : Int)) <|
 (Ay (u2) (List.take (((5 : Int) + r1.tdiv (11 : Int)).toNat - Int.toNat (0 : Int)) (List.drop (Int.toNat (0 : Int)) [(1 : Int), (2 : Int), (2 : Int), (3 : Int), (4 : Int), (0 : Int), (9 : Int)]))).bind fun (r5, u6) =>
 (Bn (u6) (r5)).bind fun (r7, u8) =>
 (Dm (u8)).bind fun (r9, u10) =>
 (Ar (Eb r5 r7 r9) ((0 : Int), Ao Int, u10)).bind fun (q16_10, q16_6) =>
 (((Do (q16_6) ((16 : Int))).bind fun (r17, u18) =>
 if (r17) = true then
 (Ay (u18) ([(0 : Int), r9])).bind fun (r20, _u21) =>
 ask ((q16_10).length + ([r20]).length ≤ LIM) <|
 some (q16_10 ++ [r20])
 else
 some q16_10 : Option (List Int))).bind fun q22_10 =>
 some (r5, r7, q22_10, r9)
theorem Zm {code0 : (List Int)} {v : (Int × SOp × (List Int) × Int)} (h : F2 code0 = some v) : Ret Try.prog Kw [(slr false 1 (V.int IntKind.u8)) code0] ((fun r => V.tup [Ae r.1, (Ai false) r.2.1, (slr false 1 Ae) r.2.2.1, Ae r.2.2.2]) v) := by
 refine Abj Aag (Nat.le_of_ble_eq_true rfl) ?_
 unfold F2 at h
 conv => whnf
 refine BslQ.o Ae ([(1 : Int), (2 : Int), (2 : Int), (3 : Int), (4 : Int), (0 : Int), (9 : Int)]) (by exact fun _ => ⟨rfl, rfl⟩) (by rfl) ?_
 conv => whnf
 refine CallQ.io Ae (rP true (Ak false)) (by rfl) rfl (fun _ => rfl) (fun _ => ⟨rfl, rfl⟩) rfl h (fun r h => Aw h) (fun r1 u2 h => ?_)
 conv => whnf
 refine Ask.o h fun p3 h => ?_
 conv => whnf
 refine Ask.o h fun p4 h => ?_
 conv => whnf
 refine SlcQ.lst (xs := [(1 : Int), (2 : Int), (2 : Int), (3 : Int), (4 : Int), (0 : Int), (9 : Int)]) Ae (by rfl) h fun h => ?_
 conv => whnf
 refine CallQ.io Ae (rP true (Ak false)) (by rfl) rfl (fun _ => rfl) (fun _ => ⟨rfl, rfl⟩) rfl h (fun r h => A8 h) (fun r5 u6 h => ?_)
 conv => whnf
 refine CallQ.io (Ai true) (rP true (Ak false)) (by rfl) rfl (fun _ => rfl) (fun _ => ⟨rfl, rfl⟩) rfl h (fun r h => G4 h) (fun r7 u8 h => ?_)
 conv => whnf
 refine SetKids.lit rfl ?_
 conv => whnf
 refine CallQ.io Ae (rP true (Ak false)) (by rfl) rfl (fun _ => rfl) (fun _ => ⟨rfl, rfl⟩) rfl h (fun r h => Nx h) (fun r9 u10 h => ?_)
 conv => whnf
 refine BslQ.o Ae (Ao Int) (by exact fun _ => ⟨rfl, rfl⟩) (by rfl) ?_
 conv => whnf
 refine LoopQ.o [11, 10, 9, 8, 7, 6, 3] (Ij r5 r7 r9) (Mf r5 r7 r9) h (fun s o h => We s o h) (by rfl) (fun _ => rfl) ?_
 rintro ⟨q16_10, q16_6⟩ h
 try dsimp only at h
 conv => whnf
 refine CutQ.o (fun t : (List Int) => match t with | s => (Ex.normal, [10, 9, 8, 7, 3], [(10, A.val ((slr true 1 Ae) s)), (9, A.val (Ae (r9))), (8, A.val ((rP true (Ai true)) (r7))), (7, A.val (Ae (r5))), (3, A.val ((rP true (Ai true)) ({ Arity := (0 : Int), Table := Ao Int })))])) h ?_ ?_
 ·intro t h
  conv => whnf
  refine CallQ.io V.bool (rP true (Ak false)) (by rfl) rfl (fun _ => rfl) (fun _ => ⟨rfl, rfl⟩) rfl h (fun r h => Jr h) (fun r17 u18 h => ?_)
  conv => whnf
  refine Br.ob h (fun p19 h => ?_) (fun p19 h => ?_)
  ·conv => whnf
   refine BslQ.o Ae ([(0 : Int), r9]) (by exact fun _ => ⟨rfl, rfl⟩) (by rfl) ?_
   conv => whnf
   refine CallQ.io Ae (rP true (Ak false)) (by first | rfl | (simp only [Aa, Au, V.fz, fzL, Ab, Ac, slr]; done) | simp [Aa, Au, V.fz, fzL, V.up, upL, Ab, Ac, Ad, slr]) rfl (fun _ => rfl) (fun _ => ⟨rfl, rfl⟩) rfl h (fun r h => A8 h) (fun r20 u21 h => ?_)
   conv => whnf
   refine BslQ.o Ae [r20] (by exact fun _ => ⟨rfl, rfl⟩) (by rfl) ?_
   conv => whnf
   refine NoOwn.o (fun _ => rfl) ?_
   conv => whnf
   refine AppQ.o (m := 1) Ae (by exact fun _ => ⟨rfl, rfl⟩) (q16_10) ([r20]) (by rfl) (by rfl) h fun h => ?_
   conv => whnf
   cases h; exact ⟨rfl, rfl⟩
  conv => whnf
  cases h; exact ⟨rfl, rfl⟩
 rintro q22_10 h
 try dsimp only at h
 conv => whnf
 refine FrzQ.d ((rP false (Ai false)) r7) ((Au _).trans (Eq.trans (b := V.fz ((rP true (Ai true)) r7)) rfl (Ad (rP true (Ai true)) _))) ?_
 conv => whnf
 refine SameQ.mk ⟨rfl, ?_⟩
 conv => whnf
 refine SameQ.mk ⟨rfl, ?_⟩
 conv => whnf
 refine SameQ.mk ⟨rfl, ?_⟩
 conv => whnf
 refine SameQ.mk ⟨rfl, ?_⟩
 conv => whnf
 refine SameQ.mk ⟨rfl, ?_⟩
 conv => whnf
 refine SameQ.mk ⟨rfl, ?_⟩
 conv => whnf
 refine SameQ.mk ⟨rfl, ?_⟩
 conv => whnf
 refine SetKids.lit rfl ?_
 conv => whnf
 refine SameQ.mk ⟨rfl, ?_⟩
 conv => whnf
 refine SameQ.mk ⟨rfl, ?_⟩
 conv => whnf
 refine SameQ.mk ⟨rfl, ?_⟩
 conv => whnf
 cases h; exact (by first | rfl | simp only [Ag, V.fz, fzL, V.up, upL, Ab, slr] | simp [Ag, Aa, V.fz, fzL, V.up, upL, Ab, Ac, Ad, slr])
end Go.Proofs.Ytoaojijoefljaaa.Ax
