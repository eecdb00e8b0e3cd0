/-
 What the functions compute, as functions on plain data, and that the program does compute it; written by program.
-/
import Derived.Test.YtoaojijoefljaaaCode
import Derived.Test.YtoaojijoefljaaaG1
import Derived.Test.YtoaojijoefljaaaG2
import Derived.Test.YtoaojijoefljaaaG3
import Derived.Test.YtoaojijoefljaaaG7
import Derived.Test.YtoaojijoefljaaaG10
namespace Go.Proofs.Ytoaojijoefljaaa.Ax
open Go
set_option maxRecDepth 100000
set_option maxHeartbeats 4000000
noncomputable def C2 (_n0 : Int) (_op0 : SOp) (_number0 : Int) (_known0 : Int) (_before0 : Int) (_size0 : Int) (_x15 : Int) (x8 : Sl12Find) (r7 : List Int) : (Int × (List (List Int))) → Option ((Int × (List (List Int))) ⊕ (List (List Int))) := fun (x18, x17) =>
 if x18 < (↑r7.length : Int) then
 ask ((0 : Int) ≤ x18 ∧ x18 < (↑r7.length : Int)) <|
 ask ((0 : Int) ≤ nth r7 x18.toNat ∧ nth r7 x18.toNat < (↑x8.tables.length : Int)) <|
 ask ((x17).length + ([nth x8.tables (nth r7 x18.toNat).toNat]).length ≤ LIM) <|
 ask (InI (x18 + (1 : Int))) <|
 some (.inl (x18 + (1 : Int), x17 ++ [nth x8.tables (nth r7 x18.toNat).toNat]))
 else
 some (.inr x17)
def Jm (n0 : Int) (op0 : SOp) (number0 : Int) (known0 : Int) (before0 : Int) (size0 : Int) (x15 : Int) (x8 : Sl12Find) (r7 : List Int) : (Int × (List (List Int))) → St := fun s => [(18, A.val (Ae s.1)), (17, A.val ((slr true 1 (slr false 1 Ae)) s.2)), (16, A.val ((slr true 1 Ae) (r7))), (15, A.val (Ae (x15))), (14, A.val ((rP true (Al)) ({ tables := Ar (List Int), steps := Ar SCloneStep, large := false }))), (9, A.val ((rP true (Ak false)) (op0))), (8, A.val ((rP true (Al)) (x8))), (0, A.val (Ae (n0))), (3, A.val (Ae (number0))), (4, A.val (Ae (known0))), (5, A.val (Ae (before0))), (6, A.val (Ae (size0)))]
def Od (n0 : Int) (op0 : SOp) (number0 : Int) (known0 : Int) (before0 : Int) (size0 : Int) (x15 : Int) (x8 : Sl12Find) (r7 : List Int) : (List (List Int)) → Tgt
 | s => ((Ex.exit 2), [17, 16, 15, 14, 9, 8, 0, 3, 4, 5, 6], [(17, A.val ((slr true 1 (slr false 1 Ae)) s)), (16, A.val ((slr true 1 Ae) (r7))), (15, A.val (Ae (x15))), (14, A.val ((rP true (Al)) ({ tables := Ar (List Int), steps := Ar SCloneStep, large := false }))), (9, A.val ((rP true (Ak false)) (op0))), (8, A.val ((rP true (Al)) (x8))), (0, A.val (Ae (n0))), (3, A.val (Ae (number0))), (4, A.val (Ae (known0))), (5, A.val (Ae (before0))), (6, A.val (Ae (size0)))])
theorem Xo {n0 : Int} {op0 : SOp} {number0 : Int} {known0 : Int} {before0 : Int} {size0 : Int} {x15 : Int} {x8 : Sl12Find} {r7 : List Int} (s : (Int × (List (List Int)))) (o : (Int × (List (List Int))) ⊕ (List (List Int))) (h : C2 n0 op0 number0 known0 before0 size0 x15 x8 r7 s = some o) : vc Try.prog Oe (Ef [18, 17, 16, 15, 14, 9, 8, 0, 3, 4, 5, 6] (Jm n0 op0 number0 known0 before0 size0 x15 x8 r7) (Od n0 op0 number0 known0 before0 size0 x15 x8 r7) o) (Jm n0 op0 number0 known0 before0 size0 x15 x8 r7 s) := by
 obtain ⟨x18, x17⟩ := s
 unfold C2 at h
 try dsimp only at h
 conv => whnf
 refine Len.map ?_
 conv => whnf
 refine Br.od h (fun p8 h => ?_) (fun p8 h => ?_)
 ·conv => whnf
  refine Cells.lit rfl rfl ?_
  conv => whnf
  refine Len.map ?_
  conv => whnf
  refine Ask.o h fun p9 h => ?_
  conv => whnf
  refine Cells.one (fun _ => ⟨rfl, rfl⟩) (by first | omega | (simp [Bc] at * <;> omega)) ?_
  conv => whnf
  refine Kid.lit rfl rfl ?_
  conv => whnf
  refine Len.map ?_
  conv => whnf
  refine Ask.o h fun p10 h => ?_
  conv => whnf
  refine Kid.lit rfl rfl ?_
  conv => whnf
  refine Cells.one (fun _ => ⟨rfl, rfl⟩) (by first | omega | (simp [Bc] at * <;> omega)) ?_
  conv => whnf
  refine BslQ.o (slr false 1 Ae) ([nth x8.tables (nth r7 x18.toNat).toNat]) (by exact fun _ => ⟨rfl, rfl⟩) (by first | rfl | simp only [Aa, V.fz, fzL, V.up, upL, Ab, Ac, Ad, slr, List.cons_append, List.nil_append] | simp [Aa, V.fz, fzL, V.up, upL, Ab, Ac, Ad, slr]) ?_
  conv => whnf
  refine NoOwn.o (fun _ => rfl) ?_
  conv => whnf
  refine AppQ.o (m := 1) (slr false 1 Ae) (by exact fun _ => ⟨rfl, rfl⟩) (x17) ([nth x8.tables (nth r7 x18.toNat).toNat]) (by first | rfl | simp only [Aa, V.fz, fzL, V.up, upL, Ab, Ac, Ad, slr, List.cons_append, List.nil_append] | simp [Aa, V.fz, fzL, V.up, upL, Ab, Ac, Ad, slr]) (by first | rfl | simp only [Aa, V.fz, fzL, V.up, upL, Ab, Ac, Ad, slr, List.cons_append, List.nil_append] | simp [Aa, V.fz, fzL, V.up, upL, Ab, Ac, Ad, slr]) h fun h => ?_
  conv => whnf
  refine Ask.o h fun p11 h => ?_
  conv => whnf
  cases h; exact ⟨rfl, rfl⟩
 conv => whnf
 cases h; exact ⟨rfl, rfl⟩
noncomputable def Fe (n0 : Int) (op0 : SOp) (number0 : Int) (known0 : Int) (before0 : Int) (size0 : Int) : (Int × Sl12Find) → Option ((Int × Sl12Find) ⊕ Sl12Find) := fun (x15, x8) =>
 (((Cu (known0) (op0.Arity)).bind fun r1 =>
 if x15 < r1 then
 if (x8.large) = true then
 some (.inl ())
 else
 some (.inr ())
 else
 some (.inl ()) : Option (Unit ⊕ Unit))).bind fun t => match t with
 | (.inl _) => (some (.inr x8))
 | (.inr _) => ((G8 (known0) (op0.Arity) (x15) (before0)).bind fun r5 =>
 if (r5) = true then
 (F2 (known0) (op0.Arity) (x15)).bind fun r7 =>
 (At (C2 n0 op0 number0 known0 before0 size0 x15 x8 r7) ((0 : Int), Ar (List Int))).bind fun q12_17 =>
 (Fq (n0) (op0) (q12_17) (size0)).bind fun r13 =>
 (F1 (x8) (r13) ({ Op := number0, Args := r7 })).bind fun r14 =>
 ask (InI (x15 + (1 : Int))) <|
 some (.inl (x15 + (1 : Int), r14))
 else
 ask (InI (x15 + (1 : Int))) <|
 some (.inl (x15 + (1 : Int), x8)))
def Je (n0 : Int) (op0 : SOp) (number0 : Int) (known0 : Int) (before0 : Int) (size0 : Int) : (Int × Sl12Find) → St := fun s => [(15, A.val (Ae s.1)), (14, A.val ((rP true (Al)) ({ tables := Ar (List Int), steps := Ar SCloneStep, large := false }))), (9, A.val ((rP true (Ak false)) (op0))), (8, A.val ((rP true (Al)) s.2)), (0, A.val (Ae (n0))), (3, A.val (Ae (number0))), (4, A.val (Ae (known0))), (5, A.val (Ae (before0))), (6, A.val (Ae (size0)))]
def Ny (_n0 : Int) (_op0 : SOp) (_number0 : Int) (_known0 : Int) (_before0 : Int) (_size0 : Int) : Sl12Find → Tgt
 | s => ((Ex.exit 0), [14, 8], [(14, A.val ((rP true (Al)) ({ tables := Ar (List Int), steps := Ar SCloneStep, large := false }))), (8, A.val ((rP true (Al)) s))])
theorem Xs {n0 : Int} {op0 : SOp} {number0 : Int} {known0 : Int} {before0 : Int} {size0 : Int} (s : (Int × Sl12Find)) (o : (Int × Sl12Find) ⊕ Sl12Find) (h : Fe n0 op0 number0 known0 before0 size0 s = some o) : vc Try.prog Oh (Ef [15, 14, 9, 8, 0, 3, 4, 5, 6] (Je n0 op0 number0 known0 before0 size0) (Ny n0 op0 number0 known0 before0 size0) o) (Je n0 op0 number0 known0 before0 size0 s) := by
 obtain ⟨x15, x8⟩ := s
 unfold Fe at h
 try dsimp only at h
 conv => whnf
 refine CutQ.o (fun t : (Unit ⊕ Unit) => match t with | (.inl s) => ((Ex.exit 0), [14, 8], [(14, A.val ((rP true (Al)) ({ tables := Ar (List Int), steps := Ar SCloneStep, large := false }))), (8, A.val ((rP true (Al)) (x8)))]) | (.inr s) => (Ex.normal, [15, 14, 9, 8, 0, 3, 4, 5, 6], [(15, A.val (Ae (x15))), (14, A.val ((rP true (Al)) ({ tables := Ar (List Int), steps := Ar SCloneStep, large := false }))), (9, A.val ((rP true (Ak false)) (op0))), (8, A.val ((rP true (Al)) (x8))), (0, A.val (Ae (n0))), (3, A.val (Ae (number0))), (4, A.val (Ae (known0))), (5, A.val (Ae (before0))), (6, A.val (Ae (size0)))])) h ?_ ?_
 ·intro t h
  conv => whnf
  refine Cells.lit rfl rfl ?_
  conv => whnf
  refine CallQ.o Ae (by first | rfl | simp only [Aa, V.fz, fzL, V.up, upL, Ab, Ac, Ad, slr, List.cons_append, List.nil_append] | simp [Aa, V.fz, fzL, V.up, upL, Ab, Ac, Ad, slr]) h (fun r h => Id h) (fun r1 h => ?_)
  conv => whnf
  refine Br.od h (fun p2 h => ?_) (fun p2 h => ?_)
  ·conv => whnf
   refine Br.yes ?_
   conv => whnf
   refine Cells.lit rfl rfl ?_
   conv => whnf
   refine Br.yes ?_
   conv => whnf
   refine Br.yes ?_
   conv => whnf
   refine Br.flip ?_
   conv => whnf
   refine Br.ob h (fun p3 h => ?_) (fun p3 h => ?_)
   ·conv => whnf
    cases h; exact ⟨rfl, rfl⟩
   conv => whnf
   cases h; exact ⟨rfl, rfl⟩
  conv => whnf
  refine Br.no ?_
  conv => whnf
  refine Br.no ?_
  conv => whnf
  refine Br.no ?_
  conv => whnf
  refine Br.no ?_
  conv => whnf
  cases h; exact ⟨rfl, rfl⟩
 rintro (⟨⟩ | ⟨⟩) h
 ·try dsimp only at h
  conv => whnf
  cases h; exact ⟨rfl, rfl⟩
 try dsimp only at h
 conv => whnf
 refine Cells.lit rfl rfl ?_
 conv => whnf
 refine CallQ.o V.bool (by first | rfl | simp only [Aa, V.fz, fzL, V.up, upL, Ab, Ac, Ad, slr, List.cons_append, List.nil_append] | simp [Aa, V.fz, fzL, V.up, upL, Ab, Ac, Ad, slr]) h (fun r h => Ab0 h) (fun r5 h => ?_)
 conv => whnf
 refine Br.flip ?_
 conv => whnf
 refine Br.ob h (fun p6 h => ?_) (fun p6 h => ?_)
 ·conv => whnf
  refine Cells.lit rfl rfl ?_
  conv => whnf
  refine CallQ.o (slr true 1 Ae) (by first | rfl | simp only [Aa, V.fz, fzL, V.up, upL, Ab, Ac, Ad, slr, List.cons_append, List.nil_append] | simp [Aa, V.fz, fzL, V.up, upL, Ab, Ac, Ad, slr]) h (fun r h => Wx h) (fun r7 h => ?_)
  conv => whnf
  refine BslQ.o (slr true 1 Ae) (Ar (List Int)) (by exact fun _ => ⟨rfl, rfl⟩) (by first | rfl | simp only [Aa, V.fz, fzL, V.up, upL, Ab, Ac, Ad, slr, List.cons_append, List.nil_append] | simp [Aa, V.fz, fzL, V.up, upL, Ab, Ac, Ad, slr]) ?_
  conv => whnf
  refine LoopQ.o [18, 17, 16, 15, 14, 9, 8, 0, 3, 4, 5, 6] (Jm n0 op0 number0 known0 before0 size0 x15 x8 r7) (Od n0 op0 number0 known0 before0 size0 x15 x8 r7) h (fun s o h => Xo s o h) (by first | rfl | simp [restrict, look, Aa, V.fz, fzL, V.up, upL, Ab, Ac, Ad, slr]) (fun _ => rfl) ?_
  rintro q12_17 h
  try dsimp only at h
  conv => whnf
  refine FrzQ.d (V.sl false (1 : Nat) (List.map Ae r7)) (by first | (simp only [slr]; done) | (simp [Aq, V.fz, Ab, slr]; done) | (simp [Aq, V.fz, fzL, Ab, slr]; done)) ?_
  conv => whnf
  refine Cells.lit rfl rfl ?_
  conv => whnf
  refine Cells.lit rfl rfl ?_
  conv => whnf
  refine CallP.rd (slr true 1 Ae) (by first | rfl | simp only [V.fz, fzL, V.up, Ab, Ad, slr] | simp [Aa, V.fz, fzL, V.up, upL, Ab, Ac, Ad, slr]) (fun _ => by simp [V.noFz, B9]) h (fun r h => Yl h) (fun r13 h => ?_)
  conv => whnf
  refine Kid.lit rfl rfl ?_
  conv => whnf
  refine Kid.lit rfl rfl ?_
  conv => whnf
  refine LendQ.give2 (j1 := 0) (j2 := 1) 0 (Al) (by first | rfl | simp [Ad8, Aq, V.fz, fzL, V.up, upL, Ab, slr]) rfl rfl rfl (fun _ => by first | rfl | simp [Ds, V.noFz, B8, B9, NoFz.eq]) rfl h (fun r h => Wv h) (fun r14 h => ?_)
  conv => whnf
  refine Kid.lit rfl rfl ?_
  conv => whnf
  refine SetKids.lit rfl ?_
  conv => whnf
  refine Kid.lit rfl rfl ?_
  conv => whnf
  refine SetKids.lit rfl ?_
  conv => whnf
  refine Kid.lit rfl rfl ?_
  conv => whnf
  refine SetKids.lit rfl ?_
  conv => whnf
  refine SetKids.lit rfl ?_
  conv => whnf
  refine Ask.o h fun p15 h => ?_
  conv => whnf
  cases h; exact ⟨rfl, rfl⟩
 conv => whnf
 refine Ask.o h fun p16 h => ?_
 conv => whnf
 cases h; exact ⟨rfl, rfl⟩
noncomputable def G7 (n0 : Int) (f0 : Sl12Find) (op0 : SOp) (number0 : Int) (known0 : Int) (before0 : Int) (size0 : Int) : Option Sl12Find :=
 (At (Fe n0 op0 number0 known0 before0 size0) ((0 : Int), f0)).bind fun q17_8 =>
 some q17_8
theorem Ab6 {n0 : Int} {f0 : Sl12Find} {op0 : SOp} {number0 : Int} {known0 : Int} {before0 : Int} {size0 : Int} {v : Sl12Find} (h : G7 n0 f0 op0 number0 known0 before0 size0 = some v) : P7 Try.prog My [Ae n0, (Al) f0, (Ak false) op0, Ae number0, Ae known0, Ae before0, Ae size0] ((Al) v) 1 (V.agg (List.replicate 3 V.dead)) := by
 refine Akk rfl rfl Ace (Nat.le_of_ble_eq_true rfl) ?_
 unfold G7 at h
 conv => whnf
 refine LoopQ.o [15, 14, 9, 8, 0, 3, 4, 5, 6] (Je n0 op0 number0 known0 before0 size0) (Ny n0 op0 number0 known0 before0 size0) h (fun s o h => Xs s o h) (by first | rfl | simp [restrict, look, Aa, V.fz, fzL, V.up, upL, Ab, Ac, Ad, slr]) (fun _ => rfl) ?_
 rintro q17_8 h
 try dsimp only at h
 conv => whnf
 refine Cells.lit rfl rfl ?_
 conv => whnf
 refine SetKids.lit rfl ?_
 conv => whnf
 cases h; exact (by first | rfl | simp only [Ah, Aa, V.fz, fzL, V.up, upL, Ab, Ac, Ad, slr] | simp [Ah, Aa, V.fz, fzL, V.up, upL, Ab, Ac, Ad, slr])
noncomputable def Dt (a0 : SAlgebra) (f0 : SOp) : Option (Bool × Bool) :=
 (Bv (a0) (f0.Arity)).bind fun t => match t with
 | (none, r1_2) => (((if (r1_2) = true then
 (D6 (f0) (a0.Size)).bind fun r3 =>
 if (r3) = true then
 some (.inl ())
 else
 some (.inr ())
 else
 some (.inr ()) : Option (Unit ⊕ Unit))).bind fun t => match t with
 | (.inl _) => (none)
 | (.inr _) => (some (false, false)))
 | ((some r1_1), r1_2) => (((if (r1_2) = true then
 (D6 (f0) (a0.Size)).bind fun r7 =>
 if (r7) = true then
 some (.inl ())
 else
 some (.inr ())
 else
 some (.inr ()) : Option (Unit ⊕ Unit))).bind fun t => match t with
 | (.inl _) => ((Ey (f0.Table)).bind fun r10 =>
 some ((Dr r1_1.seen r10).getD false, true))
 | (.inr _) => (some (false, false)))
theorem Tf {a0 : SAlgebra} {f0 : SOp} {v : (Bool × Bool)} (h : Dt a0 f0 = some v) : Ret Try.prog Hc [(Aj false) a0, (Ak false) f0] ((fun r => V.tup [V.bool r.1, V.bool r.2]) v) := by
 refine Bm To (Nat.le_of_ble_eq_true rfl) ?_
 unfold Dt at h
 conv => whnf
 refine Cells.lit rfl rfl ?_
 conv => whnf
 refine Cells.lit rfl rfl ?_
 conv => whnf
 refine CallQ.o (fun r => V.tup [(rO false (Cq false)) r.1, V.bool r.2]) (by first | rfl | simp only [Aa, V.fz, fzL, V.up, upL, Ab, Ac, Ad, slr, List.cons_append, List.nil_append] | simp [Aa, V.fz, fzL, V.up, upL, Ab, Ac, Ad, slr]) h (fun r h => Fs h) (fun r1 h => ?_)
 rcases r1 with ⟨(_ | r1_1), r1_2⟩
 ·try dsimp only at h
  conv => whnf
  refine CutQ.o (fun t : (Unit ⊕ Unit) => match t with | (.inl s) => (Ex.normal, [6, 3], [(6, A.val (rO false (Cq false) none).up.up), (3, A.val ((rP true (Ak false)) (f0)))]) | (.inr s) => (Ex.ret, [5, 4], [(5, A.val (V.bool (false))), (4, A.val (V.bool (false)))])) h ?_ ?_
  ·intro t h
   conv => whnf
   refine Br.flip ?_
   conv => whnf
   refine Br.ob h (fun p2 h => ?_) (fun p2 h => ?_)
   ·conv => whnf
    refine Cells.lit rfl rfl ?_
    conv => whnf
    refine Br.no ?_
    conv => whnf
    refine Br.no ?_
    conv => whnf
    refine Cells.lit rfl rfl ?_
    conv => whnf
    refine Br.no ?_
    conv => whnf
    refine CallQ.o V.bool (by first | rfl | simp only [Aa, V.fz, fzL, V.up, upL, Ab, Ac, Ad, slr, List.cons_append, List.nil_append] | simp [Aa, V.fz, fzL, V.up, upL, Ab, Ac, Ad, slr]) h (fun r h => Jw h) (fun r3 h => ?_)
    conv => whnf
    refine Br.no ?_
    conv => whnf
    refine Br.no ?_
    conv => whnf
    refine Br.flip ?_
    conv => whnf
    refine Br.ob h (fun p4 h => ?_) (fun p4 h => ?_)
    ·conv => whnf
     cases h; exact ⟨rfl, rfl⟩
    conv => whnf
    cases h; exact ⟨rfl, rfl⟩
   conv => whnf
   refine Br.yes ?_
   conv => whnf
   refine Br.yes ?_
   conv => whnf
   refine Br.yes ?_
   conv => whnf
   refine Br.yes ?_
   conv => whnf
   refine Br.yes ?_
   conv => whnf
   refine Br.yes ?_
   conv => whnf
   cases h; exact ⟨rfl, rfl⟩
  rintro (⟨⟩ | ⟨⟩) h
  ·try dsimp only at h
   conv => whnf
   cases h
  try dsimp only at h
  conv => whnf
  cases h; exact (by first | rfl | simp only [Ah, Aa, V.fz, fzL, V.up, upL, Ab, Ac, Ad, slr] | simp [Ah, Aa, V.fz, fzL, V.up, upL, Ab, Ac, Ad, slr])
 try dsimp only at h
 conv => whnf
 refine CutQ.o (fun t : (Unit ⊕ Unit) => match t with | (.inl s) => (Ex.normal, [6, 3], [(6, A.val ((rP false (Cq false)) (r1_1))), (3, A.val ((rP true (Ak false)) (f0)))]) | (.inr s) => (Ex.ret, [5, 4], [(5, A.val (V.bool (false))), (4, A.val (V.bool (false)))])) h ?_ ?_
 ·intro t h
  conv => whnf
  refine Br.flip ?_
  conv => whnf
  refine Br.ob h (fun p6 h => ?_) (fun p6 h => ?_)
  ·conv => whnf
   refine Cells.lit rfl rfl ?_
   conv => whnf
   refine Br.no ?_
   conv => whnf
   refine Br.no ?_
   conv => whnf
   refine Cells.lit rfl rfl ?_
   conv => whnf
   refine Br.no ?_
   conv => whnf
   refine CallQ.o V.bool (by first | rfl | simp only [Aa, V.fz, fzL, V.up, upL, Ab, Ac, Ad, slr, List.cons_append, List.nil_append] | simp [Aa, V.fz, fzL, V.up, upL, Ab, Ac, Ad, slr]) h (fun r h => Jw h) (fun r7 h => ?_)
   conv => whnf
   refine Br.no ?_
   conv => whnf
   refine Br.no ?_
   conv => whnf
   refine Br.flip ?_
   conv => whnf
   refine Br.ob h (fun p8 h => ?_) (fun p8 h => ?_)
   ·conv => whnf
    cases h; exact ⟨rfl, rfl⟩
   conv => whnf
   cases h; exact ⟨rfl, rfl⟩
  conv => whnf
  refine Br.yes ?_
  conv => whnf
  refine Br.yes ?_
  conv => whnf
  refine Br.yes ?_
  conv => whnf
  refine Br.yes ?_
  conv => whnf
  refine Br.yes ?_
  conv => whnf
  refine Br.yes ?_
  conv => whnf
  cases h; exact ⟨rfl, rfl⟩
 rintro (⟨⟩ | ⟨⟩) h
 ·try dsimp only at h
  conv => whnf
  refine Cells.lit rfl rfl ?_
  conv => whnf
  refine CallP.o V.str (by first | rfl | simp only [Aa, V.fz, fzL, V.up, upL, Ab, Ac, Ad, slr, List.cons_append, List.nil_append] | simp [Aa, V.fz, fzL, V.up, upL, Ab, Ac, Ad, slr]) h (fun r h => K5 h) (fun r10 h => ?_)
  conv => whnf
  refine LkQ.one Lf.bool V.bool r1_1.seen (false) (by first | rfl | simp [Ar]) rfl (fun _ => rfl) ?_
  conv => whnf
  cases h; exact (by first | rfl | simp only [Ah, Aa, V.fz, fzL, V.up, upL, Ab, Ac, Ad, slr] | simp [Ah, Aa, V.fz, fzL, V.up, upL, Ab, Ac, Ad, slr])
 try dsimp only at h
 conv => whnf
 cases h; exact (by first | rfl | simp only [Ah, Aa, V.fz, fzL, V.up, upL, Ab, Ac, Ad, slr] | simp [Ah, Aa, V.fz, fzL, V.up, upL, Ab, Ac, Ad, slr])
noncomputable def Be (f0 : SOp) (r1_1 : Sfound) : Int → Option (Int ⊕ ((List SCloneStep) ⊕ Unit)) := fun x32 =>
 if x32 < (↑r1_1.tables.length : Int) then
 ask ((0 : Int) ≤ x32 ∧ x32 < (↑r1_1.tables.length : Int)) <|
 (G9 (nth r1_1.tables x32.toNat) (f0.Table)).bind fun r12 =>
 if (r12) = true then
 ask (InI (x32 + (1 : Int))) <|
 ask (0 ≤ (0 : Int) ∧ (0 : Int) ≤ x32 + (1 : Int) ∧ x32 + (1 : Int) ≤ ((r1_1.steps.length : Nat) : Int)) <|
 some (.inr (.inl (List.take ((x32 + (1 : Int)).toNat - Int.toNat (0 : Int)) (List.drop (Int.toNat (0 : Int)) r1_1.steps))))
 else
 ask (InI (x32 + (1 : Int))) <|
 some (.inl (x32 + (1 : Int)))
 else
 some (.inr (.inr ()))
def Gx (f0 : SOp) (r1_1 : Sfound) : Int → St := fun s => [(32, A.val (Ae s)), (31, A.val (Ae ((↑r1_1.tables.length : Int)))), (30, A.val ((slr false 1 (slr false 1 Ae)) (r1_1.tables))), (6, A.val ((rP false (Cq false)) (r1_1))), (3, A.val ((rP true (Ak false)) (f0)))]
def Kb (_f0 : SOp) (_r1_1 : Sfound) : ((List SCloneStep) ⊕ Unit) → Tgt
 | (.inl s) => (Ex.ret, [5, 4], [(5, A.val (V.bool (true))), (4, A.val ((slr false 2 (Ag false)) s))])
 | (.inr _s) => ((Ex.exit 0), [], [])
theorem Sn {f0 : SOp} {r1_1 : Sfound} (x32 : Int) (o : Int ⊕ ((List SCloneStep) ⊕ Unit)) (h : Be f0 r1_1 x32 = some o) : vc Try.prog Ki (Ef [32, 31, 30, 6, 3] (Gx f0 r1_1) (Kb f0 r1_1) o) (Gx f0 r1_1 x32) := by
 unfold Be at h
 try dsimp only at h
 conv => whnf
 refine Br.od h (fun p10 h => ?_) (fun p10 h => ?_)
 ·conv => whnf
  refine Len.map ?_
  conv => whnf
  refine Ask.o h fun p11 h => ?_
  conv => whnf
  refine Elem.o (by first | omega | (simp [Bc] at * <;> omega)) ?_
  conv => whnf
  refine Cells.lit rfl rfl ?_
  conv => whnf
  refine CallQ.o V.bool (by first | rfl | simp only [Aa, V.fz, fzL, V.up, upL, Ab, Ac, Ad, slr, List.cons_append, List.nil_append] | simp [Aa, V.fz, fzL, V.up, upL, Ab, Ac, Ad, slr]) h (fun r h => Acn h) (fun r12 h => ?_)
  conv => whnf
  refine Br.ob h (fun p13 h => ?_) (fun p13 h => ?_)
  ·conv => whnf
   refine Ask.o h fun p14 h => ?_
   conv => whnf
   refine SlcQ.o (Ag false) h fun h => ?_
   conv => whnf
   cases h; exact ⟨rfl, rfl⟩
  conv => whnf
  refine Ask.o h fun p15 h => ?_
  conv => whnf
  cases h; exact ⟨rfl, rfl⟩
 conv => whnf
 cases h; exact ⟨rfl, rfl⟩
noncomputable def Es (a0 : SAlgebra) (f0 : SOp) : Option ((List SCloneStep) × Bool) :=
 (Bv (a0) (f0.Arity)).bind fun t => match t with
 | (none, r1_2) => (((if (r1_2) = true then
 (D6 (f0) (a0.Size)).bind fun r3 =>
 if (r3) = true then
 some (.inl ())
 else
 some (.inr ())
 else
 some (.inr ()) : Option (Unit ⊕ Unit))).bind fun t => match t with
 | (.inl _) => (none)
 | (.inr _) => (some (Ar SCloneStep, false)))
 | ((some r1_1), r1_2) => (((if (r1_2) = true then
 (D6 (f0) (a0.Size)).bind fun r7 =>
 if (r7) = true then
 some (.inl ())
 else
 some (.inr ())
 else
 some (.inr ()) : Option (Unit ⊕ Unit))).bind fun t => match t with
 | (.inl _) => ((At (Be f0 r1_1) (0 : Int)).bind fun t => match t with
 | (.inl q16_4) => (some (q16_4, true))
 | (.inr _) => (some (Ar SCloneStep, false)))
 | (.inr _) => (some (Ar SCloneStep, false)))
theorem Wi {a0 : SAlgebra} {f0 : SOp} {v : ((List SCloneStep) × Bool)} (h : Es a0 f0 = some v) : Ret Try.prog Iu [(Aj false) a0, (Ak false) f0] ((fun r => V.tup [(slr false 2 (Ag false)) r.1, V.bool r.2]) v) := by
 refine T9 We (Nat.le_of_ble_eq_true rfl) ?_
 unfold Es at h
 conv => whnf
 refine Cells.lit rfl rfl ?_
 conv => whnf
 refine Cells.lit rfl rfl ?_
 conv => whnf
 refine CallQ.o (fun r => V.tup [(rO false (Cq false)) r.1, V.bool r.2]) (by first | rfl | simp only [Aa, V.fz, fzL, V.up, upL, Ab, Ac, Ad, slr, List.cons_append, List.nil_append] | simp [Aa, V.fz, fzL, V.up, upL, Ab, Ac, Ad, slr]) h (fun r h => Fs h) (fun r1 h => ?_)
 rcases r1 with ⟨(_ | r1_1), r1_2⟩
 ·try dsimp only at h
  conv => whnf
  refine CutQ.o (fun t : (Unit ⊕ Unit) => match t with | (.inl s) => (Ex.normal, [6, 3], [(6, A.val (rO false (Cq false) none).up.up), (3, A.val ((rP true (Ak false)) (f0)))]) | (.inr s) => (Ex.ret, [5, 4], [(5, A.val (V.bool (false))), (4, A.val ((slr true 2 (Ag true)) (Ar SCloneStep)))])) h ?_ ?_
  ·intro t h
   conv => whnf
   refine Br.flip ?_
   conv => whnf
   refine Br.ob h (fun p2 h => ?_) (fun p2 h => ?_)
   ·conv => whnf
    refine Cells.lit rfl rfl ?_
    conv => whnf
    refine Br.no ?_
    conv => whnf
    refine Br.no ?_
    conv => whnf
    refine Cells.lit rfl rfl ?_
    conv => whnf
    refine Br.no ?_
    conv => whnf
    refine CallQ.o V.bool (by first | rfl | simp only [Aa, V.fz, fzL, V.up, upL, Ab, Ac, Ad, slr, List.cons_append, List.nil_append] | simp [Aa, V.fz, fzL, V.up, upL, Ab, Ac, Ad, slr]) h (fun r h => Jw h) (fun r3 h => ?_)
    conv => whnf
    refine Br.no ?_
    conv => whnf
    refine Br.no ?_
    conv => whnf
    refine Br.flip ?_
    conv => whnf
    refine Br.ob h (fun p4 h => ?_) (fun p4 h => ?_)
    ·conv => whnf
     cases h; exact ⟨rfl, rfl⟩
    conv => whnf
    refine BslQ.o (Ag true) (Ar SCloneStep) (by exact fun _ => ⟨rfl, rfl⟩) (by first | rfl | simp only [Aa, V.fz, fzL, V.up, upL, Ab, Ac, Ad, slr, List.cons_append, List.nil_append] | simp [Aa, V.fz, fzL, V.up, upL, Ab, Ac, Ad, slr]) ?_
    conv => whnf
    cases h; exact ⟨rfl, rfl⟩
   conv => whnf
   refine Br.yes ?_
   conv => whnf
   refine Br.yes ?_
   conv => whnf
   refine Br.yes ?_
   conv => whnf
   refine Br.yes ?_
   conv => whnf
   refine Br.yes ?_
   conv => whnf
   refine Br.yes ?_
   conv => whnf
   refine BslQ.o (Ag true) (Ar SCloneStep) (by exact fun _ => ⟨rfl, rfl⟩) (by first | rfl | simp only [Aa, V.fz, fzL, V.up, upL, Ab, Ac, Ad, slr, List.cons_append, List.nil_append] | simp [Aa, V.fz, fzL, V.up, upL, Ab, Ac, Ad, slr]) ?_
   conv => whnf
   cases h; exact ⟨rfl, rfl⟩
  rintro (⟨⟩ | ⟨⟩) h
  ·try dsimp only at h
   conv => whnf
   cases h
  try dsimp only at h
  conv => whnf
  cases h; exact (by first | rfl | simp only [Ah, Aa, V.fz, fzL, V.up, upL, Ab, Ac, Ad, slr] | simp [Ah, Aa, V.fz, fzL, V.up, upL, Ab, Ac, Ad, slr])
 try dsimp only at h
 conv => whnf
 refine CutQ.o (fun t : (Unit ⊕ Unit) => match t with | (.inl s) => (Ex.normal, [6, 3], [(6, A.val ((rP false (Cq false)) (r1_1))), (3, A.val ((rP true (Ak false)) (f0)))]) | (.inr s) => (Ex.ret, [5, 4], [(5, A.val (V.bool (false))), (4, A.val ((slr true 2 (Ag true)) (Ar SCloneStep)))])) h ?_ ?_
 ·intro t h
  conv => whnf
  refine Br.flip ?_
  conv => whnf
  refine Br.ob h (fun p6 h => ?_) (fun p6 h => ?_)
  ·conv => whnf
   refine Cells.lit rfl rfl ?_
   conv => whnf
   refine Br.no ?_
   conv => whnf
   refine Br.no ?_
   conv => whnf
   refine Cells.lit rfl rfl ?_
   conv => whnf
   refine Br.no ?_
   conv => whnf
   refine CallQ.o V.bool (by first | rfl | simp only [Aa, V.fz, fzL, V.up, upL, Ab, Ac, Ad, slr, List.cons_append, List.nil_append] | simp [Aa, V.fz, fzL, V.up, upL, Ab, Ac, Ad, slr]) h (fun r h => Jw h) (fun r7 h => ?_)
   conv => whnf
   refine Br.no ?_
   conv => whnf
   refine Br.no ?_
   conv => whnf
   refine Br.flip ?_
   conv => whnf
   refine Br.ob h (fun p8 h => ?_) (fun p8 h => ?_)
   ·conv => whnf
    cases h; exact ⟨rfl, rfl⟩
   conv => whnf
   refine BslQ.o (Ag true) (Ar SCloneStep) (by exact fun _ => ⟨rfl, rfl⟩) (by first | rfl | simp only [Aa, V.fz, fzL, V.up, upL, Ab, Ac, Ad, slr, List.cons_append, List.nil_append] | simp [Aa, V.fz, fzL, V.up, upL, Ab, Ac, Ad, slr]) ?_
   conv => whnf
   cases h; exact ⟨rfl, rfl⟩
  conv => whnf
  refine Br.yes ?_
  conv => whnf
  refine Br.yes ?_
  conv => whnf
  refine Br.yes ?_
  conv => whnf
  refine Br.yes ?_
  conv => whnf
  refine Br.yes ?_
  conv => whnf
  refine Br.yes ?_
  conv => whnf
  refine BslQ.o (Ag true) (Ar SCloneStep) (by exact fun _ => ⟨rfl, rfl⟩) (by first | rfl | simp only [Aa, V.fz, fzL, V.up, upL, Ab, Ac, Ad, slr, List.cons_append, List.nil_append] | simp [Aa, V.fz, fzL, V.up, upL, Ab, Ac, Ad, slr]) ?_
  conv => whnf
  cases h; exact ⟨rfl, rfl⟩
 rintro (⟨⟩ | ⟨⟩) h
 ·try dsimp only at h
  conv => whnf
  refine Len.map ?_
  conv => whnf
  refine LoopQ.o [32, 31, 30, 6, 3] (Gx f0 r1_1) (Kb f0 r1_1) h (fun s o h => Sn s o h) (by first | rfl | simp [restrict, look, Aa, V.fz, fzL, V.up, upL, Ab, Ac, Ad, slr]) (by rintro (_ | _) <;> rfl) ?_
  rintro (q16_4 | ⟨⟩) h
  ·try dsimp only at h
   conv => whnf
   cases h; exact (by first | rfl | simp only [Ah, Aa, V.fz, fzL, V.up, upL, Ab, Ac, Ad, slr] | simp [Ah, Aa, V.fz, fzL, V.up, upL, Ab, Ac, Ad, slr])
  try dsimp only at h
  conv => whnf
  refine BslQ.o (Ag true) (Ar SCloneStep) (by exact fun _ => ⟨rfl, rfl⟩) (by first | rfl | simp only [Aa, V.fz, fzL, V.up, upL, Ab, Ac, Ad, slr, List.cons_append, List.nil_append] | simp [Aa, V.fz, fzL, V.up, upL, Ab, Ac, Ad, slr]) ?_
  conv => whnf
  cases h; exact (by first | rfl | simp only [Ah, Aa, V.fz, fzL, V.up, upL, Ab, Ac, Ad, slr] | simp [Ah, Aa, V.fz, fzL, V.up, upL, Ab, Ac, Ad, slr])
 try dsimp only at h
 conv => whnf
 cases h; exact (by first | rfl | simp only [Ah, Aa, V.fz, fzL, V.up, upL, Ab, Ac, Ad, slr] | simp [Ah, Aa, V.fz, fzL, V.up, upL, Ab, Ac, Ad, slr])
noncomputable def Ee (a0 : SAlgebra) (k0 : Int) : Option ((List SOp) × Bool) :=
 (Bv (a0) (k0)).bind fun t => match t with
 | (none, r1_2) => (if (r1_2) = true then
 none
 else
 some (Ar SOp, false))
 | ((some r1_1), r1_2) => (if (r1_2) = true then
 (Ib (k0) (r1_1.tables)).bind fun r4 =>
 some (r4, true)
 else
 some (Ar SOp, false))
theorem Ud {a0 : SAlgebra} {k0 : Int} {v : ((List SOp) × Bool)} (h : Ee a0 k0 = some v) : Ret Try.prog H5 [(Aj false) a0, Ae k0] ((fun r => V.tup [(slr true 2 (Ak true)) r.1, V.bool r.2]) v) := by
 refine Bm U9 (Nat.le_of_ble_eq_true rfl) ?_
 unfold Ee at h
 conv => whnf
 refine Cells.lit rfl rfl ?_
 conv => whnf
 refine CallQ.o (fun r => V.tup [(rO false (Cq false)) r.1, V.bool r.2]) (by first | rfl | simp only [Aa, V.fz, fzL, V.up, upL, Ab, Ac, Ad, slr, List.cons_append, List.nil_append] | simp [Aa, V.fz, fzL, V.up, upL, Ab, Ac, Ad, slr]) h (fun r h => Fs h) (fun r1 h => ?_)
 rcases r1 with ⟨(_ | r1_1), r1_2⟩
 ·try dsimp only at h
  conv => whnf
  refine Br.flip ?_
  conv => whnf
  refine Br.ob h (fun p2 h => ?_) (fun p2 h => ?_)
  ·conv => whnf
   cases h
  conv => whnf
  refine BslQ.o (Ak true) (Ar SOp) (by exact fun _ => ⟨rfl, rfl⟩) (by first | rfl | simp only [Aa, V.fz, fzL, V.up, upL, Ab, Ac, Ad, slr, List.cons_append, List.nil_append] | simp [Aa, V.fz, fzL, V.up, upL, Ab, Ac, Ad, slr]) ?_
  conv => whnf
  cases h; exact (by first | rfl | simp only [Ah, Aa, V.fz, fzL, V.up, upL, Ab, Ac, Ad, slr] | simp [Ah, Aa, V.fz, fzL, V.up, upL, Ab, Ac, Ad, slr])
 try dsimp only at h
 conv => whnf
 refine Br.flip ?_
 conv => whnf
 refine Br.ob h (fun p3 h => ?_) (fun p3 h => ?_)
 ·conv => whnf
  refine CallQ.o (slr true 2 (Ak true)) (by first | rfl | simp only [Aa, V.fz, fzL, V.up, upL, Ab, Ac, Ad, slr, List.cons_append, List.nil_append] | simp [Aa, V.fz, fzL, V.up, upL, Ab, Ac, Ad, slr]) h (fun r h => Zg h) (fun r4 h => ?_)
  conv => whnf
  cases h; exact (by first | rfl | simp only [Ah, Aa, V.fz, fzL, V.up, upL, Ab, Ac, Ad, slr] | simp [Ah, Aa, V.fz, fzL, V.up, upL, Ab, Ac, Ad, slr])
 conv => whnf
 refine BslQ.o (Ak true) (Ar SOp) (by exact fun _ => ⟨rfl, rfl⟩) (by first | rfl | simp only [Aa, V.fz, fzL, V.up, upL, Ab, Ac, Ad, slr, List.cons_append, List.nil_append] | simp [Aa, V.fz, fzL, V.up, upL, Ab, Ac, Ad, slr]) ?_
 conv => whnf
 cases h; exact (by first | rfl | simp only [Ah, Aa, V.fz, fzL, V.up, upL, Ab, Ac, Ad, slr] | simp [Ah, Aa, V.fz, fzL, V.up, upL, Ab, Ac, Ad, slr])
noncomputable def F8 (a0 : SAlgebra) (k0 : Int) : Option (Int × Bool) :=
 (Bv (a0) (k0)).bind fun t => match t with
 | (none, r1_2) => (if (r1_2) = true then
 none
 else
 some ((0 : Int), false))
 | ((some r1_1), r1_2) => (if (r1_2) = true then
 some ((↑r1_1.tables.length : Int), true)
 else
 some ((0 : Int), false))
theorem Aaj {a0 : SAlgebra} {k0 : Int} {v : (Int × Bool)} (h : F8 a0 k0 = some v) : Ret Try.prog Ln [(Aj false) a0, Ae k0] ((fun r => V.tup [Ae r.1, V.bool r.2]) v) := by
 refine Bm Aad (Nat.le_of_ble_eq_true rfl) ?_
 unfold F8 at h
 conv => whnf
 refine Cells.lit rfl rfl ?_
 conv => whnf
 refine CallQ.o (fun r => V.tup [(rO false (Cq false)) r.1, V.bool r.2]) (by first | rfl | simp only [Aa, V.fz, fzL, V.up, upL, Ab, Ac, Ad, slr, List.cons_append, List.nil_append] | simp [Aa, V.fz, fzL, V.up, upL, Ab, Ac, Ad, slr]) h (fun r h => Fs h) (fun r1 h => ?_)
 rcases r1 with ⟨(_ | r1_1), r1_2⟩
 ·try dsimp only at h
  conv => whnf
  refine Br.flip ?_
  conv => whnf
  refine Br.ob h (fun p2 h => ?_) (fun p2 h => ?_)
  ·conv => whnf
   cases h
  conv => whnf
  cases h; exact (by first | rfl | simp only [Ah, Aa, V.fz, fzL, V.up, upL, Ab, Ac, Ad, slr] | simp [Ah, Aa, V.fz, fzL, V.up, upL, Ab, Ac, Ad, slr])
 try dsimp only at h
 conv => whnf
 refine Br.flip ?_
 conv => whnf
 refine Br.ob h (fun p3 h => ?_) (fun p3 h => ?_)
 ·conv => whnf
  refine Len.map ?_
  conv => whnf
  cases h; exact (by first | rfl | simp only [Ah, Aa, V.fz, fzL, V.up, upL, Ab, Ac, Ad, slr] | simp [Ah, Aa, V.fz, fzL, V.up, upL, Ab, Ac, Ad, slr])
 conv => whnf
 cases h; exact (by first | rfl | simp only [Ah, Aa, V.fz, fzL, V.up, upL, Ab, Ac, Ad, slr] | simp [Ah, Aa, V.fz, fzL, V.up, upL, Ab, Ac, Ad, slr])
end Go.Proofs.Ytoaojijoefljaaa.Ax
