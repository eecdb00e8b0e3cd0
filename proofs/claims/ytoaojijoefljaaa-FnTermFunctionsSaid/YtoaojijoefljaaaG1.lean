/-
 What the functions compute, as functions on plain data, and that the program does compute it; written by program.
-/
import Derived.Test.YtoaojijoefljaaaCode
namespace Go.Proofs.Ytoaojijoefljaaa.Ax
open Go
set_option maxRecDepth 100000
set_option maxHeartbeats 4000000
noncomputable def P4 (code0 : (List Int)) : Option Bool :=
 some (decide ((↑code0.length : Int) > (65536 : Int)))
theorem Aj2 {code0 : (List Int)} {v : Bool} (h : P4 code0 = some v) : Ret Try.prog Up [(slr false 1 (V.int IntKind.u8)) code0] (V.bool v) := by
 refine Bm Ai8 (Nat.le_of_ble_eq_true rfl) ?_
 unfold P4 at h
 conv => whnf
 refine Len.map ?_
 conv => whnf
 cases h; exact (by first | rfl | simp only [Ah, Aa, V.fz, fzL, V.up, upL, Ab, Ac, Ad, slr] | simp [Ah, Aa, V.fz, fzL, V.up, upL, Ab, Ac, Ad, slr])
noncomputable def B4 (a0 : List Int) (b0 : List Int) : Int → Option (Int ⊕ (Unit ⊕ Unit)) := fun x5 =>
 if x5 < (↑a0.length : Int) then
 ask ((0 : Int) ≤ x5 ∧ x5 < (↑a0.length : Int)) <|
 ask ((0 : Int) ≤ x5 ∧ x5 < (↑b0.length : Int)) <|
 if nth a0 x5.toNat ≠ nth b0 x5.toNat then
 some (.inr (.inl ()))
 else
 ask (InI (x5 + (1 : Int))) <|
 some (.inl (x5 + (1 : Int)))
 else
 some (.inr (.inr ()))
def Mm (a0 : List Int) (b0 : List Int) : Int → St := fun s => [(5, A.val (Ae s)), (0, A.val ((slr false 1 Ae) (a0))), (1, A.val ((slr false 1 Ae) (b0)))]
def S9 (_a0 : List Int) (_b0 : List Int) : (Unit ⊕ Unit) → Tgt
 | (.inl _s) => (Ex.ret, [4], [(4, A.val (V.bool (false)))])
 | (.inr _s) => ((Ex.exit 0), [], [])
theorem Ab4 {a0 : List Int} {b0 : List Int} (x5 : Int) (o : Int ⊕ (Unit ⊕ Unit)) (h : B4 a0 b0 x5 = some o) : vc Try.prog S0 (Ef [5, 0, 1] (Mm a0 b0) (S9 a0 b0) o) (Mm a0 b0 x5) := by
 unfold B4 at h
 try dsimp only at h
 conv => whnf
 refine Len.map ?_
 conv => whnf
 refine Br.od h (fun p2 h => ?_) (fun p2 h => ?_)
 ·conv => whnf
  refine Len.map ?_
  conv => whnf
  refine Ask.o h fun p3 h => ?_
  conv => whnf
  refine Elem.o (by first | omega | (simp [Bc] at * <;> omega)) ?_
  conv => whnf
  refine Len.map ?_
  conv => whnf
  refine Ask.o h fun p4 h => ?_
  conv => whnf
  refine Elem.o (by first | omega | (simp [Bc] at * <;> omega)) ?_
  conv => whnf
  refine Br.on h (fun p5 h => ?_) (fun p5 h => ?_)
  ·conv => whnf
   cases h; exact ⟨rfl, rfl⟩
  conv => whnf
  refine Ask.o h fun p6 h => ?_
  conv => whnf
  cases h; exact ⟨rfl, rfl⟩
 conv => whnf
 cases h; exact ⟨rfl, rfl⟩
noncomputable def Fo (a0 : (List Int)) (b0 : (List Int)) : Option Bool :=
 if (↑a0.length : Int) ≠ (↑b0.length : Int) then
 some false
 else
 (At (B4 a0 b0) (0 : Int)).bind fun t => match t with
 | (.inl _) => (some false)
 | (.inr _) => (some true)
theorem Zf {a0 : (List Int)} {b0 : (List Int)} {v : Bool} (h : Fo a0 b0 = some v) : Ret Try.prog Ng [(slr false 1 Ae) a0, (slr false 1 Ae) b0] (V.bool v) := by
 refine Bm Ahc (Nat.le_of_ble_eq_true rfl) ?_
 unfold Fo at h
 conv => whnf
 refine Len.map ?_
 conv => whnf
 refine Len.map ?_
 conv => whnf
 refine Br.on h (fun p1 h => ?_) (fun p1 h => ?_)
 ·conv => whnf
  cases h; exact (by first | rfl | simp only [Ah, Aa, V.fz, fzL, V.up, upL, Ab, Ac, Ad, slr] | simp [Ah, Aa, V.fz, fzL, V.up, upL, Ab, Ac, Ad, slr])
 conv => whnf
 refine LoopQ.o [5, 0, 1] (Mm a0 b0) (S9 a0 b0) h (fun s o h => Ab4 s o h) (by first | rfl | simp [restrict, look, Aa, V.fz, fzL, V.up, upL, Ab, Ac, Ad, slr]) (by rintro (_ | _) <;> rfl) ?_
 rintro (⟨⟩ | ⟨⟩) h
 ·try dsimp only at h
  conv => whnf
  cases h; exact (by first | rfl | simp only [Ah, Aa, V.fz, fzL, V.up, upL, Ab, Ac, Ad, slr] | simp [Ah, Aa, V.fz, fzL, V.up, upL, Ab, Ac, Ad, slr])
 try dsimp only at h
 conv => whnf
 cases h; exact (by first | rfl | simp only [Ah, Aa, V.fz, fzL, V.up, upL, Ab, Ac, Ad, slr] | simp [Ah, Aa, V.fz, fzL, V.up, upL, Ab, Ac, Ad, slr])
noncomputable def El (list0 : List Int) : (Int × (List Int)) → Option ((Int × (List Int)) ⊕ (List Int)) := fun (x12, x3) =>
 if x12 < (↑list0.length : Int) then
 ask ((0 : Int) ≤ x12 ∧ x12 < (↑list0.length : Int)) <|
 ask ((x3).length + ([IntKind.u8.wrap ((nth list0 x12.toNat).fdiv ((2 : Int) ^ min (Int.toNat (8 : Int)) IntKind.i64.bits)), IntKind.u8.wrap (nth list0 x12.toNat)]).length ≤ LIM) <|
 ask (InI (x12 + (1 : Int))) <|
 some (.inl (x12 + (1 : Int), x3 ++ [IntKind.u8.wrap ((nth list0 x12.toNat).fdiv ((2 : Int) ^ min (Int.toNat (8 : Int)) IntKind.i64.bits)), IntKind.u8.wrap (nth list0 x12.toNat)]))
 else
 some (.inr x3)
def Ml (list0 : List Int) : (Int × (List Int)) → St := fun s => [(12, A.val (Ae s.1)), (11, A.val (Ae ((↑list0.length : Int)))), (10, A.val ((slr false 1 Ae) (list0))), (3, A.val ((slr true 1 (V.int IntKind.u8)) s.2))]
def Ta (_list0 : List Int) : (List Int) → Tgt
 | s => ((Ex.exit 0), [3], [(3, A.val ((slr true 1 (V.int IntKind.u8)) s))])
theorem Ab1 {list0 : List Int} (s : (Int × (List Int))) (o : (Int × (List Int)) ⊕ (List Int)) (h : El list0 s = some o) : vc Try.prog S7 (Ef [12, 11, 10, 3] (Ml list0) (Ta list0) o) (Ml list0 s) := by
 obtain ⟨x12, x3⟩ := s
 unfold El at h
 try dsimp only at h
 conv => whnf
 refine Br.od h (fun p3 h => ?_) (fun p3 h => ?_)
 ·conv => whnf
  refine Len.map ?_
  conv => whnf
  refine Ask.o h fun p4 h => ?_
  conv => whnf
  refine Elem.o (by first | omega | (simp [Bc] at * <;> omega)) ?_
  conv => whnf
  refine BslQ.o (V.int IntKind.u8) ([IntKind.u8.wrap ((nth list0 x12.toNat).fdiv ((2 : Int) ^ min (Int.toNat (8 : Int)) IntKind.i64.bits)), IntKind.u8.wrap (nth list0 x12.toNat)]) (by exact fun _ => ⟨rfl, rfl⟩) (by first | rfl | simp only [Aa, V.fz, fzL, V.up, upL, Ab, Ac, Ad, slr, List.cons_append, List.nil_append] | simp [Aa, V.fz, fzL, V.up, upL, Ab, Ac, Ad, slr]) ?_
  conv => whnf
  refine NoOwn.o (fun _ => rfl) ?_
  conv => whnf
  refine AppQ.o (m := 1) (V.int IntKind.u8) (by exact fun _ => ⟨rfl, rfl⟩) (x3) ([IntKind.u8.wrap ((nth list0 x12.toNat).fdiv ((2 : Int) ^ min (Int.toNat (8 : Int)) IntKind.i64.bits)), IntKind.u8.wrap (nth list0 x12.toNat)]) (by first | rfl | simp only [Aa, V.fz, fzL, V.up, upL, Ab, Ac, Ad, slr, List.cons_append, List.nil_append] | simp [Aa, V.fz, fzL, V.up, upL, Ab, Ac, Ad, slr]) (by first | rfl | simp only [Aa, V.fz, fzL, V.up, upL, Ab, Ac, Ad, slr, List.cons_append, List.nil_append] | simp [Aa, V.fz, fzL, V.up, upL, Ab, Ac, Ad, slr]) h fun h => ?_
  conv => whnf
  refine Ask.o h fun p5 h => ?_
  conv => whnf
  cases h; exact ⟨rfl, rfl⟩
 conv => whnf
 cases h; exact ⟨rfl, rfl⟩
noncomputable def Ey (list0 : (List Int)) : Option ByteArray :=
 ask (InI ((2 : Int) * (↑list0.length : Int))) <|
 ask ((0 : Int) ≤ (2 : Int) * (↑list0.length : Int) ∧ (2 : Int) * (↑list0.length : Int) ≤ (↑LIM : Int)) <|
 (At (El list0) ((0 : Int), Ar Int)).bind fun q6_3 =>
 some (S6 q6_3)
theorem K5 {list0 : (List Int)} {v : ByteArray} (h : Ey list0 = some v) : Ret Try.prog Gp [(slr false 1 Ae) list0] (V.str v) := by
 refine Bm Aha (Nat.le_of_ble_eq_true rfl) ?_
 unfold Ey at h
 conv => whnf
 refine Len.map ?_
 conv => whnf
 refine Ask.o h fun p1 h => ?_
 conv => whnf
 refine Ask.o h fun p2 h => ?_
 conv => whnf
 refine Len.map ?_
 conv => whnf
 refine LoopQ.o [12, 11, 10, 3] (Ml list0) (Ta list0) h (fun s o h => Ab1 s o h) (by first | rfl | simp [restrict, look, Aa, V.fz, fzL, V.up, upL, Ab, Ac, Ad, slr]) (fun _ => rfl) ?_
 rintro q6_3 h
 try dsimp only at h
 conv => whnf
 refine BsQ.o q6_3 (by first | rfl | simp only [Aa, V.fz, fzL, V.up, upL, Ab, Ac, Ad, slr, List.cons_append, List.nil_append] | simp [Aa, V.fz, fzL, V.up, upL, Ab, Ac, Ad, slr]) ?_
 conv => whnf
 cases h; exact (by first | rfl | simp only [Ah, Aa, V.fz, fzL, V.up, upL, Ab, Ac, Ad, slr] | simp [Ah, Aa, V.fz, fzL, V.up, upL, Ab, Ac, Ad, slr])
noncomputable def C4 (a0 : List Int) (b0 : List Int) : Int → Option (Int ⊕ (Unit ⊕ Unit)) := fun x14 =>
 if x14 < (↑a0.length : Int) then
 ask ((0 : Int) ≤ x14 ∧ x14 < (↑a0.length : Int)) <|
 ask ((0 : Int) ≤ x14 ∧ x14 < (↑b0.length : Int)) <|
 if nth b0 x14.toNat ≠ nth a0 x14.toNat then
 some (.inr (.inl ()))
 else
 ask (InI (x14 + (1 : Int))) <|
 some (.inl (x14 + (1 : Int)))
 else
 some (.inr (.inr ()))
def Jp (a0 : List Int) (b0 : List Int) : Int → St := fun s => [(14, A.val (Ae s)), (13, A.val (Ae ((↑a0.length : Int)))), (12, A.val ((slr false 1 Ae) (a0))), (1, A.val ((slr false 1 Ae) (b0)))]
def N1 (_a0 : List Int) (_b0 : List Int) : (Unit ⊕ Unit) → Tgt
 | (.inl _s) => (Ex.ret, [4], [(4, A.val (V.bool (false)))])
 | (.inr _s) => ((Ex.exit 0), [], [])
theorem Xv {a0 : List Int} {b0 : List Int} (x14 : Int) (o : Int ⊕ (Unit ⊕ Unit)) (h : C4 a0 b0 x14 = some o) : vc Try.prog Oi (Ef [14, 13, 12, 1] (Jp a0 b0) (N1 a0 b0) o) (Jp a0 b0 x14) := by
 unfold C4 at h
 try dsimp only at h
 conv => whnf
 refine Br.od h (fun p2 h => ?_) (fun p2 h => ?_)
 ·conv => whnf
  refine Len.map ?_
  conv => whnf
  refine Ask.o h fun p3 h => ?_
  conv => whnf
  refine Elem.o (by first | omega | (simp [Bc] at * <;> omega)) ?_
  conv => whnf
  refine Len.map ?_
  conv => whnf
  refine Ask.o h fun p4 h => ?_
  conv => whnf
  refine Elem.o (by first | omega | (simp [Bc] at * <;> omega)) ?_
  conv => whnf
  refine Br.on h (fun p5 h => ?_) (fun p5 h => ?_)
  ·conv => whnf
   cases h; exact ⟨rfl, rfl⟩
  conv => whnf
  refine Ask.o h fun p6 h => ?_
  conv => whnf
  cases h; exact ⟨rfl, rfl⟩
 conv => whnf
 cases h; exact ⟨rfl, rfl⟩
noncomputable def G9 (a0 : (List Int)) (b0 : (List Int)) : Option Bool :=
 if (↑a0.length : Int) ≠ (↑b0.length : Int) then
 some false
 else
 (At (C4 a0 b0) (0 : Int)).bind fun t => match t with
 | (.inl _) => (some false)
 | (.inr _) => (some true)
theorem Acn {a0 : (List Int)} {b0 : (List Int)} {v : Bool} (h : G9 a0 b0 = some v) : Ret Try.prog Mn [(slr false 1 Ae) a0, (slr false 1 Ae) b0] (V.bool v) := by
 refine Bm Ack (Nat.le_of_ble_eq_true rfl) ?_
 unfold G9 at h
 conv => whnf
 refine Len.map ?_
 conv => whnf
 refine Len.map ?_
 conv => whnf
 refine Br.on h (fun p1 h => ?_) (fun p1 h => ?_)
 ·conv => whnf
  cases h; exact (by first | rfl | simp only [Ah, Aa, V.fz, fzL, V.up, upL, Ab, Ac, Ad, slr] | simp [Ah, Aa, V.fz, fzL, V.up, upL, Ab, Ac, Ad, slr])
 conv => whnf
 refine Len.map ?_
 conv => whnf
 refine LoopQ.o [14, 13, 12, 1] (Jp a0 b0) (N1 a0 b0) h (fun s o h => Xv s o h) (by first | rfl | simp [restrict, look, Aa, V.fz, fzL, V.up, upL, Ab, Ac, Ad, slr]) (by rintro (_ | _) <;> rfl) ?_
 rintro (⟨⟩ | ⟨⟩) h
 ·try dsimp only at h
  conv => whnf
  cases h; exact (by first | rfl | simp only [Ah, Aa, V.fz, fzL, V.up, upL, Ab, Ac, Ad, slr] | simp [Ah, Aa, V.fz, fzL, V.up, upL, Ab, Ac, Ad, slr])
 try dsimp only at h
 conv => whnf
 cases h; exact (by first | rfl | simp only [Ah, Aa, V.fz, fzL, V.up, upL, Ab, Ac, Ad, slr] | simp [Ah, Aa, V.fz, fzL, V.up, upL, Ab, Ac, Ad, slr])
noncomputable def Cg (n0 : Int) : (Int × Int) → Option ((Int × Int) ⊕ Int) := fun (x5, x1) =>
 if x1 > (0 : Int) then
 ask (InI (x5 * n0)) <|
 ask (InI (x1 - (1 : Int))) <|
 some (.inl (x5 * n0, x1 - (1 : Int)))
 else
 some (.inr x5)
def Mo (n0 : Int) : (Int × Int) → St := fun s => [(5, A.val (Ae s.1)), (0, A.val (Ae (n0))), (1, A.val (Ae s.2))]
def Tc (_n0 : Int) : Int → Tgt
 | s => ((Ex.exit 0), [5], [(5, A.val (Ae s))])
theorem Aby {n0 : Int} (s : (Int × Int)) (o : (Int × Int) ⊕ Int) (h : Cg n0 s = some o) : vc Try.prog Sy (Ef [5, 0, 1] (Mo n0) (Tc n0) o) (Mo n0 s) := by
 obtain ⟨x5, x1⟩ := s
 unfold Cg at h
 try dsimp only at h
 conv => whnf
 refine Br.od h (fun p1 h => ?_) (fun p1 h => ?_)
 ·conv => whnf
  refine Ask.o h fun p2 h => ?_
  conv => whnf
  refine Ask.o h fun p3 h => ?_
  conv => whnf
  cases h; exact ⟨rfl, rfl⟩
 conv => whnf
 cases h; exact ⟨rfl, rfl⟩
noncomputable def Cc (n0 : Int) (k0 : Int) : Option Int :=
 (At (Cg n0) ((1 : Int), k0)).bind fun q4_5 =>
 some q4_5
theorem Fu {n0 : Int} {k0 : Int} {v : Int} (h : Cc n0 k0 = some v) : Ret Try.prog D5 [Ae n0, Ae k0] (Ae v) := by
 refine Bm Aho (Nat.le_of_ble_eq_true rfl) ?_
 unfold Cc at h
 conv => whnf
 refine LoopQ.o [5, 0, 1] (Mo n0) (Tc n0) h (fun s o h => Aby s o h) (by first | rfl | simp [restrict, look, Aa, V.fz, fzL, V.up, upL, Ab, Ac, Ad, slr]) (fun _ => rfl) ?_
 rintro q4_5 h
 try dsimp only at h
 conv => whnf
 cases h; exact (by first | rfl | simp only [Ah, Aa, V.fz, fzL, V.up, upL, Ab, Ac, Ad, slr] | simp [Ah, Aa, V.fz, fzL, V.up, upL, Ab, Ac, Ad, slr])
noncomputable def Ld (n0 : Int) : (Int × (List Int) × Int) → Option ((Int × (List Int) × Int) ⊕ (List Int)) := fun (x8, x7, x0) =>
 if x8 ≥ (0 : Int) then
 ask (n0 ≠ (0 : Int)) <|
 ask ((0 : Int) ≤ x8 ∧ x8 < (↑x7.length : Int)) <|
 ask (n0 ≠ (0 : Int) ∧ InI (x0.tdiv n0)) <|
 ask (InI (x8 - (1 : Int))) <|
 some (.inl (x8 - (1 : Int), x7.set x8.toNat (x0.tmod n0), x0.tdiv n0))
 else
 some (.inr x7)
def Ls (n0 : Int) : (Int × (List Int) × Int) → St := fun s => [(8, A.val (Ae s.1)), (7, A.val ((slr true 1 Ae) s.2.1)), (0, A.val (Ae s.2.2)), (2, A.val (Ae (n0)))]
def Q2 (_n0 : Int) : (List Int) → Tgt
 | s => ((Ex.exit 0), [7], [(7, A.val ((slr true 1 Ae) s))])
theorem Zz {n0 : Int} (s : (Int × (List Int) × Int)) (o : (Int × (List Int) × Int) ⊕ (List Int)) (h : Ld n0 s = some o) : vc Try.prog Q6 (Ef [8, 7, 0, 2] (Ls n0) (Q2 n0) o) (Ls n0 s) := by
 obtain ⟨x8, x7, x0⟩ := s
 unfold Ld at h
 try dsimp only at h
 conv => whnf
 refine Br.od h (fun p3 h => ?_) (fun p3 h => ?_)
 ·conv => whnf
  refine Ask.o h fun p4 h => ?_
  conv => whnf
  refine Len.map ?_
  conv => whnf
  refine Ask.o h fun p5 h => ?_
  conv => whnf
  refine SetKids.one (fun _ => ⟨rfl, rfl⟩) (x0.tmod n0) (by first | rfl | simp only [Aa, V.fz, fzL, V.up, upL, Ab, Ac, Ad, slr, List.cons_append, List.nil_append] | simp [Aa, V.fz, fzL, V.up, upL, Ab, Ac, Ad, slr]) (by first | omega | (simp [Bc] at * <;> omega)) ?_
  conv => whnf
  refine Ask.o h fun p6 h => ?_
  conv => whnf
  refine Ask.o h fun p7 h => ?_
  conv => whnf
  cases h; exact ⟨rfl, rfl⟩
 conv => whnf
 cases h; exact ⟨rfl, rfl⟩
noncomputable def F4 (i0 : Int) (k0 : Int) (n0 : Int) : Option (List Int) :=
 ask ((0 : Int) ≤ k0 ∧ k0 ≤ (↑LIM : Int)) <|
 ask (InI (k0 - (1 : Int))) <|
 (At (Ld n0) (k0 - (1 : Int), List.replicate k0.toNat (0 : Int), i0)).bind fun q8_7 =>
 some q8_7
theorem Qf {i0 : Int} {k0 : Int} {n0 : Int} {v : (List Int)} (h : F4 i0 k0 n0 = some v) : Ret Try.prog I2 [Ae i0, Ae k0, Ae n0] ((slr true 1 Ae) v) := by
 refine Bm Afk (Nat.le_of_ble_eq_true rfl) ?_
 unfold F4 at h
 conv => whnf
 refine Ask.o h fun p1 h => ?_
 conv => whnf
 refine MkQ.o Ae ((0 : Int)) rfl ?_
 conv => whnf
 refine Ask.o h fun p2 h => ?_
 conv => whnf
 refine LoopQ.o [8, 7, 0, 2] (Ls n0) (Q2 n0) h (fun s o h => Zz s o h) (by first | rfl | simp [restrict, look, Aa, V.fz, fzL, V.up, upL, Ab, Ac, Ad, slr]) (fun _ => rfl) ?_
 rintro q8_7 h
 try dsimp only at h
 conv => whnf
 cases h; exact (by first | rfl | simp only [Ah, Aa, V.fz, fzL, V.up, upL, Ab, Ac, Ad, slr] | simp [Ah, Aa, V.fz, fzL, V.up, upL, Ab, Ac, Ad, slr])
noncomputable def B6 (n0 : Int) (_f0 : SOp) (tables0 : List (List Int)) (_places0 : Int) (x18 : Int) (_x9 : List Int) : (Int × Int) → Option ((Int × Int) ⊕ Int) := fun (x23, x11) =>
 if x23 < (↑tables0.length : Int) then
 ask ((0 : Int) ≤ x23 ∧ x23 < (↑tables0.length : Int)) <|
 ask (InI (x11 * n0)) <|
 ask ((0 : Int) ≤ x18 ∧ x18 < (↑(nth tables0 x23.toNat).length : Int)) <|
 ask (InI (x11 * n0 + nth (nth tables0 x23.toNat) x18.toNat)) <|
 ask (InI (x23 + (1 : Int))) <|
 some (.inl (x23 + (1 : Int), x11 * n0 + nth (nth tables0 x23.toNat) x18.toNat))
 else
 some (.inr x11)
def Gg (n0 : Int) (f0 : SOp) (tables0 : List (List Int)) (places0 : Int) (x18 : Int) (x9 : List Int) : (Int × Int) → St := fun s => [(23, A.val (Ae s.1)), (22, A.val (Ae ((↑tables0.length : Int)))), (21, A.val ((slr false 1 (slr false 1 Ae)) (tables0))), (11, A.val (Ae s.2)), (10, A.val (Ae (x18))), (18, A.val (Ae (x18))), (17, A.val (Ae ((↑places0.toNat : Int)))), (9, A.val ((slr true 1 Ae) (x9))), (5, A.val ((rP true (Ak false)) (f0))), (0, A.val (Ae (n0))), (2, A.val ((slr false 1 (slr false 1 Ae)) (tables0)))]
def J5 (n0 : Int) (f0 : SOp) (tables0 : List (List Int)) (places0 : Int) (x18 : Int) (x9 : List Int) : Int → Tgt
 | s => ((Ex.exit 2), [11, 10, 18, 17, 9, 5, 0, 2], [(11, A.val (Ae s)), (10, A.val (Ae (x18))), (18, A.val (Ae (x18))), (17, A.val (Ae ((↑places0.toNat : Int)))), (9, A.val ((slr true 1 Ae) (x9))), (5, A.val ((rP true (Ak false)) (f0))), (0, A.val (Ae (n0))), (2, A.val ((slr false 1 (slr false 1 Ae)) (tables0)))])
theorem Rc {n0 : Int} {f0 : SOp} {tables0 : List (List Int)} {places0 : Int} {x18 : Int} {x9 : List Int} (s : (Int × Int)) (o : (Int × Int) ⊕ Int) (h : B6 n0 f0 tables0 places0 x18 x9 s = some o) : vc Try.prog Jz (Ef [23, 22, 21, 11, 10, 18, 17, 9, 5, 0, 2] (Gg n0 f0 tables0 places0 x18 x9) (J5 n0 f0 tables0 places0 x18 x9) o) (Gg n0 f0 tables0 places0 x18 x9 s) := by
 obtain ⟨x23, x11⟩ := s
 unfold B6 at h
 try dsimp only at h
 conv => whnf
 refine Br.od h (fun p3 h => ?_) (fun p3 h => ?_)
 ·conv => whnf
  refine Len.map ?_
  conv => whnf
  refine Ask.o h fun p4 h => ?_
  conv => whnf
  refine Elem.o (by first | omega | (simp [Bc] at * <;> omega)) ?_
  conv => whnf
  refine Ask.o h fun p5 h => ?_
  conv => whnf
  refine Len.map ?_
  conv => whnf
  refine Ask.o h fun p6 h => ?_
  conv => whnf
  refine Elem.o (by first | omega | (simp [Bc] at * <;> omega)) ?_
  conv => whnf
  refine Ask.o h fun p7 h => ?_
  conv => whnf
  refine Ask.o h fun p8 h => ?_
  conv => whnf
  cases h; exact ⟨rfl, rfl⟩
 conv => whnf
 cases h; exact ⟨rfl, rfl⟩
noncomputable def B7 (n0 : Int) (f0 : SOp) (tables0 : List (List Int)) (places0 : Int) : (Int × (List Int)) → Option ((Int × (List Int)) ⊕ (List Int)) := fun (x18, x9) =>
 if x18 < (↑places0.toNat : Int) then
 (At (B6 n0 f0 tables0 places0 x18 x9) ((0 : Int), (0 : Int))).bind fun q9_11 =>
 ask ((0 : Int) ≤ q9_11 ∧ q9_11 < (↑f0.Table.length : Int)) <|
 ask ((0 : Int) ≤ x18 ∧ x18 < (↑x9.length : Int)) <|
 ask (InI (x18 + (1 : Int))) <|
 some (.inl (x18 + (1 : Int), x9.set x18.toNat (nth f0.Table q9_11.toNat)))
 else
 some (.inr x9)
def Gf (n0 : Int) (f0 : SOp) (tables0 : List (List Int)) (places0 : Int) : (Int × (List Int)) → St := fun s => [(18, A.val (Ae s.1)), (17, A.val (Ae ((↑places0.toNat : Int)))), (9, A.val ((slr true 1 Ae) s.2)), (5, A.val ((rP true (Ak false)) (f0))), (0, A.val (Ae (n0))), (2, A.val ((slr false 1 (slr false 1 Ae)) (tables0)))]
def Jv (_n0 : Int) (_f0 : SOp) (_tables0 : List (List Int)) (_places0 : Int) : (List Int) → Tgt
 | s => ((Ex.exit 0), [9], [(9, A.val ((slr true 1 Ae) s))])
theorem Q3 {n0 : Int} {f0 : SOp} {tables0 : List (List Int)} {places0 : Int} (s : (Int × (List Int))) (o : (Int × (List Int)) ⊕ (List Int)) (h : B7 n0 f0 tables0 places0 s = some o) : vc Try.prog J1 (Ef [18, 17, 9, 5, 0, 2] (Gf n0 f0 tables0 places0) (Jv n0 f0 tables0 places0) o) (Gf n0 f0 tables0 places0 s) := by
 obtain ⟨x18, x9⟩ := s
 unfold B7 at h
 try dsimp only at h
 conv => whnf
 refine Br.od h (fun p2 h => ?_) (fun p2 h => ?_)
 ·conv => whnf
  refine Len.map ?_
  conv => whnf
  refine LoopQ.o [23, 22, 21, 11, 10, 18, 17, 9, 5, 0, 2] (Gg n0 f0 tables0 places0 x18 x9) (J5 n0 f0 tables0 places0 x18 x9) h (fun s o h => Rc s o h) (by first | rfl | simp [restrict, look, Aa, V.fz, fzL, V.up, upL, Ab, Ac, Ad, slr]) (fun _ => rfl) ?_
  rintro q9_11 h
  try dsimp only at h
  conv => whnf
  refine Cells.lit rfl rfl ?_
  conv => whnf
  refine Len.map ?_
  conv => whnf
  refine Ask.o h fun p10 h => ?_
  conv => whnf
  refine Elem.o (by first | omega | (simp [Bc] at * <;> omega)) ?_
  conv => whnf
  refine Len.map ?_
  conv => whnf
  refine Ask.o h fun p11 h => ?_
  conv => whnf
  refine SetKids.one (fun _ => ⟨rfl, rfl⟩) (nth f0.Table q9_11.toNat) (by first | rfl | simp only [Aa, V.fz, fzL, V.up, upL, Ab, Ac, Ad, slr, List.cons_append, List.nil_append] | simp [Aa, V.fz, fzL, V.up, upL, Ab, Ac, Ad, slr]) (by first | omega | (simp [Bc] at * <;> omega)) ?_
  conv => whnf
  refine Ask.o h fun p12 h => ?_
  conv => whnf
  cases h; exact ⟨rfl, rfl⟩
 conv => whnf
 cases h; exact ⟨rfl, rfl⟩
noncomputable def Cn (n0 : Int) (f0 : SOp) (tables0 : (List (List Int))) (places0 : Int) : Option (List Int) :=
 ask ((0 : Int) ≤ places0 ∧ places0 ≤ (↑LIM : Int)) <|
 (At (B7 n0 f0 tables0 places0) ((0 : Int), List.replicate places0.toNat (0 : Int))).bind fun q13_9 =>
 some q13_9
theorem H4 {n0 : Int} {f0 : SOp} {tables0 : (List (List Int))} {places0 : Int} {v : (List Int)} (h : Cn n0 f0 tables0 places0 = some v) : Ret Try.prog D9 [Ae n0, (Ak false) f0, (slr false 1 (slr false 1 Ae)) tables0, Ae places0] ((slr true 1 Ae) v) := by
 refine Bm U3 (Nat.le_of_ble_eq_true rfl) ?_
 unfold Cn at h
 conv => whnf
 refine Ask.o h fun p1 h => ?_
 conv => whnf
 refine MkQ.o Ae ((0 : Int)) rfl ?_
 conv => whnf
 refine Len.mrep ?_
 conv => whnf
 refine LoopQ.o [18, 17, 9, 5, 0, 2] (Gf n0 f0 tables0 places0) (Jv n0 f0 tables0 places0) h (fun s o h => Q3 s o h) (by first | rfl | simp [restrict, look, Aa, V.fz, fzL, V.up, upL, Ab, Ac, Ad, slr]) (fun _ => rfl) ?_
 rintro q13_9 h
 try dsimp only at h
 conv => whnf
 cases h; exact (by first | rfl | simp only [Ah, Aa, V.fz, fzL, V.up, upL, Ab, Ac, Ad, slr] | simp [Ah, Aa, V.fz, fzL, V.up, upL, Ab, Ac, Ad, slr])
noncomputable def Cp (n0 : Int) (_f0 : SOp) (tables0 : List (List Int)) (_size0 : Int) (x10 : Int) (_x9 : List Int) : (Int × Int) → Option ((Int × Int) ⊕ Int) := fun (x12, x11) =>
 if x12 < (↑tables0.length : Int) then
 ask (InI (x11 * n0)) <|
 ask ((0 : Int) ≤ x12 ∧ x12 < (↑tables0.length : Int)) <|
 ask ((0 : Int) ≤ x10 ∧ x10 < (↑(nth tables0 x12.toNat).length : Int)) <|
 ask (InI (x11 * n0 + nth (nth tables0 x12.toNat) x10.toNat)) <|
 ask (InI (x12 + (1 : Int))) <|
 some (.inl (x12 + (1 : Int), x11 * n0 + nth (nth tables0 x12.toNat) x10.toNat))
 else
 some (.inr x11)
def Hv (n0 : Int) (f0 : SOp) (tables0 : List (List Int)) (size0 : Int) (x10 : Int) (x9 : List Int) : (Int × Int) → St := fun s => [(12, A.val (Ae s.1)), (11, A.val (Ae s.2)), (10, A.val (Ae (x10))), (9, A.val ((slr true 1 Ae) (x9))), (5, A.val ((rP true (Ak false)) (f0))), (0, A.val (Ae (n0))), (2, A.val ((slr false 1 (slr false 1 Ae)) (tables0))), (3, A.val (Ae (size0)))]
def Mi (n0 : Int) (f0 : SOp) (tables0 : List (List Int)) (size0 : Int) (x10 : Int) (x9 : List Int) : Int → Tgt
 | s => ((Ex.exit 2), [11, 10, 9, 5, 0, 2, 3], [(11, A.val (Ae s)), (10, A.val (Ae (x10))), (9, A.val ((slr true 1 Ae) (x9))), (5, A.val ((rP true (Ak false)) (f0))), (0, A.val (Ae (n0))), (2, A.val ((slr false 1 (slr false 1 Ae)) (tables0))), (3, A.val (Ae (size0)))])
theorem T3 {n0 : Int} {f0 : SOp} {tables0 : List (List Int)} {size0 : Int} {x10 : Int} {x9 : List Int} (s : (Int × Int)) (o : (Int × Int) ⊕ Int) (h : Cp n0 f0 tables0 size0 x10 x9 s = some o) : vc Try.prog Me (Ef [12, 11, 10, 9, 5, 0, 2, 3] (Hv n0 f0 tables0 size0 x10 x9) (Mi n0 f0 tables0 size0 x10 x9) o) (Hv n0 f0 tables0 size0 x10 x9 s) := by
 obtain ⟨x12, x11⟩ := s
 unfold Cp at h
 try dsimp only at h
 conv => whnf
 refine Len.map ?_
 conv => whnf
 refine Br.od h (fun p2 h => ?_) (fun p2 h => ?_)
 ·conv => whnf
  refine Ask.o h fun p3 h => ?_
  conv => whnf
  refine Len.map ?_
  conv => whnf
  refine Ask.o h fun p4 h => ?_
  conv => whnf
  refine Elem.o (by first | omega | (simp [Bc] at * <;> omega)) ?_
  conv => whnf
  refine Len.map ?_
  conv => whnf
  refine Ask.o h fun p5 h => ?_
  conv => whnf
  refine Elem.o (by first | omega | (simp [Bc] at * <;> omega)) ?_
  conv => whnf
  refine Ask.o h fun p6 h => ?_
  conv => whnf
  refine Ask.o h fun p7 h => ?_
  conv => whnf
  cases h; exact ⟨rfl, rfl⟩
 conv => whnf
 cases h; exact ⟨rfl, rfl⟩
noncomputable def Cj (n0 : Int) (f0 : SOp) (tables0 : List (List Int)) (size0 : Int) : (Int × (List Int)) → Option ((Int × (List Int)) ⊕ (List Int)) := fun (x10, x9) =>
 if x10 < size0 then
 (At (Cp n0 f0 tables0 size0 x10 x9) ((0 : Int), (0 : Int))).bind fun q8_11 =>
 ask ((0 : Int) ≤ q8_11 ∧ q8_11 < (↑f0.Table.length : Int)) <|
 ask ((x9).length + ([nth f0.Table q8_11.toNat]).length ≤ LIM) <|
 ask (InI (x10 + (1 : Int))) <|
 some (.inl (x10 + (1 : Int), x9 ++ [nth f0.Table q8_11.toNat]))
 else
 some (.inr x9)
def H8 (n0 : Int) (f0 : SOp) (tables0 : List (List Int)) (size0 : Int) : (Int × (List Int)) → St := fun s => [(10, A.val (Ae s.1)), (9, A.val ((slr true 1 Ae) s.2)), (5, A.val ((rP true (Ak false)) (f0))), (0, A.val (Ae (n0))), (2, A.val ((slr false 1 (slr false 1 Ae)) (tables0))), (3, A.val (Ae (size0)))]
def Mc (_n0 : Int) (_f0 : SOp) (_tables0 : List (List Int)) (_size0 : Int) : (List Int) → Tgt
 | s => ((Ex.exit 0), [9], [(9, A.val ((slr true 1 Ae) s))])
theorem Tx {n0 : Int} {f0 : SOp} {tables0 : List (List Int)} {size0 : Int} (s : (Int × (List Int))) (o : (Int × (List Int)) ⊕ (List Int)) (h : Cj n0 f0 tables0 size0 s = some o) : vc Try.prog Mg (Ef [10, 9, 5, 0, 2, 3] (H8 n0 f0 tables0 size0) (Mc n0 f0 tables0 size0) o) (H8 n0 f0 tables0 size0 s) := by
 obtain ⟨x10, x9⟩ := s
 unfold Cj at h
 try dsimp only at h
 conv => whnf
 refine Br.od h (fun p1 h => ?_) (fun p1 h => ?_)
 ·conv => whnf
  refine LoopQ.o [12, 11, 10, 9, 5, 0, 2, 3] (Hv n0 f0 tables0 size0 x10 x9) (Mi n0 f0 tables0 size0 x10 x9) h (fun s o h => T3 s o h) (by first | rfl | simp [restrict, look, Aa, V.fz, fzL, V.up, upL, Ab, Ac, Ad, slr]) (fun _ => rfl) ?_
  rintro q8_11 h
  try dsimp only at h
  conv => whnf
  refine Cells.lit rfl rfl ?_
  conv => whnf
  refine Len.map ?_
  conv => whnf
  refine Ask.o h fun p9 h => ?_
  conv => whnf
  refine Elem.o (by first | omega | (simp [Bc] at * <;> omega)) ?_
  conv => whnf
  refine BslQ.o Ae ([nth f0.Table q8_11.toNat]) (by exact fun _ => ⟨rfl, rfl⟩) (by first | rfl | simp only [Aa, V.fz, fzL, V.up, upL, Ab, Ac, Ad, slr, List.cons_append, List.nil_append] | simp [Aa, V.fz, fzL, V.up, upL, Ab, Ac, Ad, slr]) ?_
  conv => whnf
  refine NoOwn.o (fun _ => rfl) ?_
  conv => whnf
  refine AppQ.o (m := 1) Ae (by exact fun _ => ⟨rfl, rfl⟩) (x9) ([nth f0.Table q8_11.toNat]) (by first | rfl | simp only [Aa, V.fz, fzL, V.up, upL, Ab, Ac, Ad, slr, List.cons_append, List.nil_append] | simp [Aa, V.fz, fzL, V.up, upL, Ab, Ac, Ad, slr]) (by first | rfl | simp only [Aa, V.fz, fzL, V.up, upL, Ab, Ac, Ad, slr, List.cons_append, List.nil_append] | simp [Aa, V.fz, fzL, V.up, upL, Ab, Ac, Ad, slr]) h fun h => ?_
  conv => whnf
  refine Ask.o h fun p10 h => ?_
  conv => whnf
  cases h; exact ⟨rfl, rfl⟩
 conv => whnf
 cases h; exact ⟨rfl, rfl⟩
noncomputable def Fq (n0 : Int) (f0 : SOp) (tables0 : (List (List Int))) (size0 : Int) : Option (List Int) :=
 (At (Cj n0 f0 tables0 size0) ((0 : Int), Ar Int)).bind fun q11_9 =>
 some q11_9
theorem Yl {n0 : Int} {f0 : SOp} {tables0 : (List (List Int))} {size0 : Int} {v : (List Int)} (h : Fq n0 f0 tables0 size0 = some v) : Ret Try.prog Kv [Ae n0, (Ak false) f0, (slr false 1 (slr false 1 Ae)) tables0, Ae size0] ((slr true 1 Ae) v) := by
 refine Bm Yn (Nat.le_of_ble_eq_true rfl) ?_
 unfold Fq at h
 conv => whnf
 refine BslQ.o Ae (Ar Int) (by exact fun _ => ⟨rfl, rfl⟩) (by first | rfl | simp only [Aa, V.fz, fzL, V.up, upL, Ab, Ac, Ad, slr, List.cons_append, List.nil_append] | simp [Aa, V.fz, fzL, V.up, upL, Ab, Ac, Ad, slr]) ?_
 conv => whnf
 refine LoopQ.o [10, 9, 5, 0, 2, 3] (H8 n0 f0 tables0 size0) (Mc n0 f0 tables0 size0) h (fun s o h => Tx s o h) (by first | rfl | simp [restrict, look, Aa, V.fz, fzL, V.up, upL, Ab, Ac, Ad, slr]) (fun _ => rfl) ?_
 rintro q11_9 h
 try dsimp only at h
 conv => whnf
 cases h; exact (by first | rfl | simp only [Ah, Aa, V.fz, fzL, V.up, upL, Ab, Ac, Ad, slr] | simp [Ah, Aa, V.fz, fzL, V.up, upL, Ab, Ac, Ad, slr])
noncomputable def I8 (a0 : Int) (b0 : Int) : Option Int :=
 if a0 > b0 then
 some a0
 else
 some b0
theorem Ae9 {a0 : Int} {b0 : Int} {v : Int} (h : I8 a0 b0 = some v) : Ret Try.prog Qj [Ae a0, Ae b0] (Ae v) := by
 refine Bm Afn (Nat.le_of_ble_eq_true rfl) ?_
 unfold I8 at h
 conv => whnf
 refine Br.od h (fun p1 h => ?_) (fun p1 h => ?_)
 ·conv => whnf
  cases h; exact (by first | rfl | simp only [Ah, Aa, V.fz, fzL, V.up, upL, Ab, Ac, Ad, slr] | simp [Ah, Aa, V.fz, fzL, V.up, upL, Ab, Ac, Ad, slr])
 conv => whnf
 cases h; exact (by first | rfl | simp only [Ah, Aa, V.fz, fzL, V.up, upL, Ab, Ac, Ad, slr] | simp [Ah, Aa, V.fz, fzL, V.up, upL, Ab, Ac, Ad, slr])
noncomputable def Dz (list0 : List Int) (n0 : Int) : Int → Option (Int ⊕ (Unit ⊕ Unit)) := fun x9 =>
 if x9 < (↑list0.length : Int) then
 ask ((0 : Int) ≤ x9 ∧ x9 < (↑list0.length : Int)) <|
 if nth list0 x9.toNat < (0 : Int) then
 some (.inr (.inl ()))
 else
 if nth list0 x9.toNat ≥ n0 then
 some (.inr (.inl ()))
 else
 ask (InI (x9 + (1 : Int))) <|
 some (.inl (x9 + (1 : Int)))
 else
 some (.inr (.inr ()))
def Ll (list0 : List Int) (n0 : Int) : Int → St := fun s => [(9, A.val (Ae s)), (8, A.val (Ae ((↑list0.length : Int)))), (7, A.val ((slr false 1 Ae) (list0))), (1, A.val (Ae (n0)))]
def Qw (_list0 : List Int) (_n0 : Int) : (Unit ⊕ Unit) → Tgt
 | (.inl _s) => (Ex.ret, [4], [(4, A.val (V.bool (false)))])
 | (.inr _s) => ((Ex.exit 0), [], [])
theorem Z7 {list0 : List Int} {n0 : Int} (x9 : Int) (o : Int ⊕ (Unit ⊕ Unit)) (h : Dz list0 n0 x9 = some o) : vc Try.prog Qy (Ef [9, 8, 7, 1] (Ll list0 n0) (Qw list0 n0) o) (Ll list0 n0 x9) := by
 unfold Dz at h
 try dsimp only at h
 conv => whnf
 refine Br.od h (fun p1 h => ?_) (fun p1 h => ?_)
 ·conv => whnf
  refine Len.map ?_
  conv => whnf
  refine Ask.o h fun p2 h => ?_
  conv => whnf
  refine Elem.o (by first | omega | (simp [Bc] at * <;> omega)) ?_
  conv => whnf
  refine Br.od h (fun p3 h => ?_) (fun p3 h => ?_)
  ·conv => whnf
   refine Br.yes ?_
   conv => whnf
   refine Br.yes ?_
   conv => whnf
   refine Br.yes ?_
   conv => whnf
   refine Br.yes ?_
   conv => whnf
   cases h; exact ⟨rfl, rfl⟩
  conv => whnf
  refine Br.no ?_
  conv => whnf
  refine Br.no ?_
  conv => whnf
  refine Br.no ?_
  conv => whnf
  refine Br.od h (fun p4 h => ?_) (fun p4 h => ?_)
  ·conv => whnf
   cases h; exact ⟨rfl, rfl⟩
  conv => whnf
  refine Ask.o h fun p5 h => ?_
  conv => whnf
  cases h; exact ⟨rfl, rfl⟩
 conv => whnf
 cases h; exact ⟨rfl, rfl⟩
noncomputable def Fy (list0 : (List Int)) (n0 : Int) : Option Bool :=
 (At (Dz list0 n0) (0 : Int)).bind fun t => match t with
 | (.inl _) => (some false)
 | (.inr _) => (some true)
theorem Qe {list0 : (List Int)} {n0 : Int} {v : Bool} (h : Fy list0 n0 = some v) : Ret Try.prog I6 [(slr false 1 Ae) list0, Ae n0] (V.bool v) := by
 refine Bm Afx (Nat.le_of_ble_eq_true rfl) ?_
 unfold Fy at h
 conv => whnf
 refine Len.map ?_
 conv => whnf
 refine LoopQ.o [9, 8, 7, 1] (Ll list0 n0) (Qw list0 n0) h (fun s o h => Z7 s o h) (by first | rfl | simp [restrict, look, Aa, V.fz, fzL, V.up, upL, Ab, Ac, Ad, slr]) (by rintro (_ | _) <;> rfl) ?_
 rintro (⟨⟩ | ⟨⟩) h
 ·try dsimp only at h
  conv => whnf
  cases h; exact (by first | rfl | simp only [Ah, Aa, V.fz, fzL, V.up, upL, Ab, Ac, Ad, slr] | simp [Ah, Aa, V.fz, fzL, V.up, upL, Ab, Ac, Ad, slr])
 try dsimp only at h
 conv => whnf
 cases h; exact (by first | rfl | simp only [Ah, Aa, V.fz, fzL, V.up, upL, Ab, Ac, Ad, slr] | simp [Ah, Aa, V.fz, fzL, V.up, upL, Ab, Ac, Ad, slr])
noncomputable def Gn (x0 : Int) (a0 : Int) (b0 : Int) : Option Bool :=
 if x0 ≥ a0 then
 some (decide (x0 ≤ b0))
 else
 some false
theorem Pa {x0 : Int} {a0 : Int} {b0 : Int} {v : Bool} (h : Gn x0 a0 b0 = some v) : Ret Try.prog J2 [Ae x0, Ae a0, Ae b0] (V.bool v) := by
 refine Bm Alf (Nat.le_of_ble_eq_true rfl) ?_
 unfold Gn at h
 conv => whnf
 refine Br.od h (fun p1 h => ?_) (fun p1 h => ?_)
 ·conv => whnf
  refine Br.yes ?_
  conv => whnf
  refine Br.yes ?_
  conv => whnf
  refine Br.yes ?_
  conv => whnf
  cases h; exact (by first | rfl | simp only [Ah, Aa, V.fz, fzL, V.up, upL, Ab, Ac, Ad, slr] | simp [Ah, Aa, V.fz, fzL, V.up, upL, Ab, Ac, Ad, slr])
 conv => whnf
 refine Br.no ?_
 conv => whnf
 refine Br.no ?_
 conv => whnf
 refine Br.no ?_
 conv => whnf
 cases h; exact (by first | rfl | simp only [Ah, Aa, V.fz, fzL, V.up, upL, Ab, Ac, Ad, slr] | simp [Ah, Aa, V.fz, fzL, V.up, upL, Ab, Ac, Ad, slr])
noncomputable def Cf (n0 : Int) : (Int × Int) → Option ((Int × Int) ⊕ Int) := fun (x5, x1) =>
 if x1 > (0 : Int) then
 ask (InI (x5 * n0)) <|
 ask (InI (x1 - (1 : Int))) <|
 some (.inl (x5 * n0, x1 - (1 : Int)))
 else
 some (.inr x5)
def Mk (n0 : Int) : (Int × Int) → St := fun s => [(5, A.val (Ae s.1)), (0, A.val (Ae (n0))), (1, A.val (Ae s.2))]
def Sx (_n0 : Int) : Int → Tgt
 | s => ((Ex.exit 0), [5], [(5, A.val (Ae s))])
theorem Acf {n0 : Int} (s : (Int × Int)) (o : (Int × Int) ⊕ Int) (h : Cf n0 s = some o) : vc Try.prog Tb (Ef [5, 0, 1] (Mk n0) (Sx n0) o) (Mk n0 s) := by
 obtain ⟨x5, x1⟩ := s
 unfold Cf at h
 try dsimp only at h
 conv => whnf
 refine Br.od h (fun p1 h => ?_) (fun p1 h => ?_)
 ·conv => whnf
  refine Ask.o h fun p2 h => ?_
  conv => whnf
  refine Ask.o h fun p3 h => ?_
  conv => whnf
  cases h; exact ⟨rfl, rfl⟩
 conv => whnf
 cases h; exact ⟨rfl, rfl⟩
noncomputable def Cu (n0 : Int) (k0 : Int) : Option Int :=
 (At (Cf n0) ((1 : Int), k0)).bind fun q4_5 =>
 some q4_5
theorem Id {n0 : Int} {k0 : Int} {v : Int} (h : Cu n0 k0 = some v) : Ret Try.prog Fr [Ae n0, Ae k0] (Ae v) := by
 refine Bm Ahs (Nat.le_of_ble_eq_true rfl) ?_
 unfold Cu at h
 conv => whnf
 refine LoopQ.o [5, 0, 1] (Mk n0) (Sx n0) h (fun s o h => Acf s o h) (by first | rfl | simp [restrict, look, Aa, V.fz, fzL, V.up, upL, Ab, Ac, Ad, slr]) (fun _ => rfl) ?_
 rintro q4_5 h
 try dsimp only at h
 conv => whnf
 cases h; exact (by first | rfl | simp only [Ah, Aa, V.fz, fzL, V.up, upL, Ab, Ac, Ad, slr] | simp [Ah, Aa, V.fz, fzL, V.up, upL, Ab, Ac, Ad, slr])
noncomputable def D0 (a0 : List Int) (b0 : List Int) : Int → Option (Int ⊕ (Unit ⊕ Unit)) := fun x5 =>
 if x5 < (↑a0.length : Int) then
 ask ((0 : Int) ≤ x5 ∧ x5 < (↑a0.length : Int)) <|
 ask ((0 : Int) ≤ x5 ∧ x5 < (↑b0.length : Int)) <|
 if nth a0 x5.toNat ≠ nth b0 x5.toNat then
 some (.inr (.inl ()))
 else
 ask (InI (x5 + (1 : Int))) <|
 some (.inl (x5 + (1 : Int)))
 else
 some (.inr (.inr ()))
def Lg (a0 : List Int) (b0 : List Int) : Int → St := fun s => [(5, A.val (Ae s)), (0, A.val ((slr false 1 Ae) (a0))), (1, A.val ((slr false 1 Ae) (b0)))]
def Qu (_a0 : List Int) (_b0 : List Int) : (Unit ⊕ Unit) → Tgt
 | (.inl _s) => (Ex.ret, [4], [(4, A.val (V.bool (false)))])
 | (.inr _s) => ((Ex.exit 0), [], [])
theorem Z9 {a0 : List Int} {b0 : List Int} (x5 : Int) (o : Int ⊕ (Unit ⊕ Unit)) (h : D0 a0 b0 x5 = some o) : vc Try.prog Rp (Ef [5, 0, 1] (Lg a0 b0) (Qu a0 b0) o) (Lg a0 b0 x5) := by
 unfold D0 at h
 try dsimp only at h
 conv => whnf
 refine Len.map ?_
 conv => whnf
 refine Br.od h (fun p2 h => ?_) (fun p2 h => ?_)
 ·conv => whnf
  refine Len.map ?_
  conv => whnf
  refine Ask.o h fun p3 h => ?_
  conv => whnf
  refine Elem.o (by first | omega | (simp [Bc] at * <;> omega)) ?_
  conv => whnf
  refine Len.map ?_
  conv => whnf
  refine Ask.o h fun p4 h => ?_
  conv => whnf
  refine Elem.o (by first | omega | (simp [Bc] at * <;> omega)) ?_
  conv => whnf
  refine Br.on h (fun p5 h => ?_) (fun p5 h => ?_)
  ·conv => whnf
   cases h; exact ⟨rfl, rfl⟩
  conv => whnf
  refine Ask.o h fun p6 h => ?_
  conv => whnf
  cases h; exact ⟨rfl, rfl⟩
 conv => whnf
 cases h; exact ⟨rfl, rfl⟩
noncomputable def I5 (a0 : (List Int)) (b0 : (List Int)) : Option Bool :=
 if (↑a0.length : Int) ≠ (↑b0.length : Int) then
 some false
 else
 (At (D0 a0 b0) (0 : Int)).bind fun t => match t with
 | (.inl _) => (some false)
 | (.inr _) => (some true)
theorem Afp {a0 : (List Int)} {b0 : (List Int)} {v : Bool} (h : I5 a0 b0 = some v) : Ret Try.prog Qm [(slr false 1 Ae) a0, (slr false 1 Ae) b0] (V.bool v) := by
 refine Bm Af1 (Nat.le_of_ble_eq_true rfl) ?_
 unfold I5 at h
 conv => whnf
 refine Len.map ?_
 conv => whnf
 refine Len.map ?_
 conv => whnf
 refine Br.on h (fun p1 h => ?_) (fun p1 h => ?_)
 ·conv => whnf
  cases h; exact (by first | rfl | simp only [Ah, Aa, V.fz, fzL, V.up, upL, Ab, Ac, Ad, slr] | simp [Ah, Aa, V.fz, fzL, V.up, upL, Ab, Ac, Ad, slr])
 conv => whnf
 refine LoopQ.o [5, 0, 1] (Lg a0 b0) (Qu a0 b0) h (fun s o h => Z9 s o h) (by first | rfl | simp [restrict, look, Aa, V.fz, fzL, V.up, upL, Ab, Ac, Ad, slr]) (by rintro (_ | _) <;> rfl) ?_
 rintro (⟨⟩ | ⟨⟩) h
 ·try dsimp only at h
  conv => whnf
  cases h; exact (by first | rfl | simp only [Ah, Aa, V.fz, fzL, V.up, upL, Ab, Ac, Ad, slr] | simp [Ah, Aa, V.fz, fzL, V.up, upL, Ab, Ac, Ad, slr])
 try dsimp only at h
 conv => whnf
 cases h; exact (by first | rfl | simp only [Ah, Aa, V.fz, fzL, V.up, upL, Ab, Ac, Ad, slr] | simp [Ah, Aa, V.fz, fzL, V.up, upL, Ab, Ac, Ad, slr])
noncomputable def Gv (l0 : (List Int)) : Option (List Int) :=
 ask ((Ar Int).length + (l0).length ≤ LIM) <|
 some (Ar Int ++ l0)
theorem Rz {l0 : (List Int)} {v : (List Int)} (h : Gv l0 = some v) : Ret Try.prog K2 [(slr false 1 Ae) l0] ((slr true 1 Ae) v) := by
 refine Bm Aio (Nat.le_of_ble_eq_true rfl) ?_
 unfold Gv at h
 conv => whnf
 refine BslQ.o Ae (Ar Int) (by exact fun _ => ⟨rfl, rfl⟩) (by first | rfl | simp only [Aa, V.fz, fzL, V.up, upL, Ab, Ac, Ad, slr, List.cons_append, List.nil_append] | simp [Aa, V.fz, fzL, V.up, upL, Ab, Ac, Ad, slr]) ?_
 conv => whnf
 refine AppQ.o (m := 1) Ae (by exact fun _ => ⟨rfl, rfl⟩) (Ar Int) (l0) (by first | rfl | simp only [Aa, V.fz, fzL, V.up, upL, Ab, Ac, Ad, slr, List.cons_append, List.nil_append] | simp [Aa, V.fz, fzL, V.up, upL, Ab, Ac, Ad, slr]) (by first | rfl | simp only [Aa, V.fz, fzL, V.up, upL, Ab, Ac, Ad, slr, List.cons_append, List.nil_append] | simp [Aa, V.fz, fzL, V.up, upL, Ab, Ac, Ad, slr]) h fun h => ?_
 conv => whnf
 cases h; exact (by first | rfl | simp only [Ah, Aa, V.fz, fzL, V.up, upL, Ab, Ac, Ad, slr] | simp [Ah, Aa, V.fz, fzL, V.up, upL, Ab, Ac, Ad, slr])
end Go.Proofs.Ytoaojijoefljaaa.Ax
