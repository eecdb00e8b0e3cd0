/-
 What the functions compute, as functions on plain data, and that the program does compute it; written by program.
-/
import Derived.Test.YtoaojijoefljaaaCode
namespace Go.Proofs.Ytoaojijoefljaaa.Ax
open Go
set_option maxRecDepth 100000
set_option maxHeartbeats 4000000
noncomputable def Ry (code0 : (List Int)) : Option Bool :=
 some (decide ((↑code0.length : Int) > (65536 : Int)))
theorem Anr {code0 : (List Int)} {v : Bool} (h : Ry code0 = some v) : Ret Try.prog Xt [(slr false 1 (V.int IntKind.u8)) code0] (V.bool v) := by
 refine Bg Ant (Nat.le_of_ble_eq_true rfl) ?_
 unfold Ry at h
 conv => whnf
 refine Len.map ?_
 conv => whnf
 cases h; exact (by rfl)
noncomputable def Cd (a0 : List Int) (b0 : List Int) : Int → Option (Int ⊕ (Unit ⊕ Unit)) := fun x5 =>
 if x5 < (↑a0.length : Int) then
 ask ((0 : Int) ≤ x5 ∧ x5 < (↑a0.length : Int)) <|
 ask ((0 : Int) ≤ x5 ∧ x5 < (↑b0.length : Int)) <|
 if nth a0 x5.toNat ≠ nth b0 x5.toNat then
 some (.inr (.inl ()))
 else
 ask (InI (x5 + (1 : Int))) <|
 some (.inl (x5 + (1 : Int)))
 else
 some (.inr (.inr ()))
def Oa (a0 : List Int) (b0 : List Int) : Int → St := fun s => [(5, A.val (Ae s)), (0, A.val ((slr false 1 Ae) (a0))), (1, A.val ((slr false 1 Ae) (b0)))]
def Vk (_a0 : List Int) (_b0 : List Int) : (Unit ⊕ Unit) → Tgt
 | (.inl _s) => (Ex.ret, [4], [(4, A.val (V.bool (false)))])
 | (.inr _s) => ((Ex.exit 0), [], [])
theorem Ae3 {a0 : List Int} {b0 : List Int} (x5 : Int) (o : Int ⊕ (Unit ⊕ Unit)) (h : Cd a0 b0 x5 = some o) : vc Try.prog Vc (Dy [5, 0, 1] (Oa a0 b0) (Vk a0 b0) o) (Oa a0 b0 x5) := by
 unfold Cd at h
 try dsimp only at h
 conv => whnf
 refine Len.map ?_
 conv => whnf
 refine Br.od h (fun p2 h => ?_) (fun p2 h => ?_)
 ·conv => whnf
  refine Len.map ?_
  conv => whnf
  refine Ask.o h fun p3 h => ?_
  conv => whnf
  refine Elem.o (by first | omega | (simp [Bh] at * <;> omega)) ?_
  conv => whnf
  refine Len.map ?_
  conv => whnf
  refine Ask.o h fun p4 h => ?_
  conv => whnf
  refine Elem.o (by first | omega | (simp [Bh] at * <;> omega)) ?_
  conv => whnf
  refine Br.on h (fun p5 h => ?_) (fun p5 h => ?_)
  ·conv => whnf
   cases h; exact ⟨rfl, rfl⟩
  conv => whnf
  refine Ask.o h fun p6 h => ?_
  conv => whnf
  cases h; exact ⟨rfl, rfl⟩
 conv => whnf
 cases h; exact ⟨rfl, rfl⟩
noncomputable def Gn (a0 : (List Int)) (b0 : (List Int)) : Option Bool :=
 if (↑a0.length : Int) ≠ (↑b0.length : Int) then
 some false
 else
 (Ar (Cd a0 b0) (0 : Int)).bind fun t => match t with
 | (.inl _) => (some false)
 | (.inr _) => (some true)
theorem Abi {a0 : (List Int)} {b0 : (List Int)} {v : Bool} (h : Gn a0 b0 = some v) : Ret Try.prog Oy [(slr false 1 Ae) a0, (slr false 1 Ae) b0] (V.bool v) := by
 refine Bg Aki (Nat.le_of_ble_eq_true rfl) ?_
 unfold Gn at h
 conv => whnf
 refine Len.map ?_
 conv => whnf
 refine Len.map ?_
 conv => whnf
 refine Br.on h (fun p1 h => ?_) (fun p1 h => ?_)
 ·conv => whnf
  cases h; exact (by rfl)
 conv => whnf
 refine LoopQ.o [5, 0, 1] (Oa a0 b0) (Vk a0 b0) h (fun s o h => Ae3 s o h) (by rfl) (by rintro (_ | _) <;> rfl) ?_
 rintro (⟨⟩ | ⟨⟩) h
 ·try dsimp only at h
  conv => whnf
  cases h; exact (by rfl)
 try dsimp only at h
 conv => whnf
 cases h; exact (by rfl)
noncomputable def Es (list0 : List Int) (x0 : Int) : Int → Option (Int ⊕ (Unit ⊕ Unit)) := fun x5 =>
 if x5 < (↑list0.length : Int) then
 ask ((0 : Int) ≤ x5 ∧ x5 < (↑list0.length : Int)) <|
 if nth list0 x5.toNat = x0 then
 some (.inr (.inl ()))
 else
 ask (InI (x5 + (1 : Int))) <|
 some (.inl (x5 + (1 : Int)))
 else
 some (.inr (.inr ()))
def Pz (list0 : List Int) (x0 : Int) : Int → St := fun s => [(5, A.val (Ae s)), (0, A.val ((slr false 1 Ae) (list0))), (1, A.val (Ae (x0)))]
def Xk (_list0 : List Int) (_x0 : Int) : (Unit ⊕ Unit) → Tgt
 | (.inl _s) => (Ex.ret, [4], [(4, A.val (V.bool (true)))])
 | (.inr _s) => ((Ex.exit 0), [], [])
theorem Afz {list0 : List Int} {x0 : Int} (x5 : Int) (o : Int ⊕ (Unit ⊕ Unit)) (h : Es list0 x0 x5 = some o) : vc Try.prog Wy (Dy [5, 0, 1] (Pz list0 x0) (Xk list0 x0) o) (Pz list0 x0 x5) := by
 unfold Es at h
 try dsimp only at h
 conv => whnf
 refine Len.map ?_
 conv => whnf
 refine Br.od h (fun p1 h => ?_) (fun p1 h => ?_)
 ·conv => whnf
  refine Len.map ?_
  conv => whnf
  refine Ask.o h fun p2 h => ?_
  conv => whnf
  refine Elem.o (by first | omega | (simp [Bh] at * <;> omega)) ?_
  conv => whnf
  refine Br.oe h (fun p3 h => ?_) (fun p3 h => ?_)
  ·conv => whnf
   cases h; exact ⟨rfl, rfl⟩
  conv => whnf
  refine Ask.o h fun p4 h => ?_
  conv => whnf
  cases h; exact ⟨rfl, rfl⟩
 conv => whnf
 cases h; exact ⟨rfl, rfl⟩
noncomputable def N0 (list0 : (List Int)) (x0 : Int) : Option Bool :=
 (Ar (Es list0 x0) (0 : Int)).bind fun t => match t with
 | (.inl _) => (some true)
 | (.inr _) => (some false)
theorem Ans {list0 : (List Int)} {x0 : Int} {v : Bool} (h : N0 list0 x0 = some v) : Ret Try.prog Xd [(slr false 1 Ae) list0, Ae x0] (V.bool v) := by
 refine Bg Ane (Nat.le_of_ble_eq_true rfl) ?_
 unfold N0 at h
 conv => whnf
 refine LoopQ.o [5, 0, 1] (Pz list0 x0) (Xk list0 x0) h (fun s o h => Afz s o h) (by rfl) (by rintro (_ | _) <;> rfl) ?_
 rintro (⟨⟩ | ⟨⟩) h
 ·try dsimp only at h
  conv => whnf
  cases h; exact (by rfl)
 try dsimp only at h
 conv => whnf
 cases h; exact (by rfl)
noncomputable def E6 (list0 : List Int) : (Int × (List Int)) → Option ((Int × (List Int)) ⊕ (List Int)) := fun (x12, x3) =>
 if x12 < (↑list0.length : Int) then
 ask ((0 : Int) ≤ x12 ∧ x12 < (↑list0.length : Int)) <|
 ask ((x3).length + ([IntKind.u8.wrap ((nth list0 x12.toNat).fdiv ((2 : Int) ^ min (Int.toNat (8 : Int)) IntKind.i64.bits)), IntKind.u8.wrap (nth list0 x12.toNat)]).length ≤ LIM) <|
 ask (InI (x12 + (1 : Int))) <|
 some (.inl (x12 + (1 : Int), x3 ++ [IntKind.u8.wrap ((nth list0 x12.toNat).fdiv ((2 : Int) ^ min (Int.toNat (8 : Int)) IntKind.i64.bits)), IntKind.u8.wrap (nth list0 x12.toNat)]))
 else
 some (.inr x3)
def N5 (list0 : List Int) : (Int × (List Int)) → St := fun s => [(12, A.val (Ae s.1)), (11, A.val (Ae ((↑list0.length : Int)))), (10, A.val ((slr false 1 Ae) (list0))), (3, A.val ((slr true 1 (V.int IntKind.u8)) s.2))]
def Vt (_list0 : List Int) : (List Int) → Tgt
 | s => ((Ex.exit 0), [3], [(3, A.val ((slr true 1 (V.int IntKind.u8)) s))])
theorem Ae7 {list0 : List Int} (s : (Int × (List Int))) (o : (Int × (List Int)) ⊕ (List Int)) (h : E6 list0 s = some o) : vc Try.prog Vu (Dy [12, 11, 10, 3] (N5 list0) (Vt list0) o) (N5 list0 s) := by
 obtain ⟨x12, x3⟩ := s
 unfold E6 at h
 try dsimp only at h
 conv => whnf
 refine Br.od h (fun p3 h => ?_) (fun p3 h => ?_)
 ·conv => whnf
  refine Len.map ?_
  conv => whnf
  refine Ask.o h fun p4 h => ?_
  conv => whnf
  refine Elem.o (by first | omega | (simp [Bh] at * <;> omega)) ?_
  conv => whnf
  refine BslQ.o (V.int IntKind.u8) ([IntKind.u8.wrap ((nth list0 x12.toNat).fdiv ((2 : Int) ^ min (Int.toNat (8 : Int)) IntKind.i64.bits)), IntKind.u8.wrap (nth list0 x12.toNat)]) (by exact fun _ => ⟨rfl, rfl⟩) (by rfl) ?_
  conv => whnf
  refine NoOwn.o (fun _ => rfl) ?_
  conv => whnf
  refine AppQ.o (m := 1) (V.int IntKind.u8) (by exact fun _ => ⟨rfl, rfl⟩) (x3) ([IntKind.u8.wrap ((nth list0 x12.toNat).fdiv ((2 : Int) ^ min (Int.toNat (8 : Int)) IntKind.i64.bits)), IntKind.u8.wrap (nth list0 x12.toNat)]) (by rfl) (by rfl) h fun h => ?_
  conv => whnf
  refine Ask.o h fun p5 h => ?_
  conv => whnf
  cases h; exact ⟨rfl, rfl⟩
 conv => whnf
 cases h; exact ⟨rfl, rfl⟩
noncomputable def Jo (list0 : (List Int)) : Option ByteArray :=
 ask (InI ((2 : Int) * (↑list0.length : Int))) <|
 ask ((0 : Int) ≤ (2 : Int) * (↑list0.length : Int) ∧ (2 : Int) * (↑list0.length : Int) ≤ (↑LIM : Int)) <|
 (Ar (E6 list0) ((0 : Int), Ao Int)).bind fun q6_3 =>
 some (Vp q6_3)
theorem Aa3 {list0 : (List Int)} {v : ByteArray} (h : Jo list0 = some v) : Ret Try.prog O9 [(slr false 1 Ae) list0] (V.str v) := by
 refine Bg Amb (Nat.le_of_ble_eq_true rfl) ?_
 unfold Jo at h
 conv => whnf
 refine Len.map ?_
 conv => whnf
 refine Ask.o h fun p1 h => ?_
 conv => whnf
 refine Ask.o h fun p2 h => ?_
 conv => whnf
 refine Len.map ?_
 conv => whnf
 refine LoopQ.o [12, 11, 10, 3] (N5 list0) (Vt list0) h (fun s o h => Ae7 s o h) (by rfl) (fun _ => rfl) ?_
 rintro q6_3 h
 try dsimp only at h
 conv => whnf
 refine BsQ.o q6_3 (by rfl) ?_
 conv => whnf
 cases h; exact (by rfl)
noncomputable def Dc (a0 : List Int) (b0 : List Int) : Int → Option (Int ⊕ (Unit ⊕ Unit)) := fun x14 =>
 if x14 < (↑a0.length : Int) then
 ask ((0 : Int) ≤ x14 ∧ x14 < (↑a0.length : Int)) <|
 ask ((0 : Int) ≤ x14 ∧ x14 < (↑b0.length : Int)) <|
 if nth b0 x14.toNat ≠ nth a0 x14.toNat then
 some (.inr (.inl ()))
 else
 ask (InI (x14 + (1 : Int))) <|
 some (.inl (x14 + (1 : Int)))
 else
 some (.inr (.inr ()))
def Ky (a0 : List Int) (b0 : List Int) : Int → St := fun s => [(14, A.val (Ae s)), (13, A.val (Ae ((↑a0.length : Int)))), (12, A.val ((slr false 1 Ae) (a0))), (1, A.val ((slr false 1 Ae) (b0)))]
def Qg (_a0 : List Int) (_b0 : List Int) : (Unit ⊕ Unit) → Tgt
 | (.inl _s) => (Ex.ret, [4], [(4, A.val (V.bool (false)))])
 | (.inr _s) => ((Ex.exit 0), [], [])
theorem Zs {a0 : List Int} {b0 : List Int} (x14 : Int) (o : Int ⊕ (Unit ⊕ Unit)) (h : Dc a0 b0 x14 = some o) : vc Try.prog P3 (Dy [14, 13, 12, 1] (Ky a0 b0) (Qg a0 b0) o) (Ky a0 b0 x14) := by
 unfold Dc at h
 try dsimp only at h
 conv => whnf
 refine Br.od h (fun p2 h => ?_) (fun p2 h => ?_)
 ·conv => whnf
  refine Len.map ?_
  conv => whnf
  refine Ask.o h fun p3 h => ?_
  conv => whnf
  refine Elem.o (by first | omega | (simp [Bh] at * <;> omega)) ?_
  conv => whnf
  refine Len.map ?_
  conv => whnf
  refine Ask.o h fun p4 h => ?_
  conv => whnf
  refine Elem.o (by first | omega | (simp [Bh] at * <;> omega)) ?_
  conv => whnf
  refine Br.on h (fun p5 h => ?_) (fun p5 h => ?_)
  ·conv => whnf
   cases h; exact ⟨rfl, rfl⟩
  conv => whnf
  refine Ask.o h fun p6 h => ?_
  conv => whnf
  cases h; exact ⟨rfl, rfl⟩
 conv => whnf
 cases h; exact ⟨rfl, rfl⟩
noncomputable def H7 (a0 : (List Int)) (b0 : (List Int)) : Option Bool :=
 if (↑a0.length : Int) ≠ (↑b0.length : Int) then
 some false
 else
 (Ar (Dc a0 b0) (0 : Int)).bind fun t => match t with
 | (.inl _) => (some false)
 | (.inr _) => (some true)
theorem Ae6 {a0 : (List Int)} {b0 : (List Int)} {v : Bool} (h : H7 a0 b0 = some v) : Ret Try.prog Oh [(slr false 1 Ae) a0, (slr false 1 Ae) b0] (V.bool v) := by
 refine Bg Aeo (Nat.le_of_ble_eq_true rfl) ?_
 unfold H7 at h
 conv => whnf
 refine Len.map ?_
 conv => whnf
 refine Len.map ?_
 conv => whnf
 refine Br.on h (fun p1 h => ?_) (fun p1 h => ?_)
 ·conv => whnf
  cases h; exact (by rfl)
 conv => whnf
 refine Len.map ?_
 conv => whnf
 refine LoopQ.o [14, 13, 12, 1] (Ky a0 b0) (Qg a0 b0) h (fun s o h => Zs s o h) (by rfl) (by rintro (_ | _) <;> rfl) ?_
 rintro (⟨⟩ | ⟨⟩) h
 ·try dsimp only at h
  conv => whnf
  cases h; exact (by rfl)
 try dsimp only at h
 conv => whnf
 cases h; exact (by rfl)
noncomputable def Cn (n0 : Int) : (Int × Int) → Option ((Int × Int) ⊕ Int) := fun (x5, x1) =>
 if x1 > (0 : Int) then
 ask (InI (x5 * n0)) <|
 ask (InI (x1 - (1 : Int))) <|
 some (.inl (x5 * n0, x1 - (1 : Int)))
 else
 some (.inr x5)
def Od (n0 : Int) : (Int × Int) → St := fun s => [(5, A.val (Ae s.1)), (0, A.val (Ae (n0))), (1, A.val (Ae s.2))]
def Vo (_n0 : Int) : Int → Tgt
 | s => ((Ex.exit 0), [5], [(5, A.val (Ae s))])
theorem Afg {n0 : Int} (s : (Int × Int)) (o : (Int × Int) ⊕ Int) (h : Cn n0 s = some o) : vc Try.prog Vg (Dy [5, 0, 1] (Od n0) (Vo n0) o) (Od n0 s) := by
 obtain ⟨x5, x1⟩ := s
 unfold Cn at h
 try dsimp only at h
 conv => whnf
 refine Br.od h (fun p1 h => ?_) (fun p1 h => ?_)
 ·conv => whnf
  refine Ask.o h fun p2 h => ?_
  conv => whnf
  refine Ask.o h fun p3 h => ?_
  conv => whnf
  cases h; exact ⟨rfl, rfl⟩
 conv => whnf
 cases h; exact ⟨rfl, rfl⟩
noncomputable def Ck (n0 : Int) (k0 : Int) : Option Int :=
 (Ar (Cn n0) ((1 : Int), k0)).bind fun q4_5 =>
 some q4_5
theorem Gq {n0 : Int} {k0 : Int} {v : Int} (h : Ck n0 k0 = some v) : Ret Try.prog Eo [Ae n0, Ae k0] (Ae v) := by
 refine Bg Akx (Nat.le_of_ble_eq_true rfl) ?_
 unfold Ck at h
 conv => whnf
 refine LoopQ.o [5, 0, 1] (Od n0) (Vo n0) h (fun s o h => Afg s o h) (by rfl) (fun _ => rfl) ?_
 rintro q4_5 h
 try dsimp only at h
 conv => whnf
 cases h; exact (by rfl)
noncomputable def Mk (n0 : Int) : (Int × (List Int) × Int) → Option ((Int × (List Int) × Int) ⊕ (List Int)) := fun (x8, x7, x0) =>
 if x8 ≥ (0 : Int) then
 ask (n0 ≠ (0 : Int)) <|
 ask ((0 : Int) ≤ x8 ∧ x8 < (↑x7.length : Int)) <|
 ask (n0 ≠ (0 : Int) ∧ InI (x0.tdiv n0)) <|
 ask (InI (x8 - (1 : Int))) <|
 some (.inl (x8 - (1 : Int), x7.set x8.toNat (x0.tmod n0), x0.tdiv n0))
 else
 some (.inr x7)
def Mx (n0 : Int) : (Int × (List Int) × Int) → St := fun s => [(8, A.val (Ae s.1)), (7, A.val ((slr true 1 Ae) s.2.1)), (0, A.val (Ae s.2.2)), (2, A.val (Ae (n0)))]
def Tt (_n0 : Int) : (List Int) → Tgt
 | s => ((Ex.exit 0), [7], [(7, A.val ((slr true 1 Ae) s))])
theorem Acm {n0 : Int} (s : (Int × (List Int) × Int)) (o : (Int × (List Int) × Int) ⊕ (List Int)) (h : Mk n0 s = some o) : vc Try.prog Th (Dy [8, 7, 0, 2] (Mx n0) (Tt n0) o) (Mx n0 s) := by
 obtain ⟨x8, x7, x0⟩ := s
 unfold Mk at h
 try dsimp only at h
 conv => whnf
 refine Br.od h (fun p3 h => ?_) (fun p3 h => ?_)
 ·conv => whnf
  refine Ask.o h fun p4 h => ?_
  conv => whnf
  refine Len.map ?_
  conv => whnf
  refine Ask.o h fun p5 h => ?_
  conv => whnf
  refine SetKids.one (fun _ => ⟨rfl, rfl⟩) (x0.tmod n0) (by rfl) (by first | omega | (simp [Bh] at * <;> omega)) ?_
  conv => whnf
  refine Ask.o h fun p6 h => ?_
  conv => whnf
  refine Ask.o h fun p7 h => ?_
  conv => whnf
  cases h; exact ⟨rfl, rfl⟩
 conv => whnf
 cases h; exact ⟨rfl, rfl⟩
noncomputable def Gw (i0 : Int) (k0 : Int) (n0 : Int) : Option (List Int) :=
 ask ((0 : Int) ≤ k0 ∧ k0 ≤ (↑LIM : Int)) <|
 ask (InI (k0 - (1 : Int))) <|
 (Ar (Mk n0) (k0 - (1 : Int), List.replicate k0.toNat (0 : Int), i0)).bind fun q8_7 =>
 some q8_7
theorem Sx {i0 : Int} {k0 : Int} {n0 : Int} {v : (List Int)} (h : Gw i0 k0 n0 = some v) : Ret Try.prog Kl [Ae i0, Ae k0, Ae n0] ((slr true 1 Ae) v) := by
 refine Bg Aiu (Nat.le_of_ble_eq_true rfl) ?_
 unfold Gw at h
 conv => whnf
 refine Ask.o h fun p1 h => ?_
 conv => whnf
 refine MkQ.o Ae ((0 : Int)) rfl ?_
 conv => whnf
 refine Ask.o h fun p2 h => ?_
 conv => whnf
 refine LoopQ.o [8, 7, 0, 2] (Mx n0) (Tt n0) h (fun s o h => Acm s o h) (by rfl) (fun _ => rfl) ?_
 rintro q8_7 h
 try dsimp only at h
 conv => whnf
 cases h; exact (by rfl)
noncomputable def Cf (n0 : Int) (_f0 : SOp) (tables0 : List (List Int)) (_places0 : Int) (x18 : Int) (_x9 : List Int) : (Int × Int) → Option ((Int × Int) ⊕ Int) := fun (x23, x11) =>
 if x23 < (↑tables0.length : Int) then
 ask ((0 : Int) ≤ x23 ∧ x23 < (↑tables0.length : Int)) <|
 ask (InI (x11 * n0)) <|
 ask ((0 : Int) ≤ x18 ∧ x18 < (↑(nth tables0 x23.toNat).length : Int)) <|
 ask (InI (x11 * n0 + nth (nth tables0 x23.toNat) x18.toNat)) <|
 ask (InI (x23 + (1 : Int))) <|
 some (.inl (x23 + (1 : Int), x11 * n0 + nth (nth tables0 x23.toNat) x18.toNat))
 else
 some (.inr x11)
def Hg (n0 : Int) (f0 : SOp) (tables0 : List (List Int)) (places0 : Int) (x18 : Int) (x9 : List Int) : (Int × Int) → St := fun s => [(23, A.val (Ae s.1)), (22, A.val (Ae ((↑tables0.length : Int)))), (21, A.val ((slr false 1 (slr false 1 Ae)) (tables0))), (11, A.val (Ae s.2)), (10, A.val (Ae (x18))), (18, A.val (Ae (x18))), (17, A.val (Ae ((↑places0.toNat : Int)))), (9, A.val ((slr true 1 Ae) (x9))), (5, A.val ((rP true (Ai false)) (f0))), (0, A.val (Ae (n0))), (2, A.val ((slr false 1 (slr false 1 Ae)) (tables0)))]
def K7 (n0 : Int) (f0 : SOp) (tables0 : List (List Int)) (places0 : Int) (x18 : Int) (x9 : List Int) : Int → Tgt
 | s => ((Ex.exit 2), [11, 10, 18, 17, 9, 5, 0, 2], [(11, A.val (Ae s)), (10, A.val (Ae (x18))), (18, A.val (Ae (x18))), (17, A.val (Ae ((↑places0.toNat : Int)))), (9, A.val ((slr true 1 Ae) (x9))), (5, A.val ((rP true (Ai false)) (f0))), (0, A.val (Ae (n0))), (2, A.val ((slr false 1 (slr false 1 Ae)) (tables0)))])
theorem Ti {n0 : Int} {f0 : SOp} {tables0 : List (List Int)} {places0 : Int} {x18 : Int} {x9 : List Int} (s : (Int × Int)) (o : (Int × Int) ⊕ Int) (h : Cf n0 f0 tables0 places0 x18 x9 s = some o) : vc Try.prog K3 (Dy [23, 22, 21, 11, 10, 18, 17, 9, 5, 0, 2] (Hg n0 f0 tables0 places0 x18 x9) (K7 n0 f0 tables0 places0 x18 x9) o) (Hg n0 f0 tables0 places0 x18 x9 s) := by
 obtain ⟨x23, x11⟩ := s
 unfold Cf at h
 try dsimp only at h
 conv => whnf
 refine Br.od h (fun p3 h => ?_) (fun p3 h => ?_)
 ·conv => whnf
  refine Len.map ?_
  conv => whnf
  refine Ask.o h fun p4 h => ?_
  conv => whnf
  refine Elem.o (by first | omega | (simp [Bh] at * <;> omega)) ?_
  conv => whnf
  refine Ask.o h fun p5 h => ?_
  conv => whnf
  refine Len.map ?_
  conv => whnf
  refine Ask.o h fun p6 h => ?_
  conv => whnf
  refine Elem.o (by first | omega | (simp [Bh] at * <;> omega)) ?_
  conv => whnf
  refine Ask.o h fun p7 h => ?_
  conv => whnf
  refine Ask.o h fun p8 h => ?_
  conv => whnf
  cases h; exact ⟨rfl, rfl⟩
 conv => whnf
 cases h; exact ⟨rfl, rfl⟩
noncomputable def Ce (n0 : Int) (f0 : SOp) (tables0 : List (List Int)) (places0 : Int) : (Int × (List Int)) → Option ((Int × (List Int)) ⊕ (List Int)) := fun (x18, x9) =>
 if x18 < (↑places0.toNat : Int) then
 (Ar (Cf n0 f0 tables0 places0 x18 x9) ((0 : Int), (0 : Int))).bind fun q9_11 =>
 ask ((0 : Int) ≤ q9_11 ∧ q9_11 < (↑f0.Table.length : Int)) <|
 ask ((0 : Int) ≤ x18 ∧ x18 < (↑x9.length : Int)) <|
 ask (InI (x18 + (1 : Int))) <|
 some (.inl (x18 + (1 : Int), x9.set x18.toNat (nth f0.Table q9_11.toNat)))
 else
 some (.inr x9)
def Hc (n0 : Int) (f0 : SOp) (tables0 : List (List Int)) (places0 : Int) : (Int × (List Int)) → St := fun s => [(18, A.val (Ae s.1)), (17, A.val (Ae ((↑places0.toNat : Int)))), (9, A.val ((slr true 1 Ae) s.2)), (5, A.val ((rP true (Ai false)) (f0))), (0, A.val (Ae (n0))), (2, A.val ((slr false 1 (slr false 1 Ae)) (tables0)))]
def Lb (_n0 : Int) (_f0 : SOp) (_tables0 : List (List Int)) (_places0 : Int) : (List Int) → Tgt
 | s => ((Ex.exit 0), [9], [(9, A.val ((slr true 1 Ae) s))])
theorem Tp {n0 : Int} {f0 : SOp} {tables0 : List (List Int)} {places0 : Int} (s : (Int × (List Int))) (o : (Int × (List Int)) ⊕ (List Int)) (h : Ce n0 f0 tables0 places0 s = some o) : vc Try.prog Lh (Dy [18, 17, 9, 5, 0, 2] (Hc n0 f0 tables0 places0) (Lb n0 f0 tables0 places0) o) (Hc n0 f0 tables0 places0 s) := by
 obtain ⟨x18, x9⟩ := s
 unfold Ce at h
 try dsimp only at h
 conv => whnf
 refine Br.od h (fun p2 h => ?_) (fun p2 h => ?_)
 ·conv => whnf
  refine Len.map ?_
  conv => whnf
  refine LoopQ.o [23, 22, 21, 11, 10, 18, 17, 9, 5, 0, 2] (Hg n0 f0 tables0 places0 x18 x9) (K7 n0 f0 tables0 places0 x18 x9) h (fun s o h => Ti s o h) (by rfl) (fun _ => rfl) ?_
  rintro q9_11 h
  try dsimp only at h
  conv => whnf
  refine Cells.lit rfl rfl ?_
  conv => whnf
  refine Len.map ?_
  conv => whnf
  refine Ask.o h fun p10 h => ?_
  conv => whnf
  refine Elem.o (by first | omega | (simp [Bh] at * <;> omega)) ?_
  conv => whnf
  refine Len.map ?_
  conv => whnf
  refine Ask.o h fun p11 h => ?_
  conv => whnf
  refine SetKids.one (fun _ => ⟨rfl, rfl⟩) (nth f0.Table q9_11.toNat) (by rfl) (by first | omega | (simp [Bh] at * <;> omega)) ?_
  conv => whnf
  refine Ask.o h fun p12 h => ?_
  conv => whnf
  cases h; exact ⟨rfl, rfl⟩
 conv => whnf
 cases h; exact ⟨rfl, rfl⟩
noncomputable def Dh (n0 : Int) (f0 : SOp) (tables0 : (List (List Int))) (places0 : Int) : Option (List Int) :=
 ask ((0 : Int) ≤ places0 ∧ places0 ≤ (↑LIM : Int)) <|
 (Ar (Ce n0 f0 tables0 places0) ((0 : Int), List.replicate places0.toNat (0 : Int))).bind fun q13_9 =>
 some q13_9
theorem Nc {n0 : Int} {f0 : SOp} {tables0 : (List (List Int))} {places0 : Int} {v : (List Int)} (h : Dh n0 f0 tables0 places0 = some v) : Ret Try.prog Gu [Ae n0, (Ai false) f0, (slr false 1 (slr false 1 Ae)) tables0, Ae places0] ((slr true 1 Ae) v) := by
 refine Bg Xy (Nat.le_of_ble_eq_true rfl) ?_
 unfold Dh at h
 conv => whnf
 refine Ask.o h fun p1 h => ?_
 conv => whnf
 refine MkQ.o Ae ((0 : Int)) rfl ?_
 conv => whnf
 refine Len.mrep ?_
 conv => whnf
 refine LoopQ.o [18, 17, 9, 5, 0, 2] (Hc n0 f0 tables0 places0) (Lb n0 f0 tables0 places0) h (fun s o h => Tp s o h) (by rfl) (fun _ => rfl) ?_
 rintro q13_9 h
 try dsimp only at h
 conv => whnf
 cases h; exact (by rfl)
noncomputable def En (n0 : Int) : Option Bool :=
 if n0 ≥ (1 : Int) then
 some (decide (n0 ≤ (8 : Int)))
 else
 some false
theorem M5 {n0 : Int} {v : Bool} (h : En n0 = some v) : Ret Try.prog Ih [Ae n0] (V.bool v) := by
 refine Bg Ail (Nat.le_of_ble_eq_true rfl) ?_
 unfold En at h
 conv => whnf
 refine Br.od h (fun p1 h => ?_) (fun p1 h => ?_)
 ·conv => whnf
  refine Br.yes ?_
  conv => whnf
  refine Br.yes ?_
  conv => whnf
  cases h; exact (by rfl)
 conv => whnf
 refine Br.no ?_
 conv => whnf
 refine Br.no ?_
 conv => whnf
 cases h; exact (by rfl)
noncomputable def Cv (n0 : Int) (_f0 : SOp) (tables0 : List (List Int)) (_size0 : Int) (x10 : Int) (_x9 : List Int) : (Int × Int) → Option ((Int × Int) ⊕ Int) := fun (x12, x11) =>
 if x12 < (↑tables0.length : Int) then
 ask (InI (x11 * n0)) <|
 ask ((0 : Int) ≤ x12 ∧ x12 < (↑tables0.length : Int)) <|
 ask ((0 : Int) ≤ x10 ∧ x10 < (↑(nth tables0 x12.toNat).length : Int)) <|
 ask (InI (x11 * n0 + nth (nth tables0 x12.toNat) x10.toNat)) <|
 ask (InI (x12 + (1 : Int))) <|
 some (.inl (x12 + (1 : Int), x11 * n0 + nth (nth tables0 x12.toNat) x10.toNat))
 else
 some (.inr x11)
def Is (n0 : Int) (f0 : SOp) (tables0 : List (List Int)) (size0 : Int) (x10 : Int) (x9 : List Int) : (Int × Int) → St := fun s => [(12, A.val (Ae s.1)), (11, A.val (Ae s.2)), (10, A.val (Ae (x10))), (9, A.val ((slr true 1 Ae) (x9))), (5, A.val ((rP true (Ai false)) (f0))), (0, A.val (Ae (n0))), (2, A.val ((slr false 1 (slr false 1 Ae)) (tables0))), (3, A.val (Ae (size0)))]
def Nn (n0 : Int) (f0 : SOp) (tables0 : List (List Int)) (size0 : Int) (x10 : Int) (x9 : List Int) : Int → Tgt
 | s => ((Ex.exit 2), [11, 10, 9, 5, 0, 2, 3], [(11, A.val (Ae s)), (10, A.val (Ae (x10))), (9, A.val ((slr true 1 Ae) (x9))), (5, A.val ((rP true (Ai false)) (f0))), (0, A.val (Ae (n0))), (2, A.val ((slr false 1 (slr false 1 Ae)) (tables0))), (3, A.val (Ae (size0)))])
theorem Ws {n0 : Int} {f0 : SOp} {tables0 : List (List Int)} {size0 : Int} {x10 : Int} {x9 : List Int} (s : (Int × Int)) (o : (Int × Int) ⊕ Int) (h : Cv n0 f0 tables0 size0 x10 x9 s = some o) : vc Try.prog Nh (Dy [12, 11, 10, 9, 5, 0, 2, 3] (Is n0 f0 tables0 size0 x10 x9) (Nn n0 f0 tables0 size0 x10 x9) o) (Is n0 f0 tables0 size0 x10 x9 s) := by
 obtain ⟨x12, x11⟩ := s
 unfold Cv at h
 try dsimp only at h
 conv => whnf
 refine Len.map ?_
 conv => whnf
 refine Br.od h (fun p2 h => ?_) (fun p2 h => ?_)
 ·conv => whnf
  refine Ask.o h fun p3 h => ?_
  conv => whnf
  refine Len.map ?_
  conv => whnf
  refine Ask.o h fun p4 h => ?_
  conv => whnf
  refine Elem.o (by first | omega | (simp [Bh] at * <;> omega)) ?_
  conv => whnf
  refine Len.map ?_
  conv => whnf
  refine Ask.o h fun p5 h => ?_
  conv => whnf
  refine Elem.o (by first | omega | (simp [Bh] at * <;> omega)) ?_
  conv => whnf
  refine Ask.o h fun p6 h => ?_
  conv => whnf
  refine Ask.o h fun p7 h => ?_
  conv => whnf
  cases h; exact ⟨rfl, rfl⟩
 conv => whnf
 cases h; exact ⟨rfl, rfl⟩
noncomputable def Cu (n0 : Int) (f0 : SOp) (tables0 : List (List Int)) (size0 : Int) : (Int × (List Int)) → Option ((Int × (List Int)) ⊕ (List Int)) := fun (x10, x9) =>
 if x10 < size0 then
 (Ar (Cv n0 f0 tables0 size0 x10 x9) ((0 : Int), (0 : Int))).bind fun q8_11 =>
 ask ((0 : Int) ≤ q8_11 ∧ q8_11 < (↑f0.Table.length : Int)) <|
 ask ((x9).length + ([nth f0.Table q8_11.toNat]).length ≤ LIM) <|
 ask (InI (x10 + (1 : Int))) <|
 some (.inl (x10 + (1 : Int), x9 ++ [nth f0.Table q8_11.toNat]))
 else
 some (.inr x9)
def Ix (n0 : Int) (f0 : SOp) (tables0 : List (List Int)) (size0 : Int) : (Int × (List Int)) → St := fun s => [(10, A.val (Ae s.1)), (9, A.val ((slr true 1 Ae) s.2)), (5, A.val ((rP true (Ai false)) (f0))), (0, A.val (Ae (n0))), (2, A.val ((slr false 1 (slr false 1 Ae)) (tables0))), (3, A.val (Ae (size0)))]
def Nu (_n0 : Int) (_f0 : SOp) (_tables0 : List (List Int)) (_size0 : Int) : (List Int) → Tgt
 | s => ((Ex.exit 0), [9], [(9, A.val ((slr true 1 Ae) s))])
theorem W0 {n0 : Int} {f0 : SOp} {tables0 : List (List Int)} {size0 : Int} (s : (Int × (List Int))) (o : (Int × (List Int)) ⊕ (List Int)) (h : Cu n0 f0 tables0 size0 s = some o) : vc Try.prog N1 (Dy [10, 9, 5, 0, 2, 3] (Ix n0 f0 tables0 size0) (Nu n0 f0 tables0 size0) o) (Ix n0 f0 tables0 size0 s) := by
 obtain ⟨x10, x9⟩ := s
 unfold Cu at h
 try dsimp only at h
 conv => whnf
 refine Br.od h (fun p1 h => ?_) (fun p1 h => ?_)
 ·conv => whnf
  refine LoopQ.o [12, 11, 10, 9, 5, 0, 2, 3] (Is n0 f0 tables0 size0 x10 x9) (Nn n0 f0 tables0 size0 x10 x9) h (fun s o h => Ws s o h) (by rfl) (fun _ => rfl) ?_
  rintro q8_11 h
  try dsimp only at h
  conv => whnf
  refine Cells.lit rfl rfl ?_
  conv => whnf
  refine Len.map ?_
  conv => whnf
  refine Ask.o h fun p9 h => ?_
  conv => whnf
  refine Elem.o (by first | omega | (simp [Bh] at * <;> omega)) ?_
  conv => whnf
  refine BslQ.o Ae ([nth f0.Table q8_11.toNat]) (by exact fun _ => ⟨rfl, rfl⟩) (by rfl) ?_
  conv => whnf
  refine NoOwn.o (fun _ => rfl) ?_
  conv => whnf
  refine AppQ.o (m := 1) Ae (by exact fun _ => ⟨rfl, rfl⟩) (x9) ([nth f0.Table q8_11.toNat]) (by rfl) (by rfl) h fun h => ?_
  conv => whnf
  refine Ask.o h fun p10 h => ?_
  conv => whnf
  cases h; exact ⟨rfl, rfl⟩
 conv => whnf
 cases h; exact ⟨rfl, rfl⟩
noncomputable def Dw (n0 : Int) (f0 : SOp) (tables0 : (List (List Int))) (size0 : Int) : Option (List Int) :=
 (Ar (Cu n0 f0 tables0 size0) ((0 : Int), Ao Int)).bind fun q11_9 =>
 some q11_9
theorem Lz {n0 : Int} {f0 : SOp} {tables0 : (List (List Int))} {size0 : Int} {v : (List Int)} (h : Dw n0 f0 tables0 size0 = some v) : Ret Try.prog Gv [Ae n0, (Ai false) f0, (slr false 1 (slr false 1 Ae)) tables0, Ae size0] ((slr true 1 Ae) v) := by
 refine Bg Aaz (Nat.le_of_ble_eq_true rfl) ?_
 unfold Dw at h
 conv => whnf
 refine BslQ.o Ae (Ao Int) (by exact fun _ => ⟨rfl, rfl⟩) (by rfl) ?_
 conv => whnf
 refine LoopQ.o [10, 9, 5, 0, 2, 3] (Ix n0 f0 tables0 size0) (Nu n0 f0 tables0 size0) h (fun s o h => W0 s o h) (by rfl) (fun _ => rfl) ?_
 rintro q11_9 h
 try dsimp only at h
 conv => whnf
 cases h; exact (by rfl)
noncomputable def C9 (a0 : Int) (b0 : Int) : Option Int :=
 if a0 > b0 then
 some a0
 else
 some b0
theorem Sn {a0 : Int} {b0 : Int} {v : Int} (h : C9 a0 b0 = some v) : Ret Try.prog Kd [Ae a0, Ae b0] (Ae v) := by
 refine Bg Air (Nat.le_of_ble_eq_true rfl) ?_
 unfold C9 at h
 conv => whnf
 refine Br.od h (fun p1 h => ?_) (fun p1 h => ?_)
 ·conv => whnf
  cases h; exact (by rfl)
 conv => whnf
 cases h; exact (by rfl)
noncomputable def El (list0 : List Int) (n0 : Int) : Int → Option (Int ⊕ (Unit ⊕ Unit)) := fun x9 =>
 if x9 < (↑list0.length : Int) then
 ask ((0 : Int) ≤ x9 ∧ x9 < (↑list0.length : Int)) <|
 if nth list0 x9.toNat < (0 : Int) then
 some (.inr (.inl ()))
 else
 if nth list0 x9.toNat ≥ n0 then
 some (.inr (.inl ()))
 else
 ask (InI (x9 + (1 : Int))) <|
 some (.inl (x9 + (1 : Int)))
 else
 some (.inr (.inr ()))
def Mi (list0 : List Int) (n0 : Int) : Int → St := fun s => [(9, A.val (Ae s)), (8, A.val (Ae ((↑list0.length : Int)))), (7, A.val ((slr false 1 Ae) (list0))), (1, A.val (Ae (n0)))]
def T8 (_list0 : List Int) (_n0 : Int) : (Unit ⊕ Unit) → Tgt
 | (.inl _s) => (Ex.ret, [4], [(4, A.val (V.bool (false)))])
 | (.inr _s) => ((Ex.exit 0), [], [])
theorem Adz {list0 : List Int} {n0 : Int} (x9 : Int) (o : Int ⊕ (Unit ⊕ Unit)) (h : El list0 n0 x9 = some o) : vc Try.prog Tu (Dy [9, 8, 7, 1] (Mi list0 n0) (T8 list0 n0) o) (Mi list0 n0 x9) := by
 unfold El at h
 try dsimp only at h
 conv => whnf
 refine Br.od h (fun p1 h => ?_) (fun p1 h => ?_)
 ·conv => whnf
  refine Len.map ?_
  conv => whnf
  refine Ask.o h fun p2 h => ?_
  conv => whnf
  refine Elem.o (by first | omega | (simp [Bh] at * <;> omega)) ?_
  conv => whnf
  refine Br.od h (fun p3 h => ?_) (fun p3 h => ?_)
  ·conv => whnf
   refine Br.yes ?_
   conv => whnf
   refine Br.yes ?_
   conv => whnf
   refine Br.yes ?_
   conv => whnf
   refine Br.yes ?_
   conv => whnf
   cases h; exact ⟨rfl, rfl⟩
  conv => whnf
  refine Br.no ?_
  conv => whnf
  refine Br.no ?_
  conv => whnf
  refine Br.no ?_
  conv => whnf
  refine Br.od h (fun p4 h => ?_) (fun p4 h => ?_)
  ·conv => whnf
   cases h; exact ⟨rfl, rfl⟩
  conv => whnf
  refine Ask.o h fun p5 h => ?_
  conv => whnf
  cases h; exact ⟨rfl, rfl⟩
 conv => whnf
 cases h; exact ⟨rfl, rfl⟩
noncomputable def Ig (list0 : (List Int)) (n0 : Int) : Option Bool :=
 (Ar (El list0 n0) (0 : Int)).bind fun t => match t with
 | (.inl _) => (some false)
 | (.inr _) => (some true)
theorem Zc {list0 : (List Int)} {n0 : Int} {v : Bool} (h : Ig list0 n0 = some v) : Ret Try.prog M7 [(slr false 1 Ae) list0, Ae n0] (V.bool v) := by
 refine Bg Ai6 (Nat.le_of_ble_eq_true rfl) ?_
 unfold Ig at h
 conv => whnf
 refine Len.map ?_
 conv => whnf
 refine LoopQ.o [9, 8, 7, 1] (Mi list0 n0) (T8 list0 n0) h (fun s o h => Adz s o h) (by rfl) (by rintro (_ | _) <;> rfl) ?_
 rintro (⟨⟩ | ⟨⟩) h
 ·try dsimp only at h
  conv => whnf
  cases h; exact (by rfl)
 try dsimp only at h
 conv => whnf
 cases h; exact (by rfl)
noncomputable def Ey (x0 : Int) (a0 : Int) (b0 : Int) : Option Bool :=
 if x0 ≥ a0 then
 some (decide (x0 ≤ b0))
 else
 some false
theorem I0 {x0 : Int} {a0 : Int} {b0 : Int} {v : Bool} (h : Ey x0 a0 b0 = some v) : Ret Try.prog Gh [Ae x0, Ae a0, Ae b0] (V.bool v) := by
 refine Bg Ams (Nat.le_of_ble_eq_true rfl) ?_
 unfold Ey at h
 conv => whnf
 refine Br.od h (fun p1 h => ?_) (fun p1 h => ?_)
 ·conv => whnf
  refine Br.yes ?_
  conv => whnf
  refine Br.yes ?_
  conv => whnf
  refine Br.yes ?_
  conv => whnf
  cases h; exact (by rfl)
 conv => whnf
 refine Br.no ?_
 conv => whnf
 refine Br.no ?_
 conv => whnf
 refine Br.no ?_
 conv => whnf
 cases h; exact (by rfl)
noncomputable def Co (n0 : Int) : (Int × Int) → Option ((Int × Int) ⊕ Int) := fun (x5, x1) =>
 if x1 > (0 : Int) then
 ask (InI (x5 * n0)) <|
 ask (InI (x1 - (1 : Int))) <|
 some (.inl (x5 * n0, x1 - (1 : Int)))
 else
 some (.inr x5)
def Ob (n0 : Int) : (Int × Int) → St := fun s => [(5, A.val (Ae s.1)), (0, A.val (Ae (n0))), (1, A.val (Ae s.2))]
def Vl (_n0 : Int) : Int → Tgt
 | s => ((Ex.exit 0), [5], [(5, A.val (Ae s))])
theorem Ae1 {n0 : Int} (s : (Int × Int)) (o : (Int × Int) ⊕ Int) (h : Co n0 s = some o) : vc Try.prog Vq (Dy [5, 0, 1] (Ob n0) (Vl n0) o) (Ob n0 s) := by
 obtain ⟨x5, x1⟩ := s
 unfold Co at h
 try dsimp only at h
 conv => whnf
 refine Br.od h (fun p1 h => ?_) (fun p1 h => ?_)
 ·conv => whnf
  refine Ask.o h fun p2 h => ?_
  conv => whnf
  refine Ask.o h fun p3 h => ?_
  conv => whnf
  cases h; exact ⟨rfl, rfl⟩
 conv => whnf
 cases h; exact ⟨rfl, rfl⟩
noncomputable def Cj (n0 : Int) (k0 : Int) : Option Int :=
 (Ar (Co n0) ((1 : Int), k0)).bind fun q4_5 =>
 some q4_5
theorem Gm {n0 : Int} {k0 : Int} {v : Int} (h : Cj n0 k0 = some v) : Ret Try.prog Ep [Ae n0, Ae k0] (Ae v) := by
 refine Bg Alv (Nat.le_of_ble_eq_true rfl) ?_
 unfold Cj at h
 conv => whnf
 refine LoopQ.o [5, 0, 1] (Ob n0) (Vl n0) h (fun s o h => Ae1 s o h) (by rfl) (fun _ => rfl) ?_
 rintro q4_5 h
 try dsimp only at h
 conv => whnf
 cases h; exact (by rfl)
end Go.Proofs.Ytoaojijoefljaaa.Ax
