/-
 What the functions compute, as functions on plain data, and that the program does compute it; written by program.
-/
import Derived.Test.YtcpgnfohmeineaaCode
namespace Go.Proofs.Ytcpgnfohmeineaa.Ax
open Go
set_option maxRecDepth 100000
set_option maxHeartbeats 4000000
noncomputable def Sp (code0 : (List Int)) : Option Bool :=
 some (decide ((↑code0.length : Int) > (65536 : Int)))
theorem Apw {code0 : (List Int)} {v : Bool} (h : Sp code0 = some v) : Ret Try.prog Yd [(slr false 1 (V.int IntKind.u8)) code0] (V.bool v) := by
 refine A8 Apq (Nat.le_of_ble_eq_true rfl) ?_
 unfold Sp at h
 conv => whnf
 refine Len.map ?_
 conv => whnf
 cases h; exact (by rfl)
noncomputable def Fh (a0 : List Int) (b0 : List Int) : Int → Option (Int ⊕ (Unit ⊕ Unit)) := fun x5 =>
 if x5 < (↑a0.length : Int) then
 ask ((0 : Int) ≤ x5 ∧ x5 < (↑a0.length : Int)) <|
 ask ((0 : Int) ≤ x5 ∧ x5 < (↑b0.length : Int)) <|
 if nth a0 x5.toNat ≠ nth b0 x5.toNat then
 some (.inr (.inl ()))
 else
 ask (InI (x5 + (1 : Int))) <|
 some (.inl (x5 + (1 : Int)))
 else
 some (.inr (.inr ()))
def P3 (a0 : List Int) (b0 : List Int) : Int → St := fun s => [(5, A.val (Af s)), (0, A.val ((slr false 1 Af) (a0))), (1, A.val ((slr false 1 Af) (b0)))]
def W9 (_a0 : List Int) (_b0 : List Int) : (Unit ⊕ Unit) → Tgt
 | (.inl _s) => (Ex.ret, [4], [(4, A.val (V.bool (false)))])
 | (.inr _s) => ((Ex.exit 0), [], [])
theorem Age {a0 : List Int} {b0 : List Int} (x5 : Int) (o : Int ⊕ (Unit ⊕ Unit)) (h : Fh a0 b0 x5 = some o) : vc Try.prog W7 (Cu [5, 0, 1] (P3 a0 b0) (W9 a0 b0) o) (P3 a0 b0 x5) := by
 unfold Fh at h
 try dsimp only at h
 conv => whnf
 refine Len.map ?_
 conv => whnf
 refine Br.od h (fun p2 h => ?_) (fun p2 h => ?_)
 ·conv => whnf
  refine Len.map ?_
  conv => whnf
  refine Ask.o h fun p3 h => ?_
  conv => whnf
  refine Elem.o (by first | omega | (simp [Ap] at *; omega)) ?_
  conv => whnf
  refine Len.map ?_
  conv => whnf
  refine Ask.o h fun p4 h => ?_
  conv => whnf
  refine Elem.o (by first | omega | (simp [Ap] at *; omega)) ?_
  conv => whnf
  refine Br.on h (fun p5 h => ?_) (fun p5 h => ?_)
  ·conv => whnf
   cases h; exact ⟨rfl, rfl⟩
  conv => whnf
  refine Ask.o h fun p6 h => ?_
  conv => whnf
  cases h; exact ⟨rfl, rfl⟩
 conv => whnf
 cases h; exact ⟨rfl, rfl⟩
noncomputable def Gy (a0 : (List Int)) (b0 : (List Int)) : Option Bool :=
 if (↑a0.length : Int) ≠ (↑b0.length : Int) then
 some false
 else
 (Al (Fh a0 b0) (0 : Int)).bind fun t => match t with
 | (.inl _) => (some false)
 | (.inr _) => (some true)
theorem Qp {a0 : (List Int)} {b0 : (List Int)} {v : Bool} (h : Gy a0 b0 = some v) : Ret Try.prog Mn [(slr false 1 Af) a0, (slr false 1 Af) b0] (V.bool v) := by
 refine A8 Am4 (Nat.le_of_ble_eq_true rfl) ?_
 unfold Gy at h
 conv => whnf
 refine Len.map ?_
 conv => whnf
 refine Len.map ?_
 conv => whnf
 refine Br.on h (fun p1 h => ?_) (fun p1 h => ?_)
 ·conv => whnf
  cases h; exact (by rfl)
 conv => whnf
 refine LoopQ.o [5, 0, 1] (P3 a0 b0) (W9 a0 b0) h (fun s o h => Age s o h) (by rfl) (by rintro (_ | _) <;> rfl) ?_
 rintro (⟨⟩ | ⟨⟩) h
 ·try dsimp only at h
  conv => whnf
  cases h; exact (by rfl)
 try dsimp only at h
 conv => whnf
 cases h; exact (by rfl)
noncomputable def Cd (n0 : Int) : (Int × Int) → Option ((Int × Int) ⊕ Int) := fun (x5, x1) =>
 if x1 > (0 : Int) then
 ask (InI (x5 * n0)) <|
 ask (InI (x1 - (1 : Int))) <|
 some (.inl (x5 * n0, x1 - (1 : Int)))
 else
 some (.inr x5)
def P5 (n0 : Int) : (Int × Int) → St := fun s => [(5, A.val (Af s.1)), (0, A.val (Af (n0))), (1, A.val (Af s.2))]
def Xh (_n0 : Int) : Int → Tgt
 | s => ((Ex.exit 0), [5], [(5, A.val (Af s))])
theorem Agd {n0 : Int} (s : (Int × Int)) (o : (Int × Int) ⊕ Int) (h : Cd n0 s = some o) : vc Try.prog W3 (Cu [5, 0, 1] (P5 n0) (Xh n0) o) (P5 n0 s) := by
 obtain ⟨x5, x1⟩ := s
 unfold Cd at h
 try dsimp only at h
 conv => whnf
 refine Br.od h (fun p1 h => ?_) (fun p1 h => ?_)
 ·conv => whnf
  refine Ask.o h fun p2 h => ?_
  conv => whnf
  refine Ask.o h fun p3 h => ?_
  conv => whnf
  cases h; exact ⟨rfl, rfl⟩
 conv => whnf
 cases h; exact ⟨rfl, rfl⟩
noncomputable def Er (n0 : Int) (k0 : Int) : Option Int :=
 (Al (Cd n0) ((1 : Int), k0)).bind fun q4_5 =>
 some q4_5
theorem Wr {n0 : Int} {k0 : Int} {v : Int} (h : Er n0 k0 = some v) : Ret Try.prog Mi [Af n0, Af k0] (Af v) := by
 refine A8 Am0 (Nat.le_of_ble_eq_true rfl) ?_
 unfold Er at h
 conv => whnf
 refine LoopQ.o [5, 0, 1] (P5 n0) (Xh n0) h (fun s o h => Agd s o h) (by rfl) (fun _ => rfl) ?_
 rintro q4_5 h
 try dsimp only at h
 conv => whnf
 cases h; exact (by rfl)
noncomputable def D8 (x0 : Int) (a0 : Int) (b0 : Int) : Option Bool :=
 if x0 ≥ a0 then
 some (decide (x0 ≤ b0))
 else
 some false
theorem Ic {x0 : Int} {a0 : Int} {b0 : Int} {v : Bool} (h : D8 x0 a0 b0 = some v) : Ret Try.prog Fw [Af x0, Af a0, Af b0] (V.bool v) := by
 refine A8 Ao2 (Nat.le_of_ble_eq_true rfl) ?_
 unfold D8 at h
 conv => whnf
 refine Br.od h (fun p1 h => ?_) (fun p1 h => ?_)
 ·conv => whnf
  refine Br.yes ?_
  conv => whnf
  refine Br.yes ?_
  conv => whnf
  refine Br.yes ?_
  conv => whnf
  cases h; exact (by rfl)
 conv => whnf
 refine Br.no ?_
 conv => whnf
 refine Br.no ?_
 conv => whnf
 refine Br.no ?_
 conv => whnf
 cases h; exact (by rfl)
noncomputable def Fp (n0 : Int) : Option Bool :=
 if n0 ≥ (1 : Int) then
 some (decide (n0 ≤ (8 : Int)))
 else
 some false
theorem Aab {n0 : Int} {v : Bool} (h : Fp n0 = some v) : Ret Try.prog Oq [Af n0] (V.bool v) := by
 refine A8 Ak9 (Nat.le_of_ble_eq_true rfl) ?_
 unfold Fp at h
 conv => whnf
 refine Br.od h (fun p1 h => ?_) (fun p1 h => ?_)
 ·conv => whnf
  refine Br.yes ?_
  conv => whnf
  refine Br.yes ?_
  conv => whnf
  cases h; exact (by rfl)
 conv => whnf
 refine Br.no ?_
 conv => whnf
 refine Br.no ?_
 conv => whnf
 cases h; exact (by rfl)
noncomputable def Ej (n0 : Int) : (Int × (List Int) × Int) → Option ((Int × (List Int) × Int) ⊕ (List Int)) := fun (x8, x7, x2) =>
 if x8 ≥ (0 : Int) then
 ask (n0 ≠ (0 : Int)) <|
 ask ((0 : Int) ≤ x8 ∧ x8 < (↑x7.length : Int)) <|
 ask (n0 ≠ (0 : Int) ∧ InI (x2.tdiv n0)) <|
 ask (InI (x8 - (1 : Int))) <|
 some (.inl (x8 - (1 : Int), x7.set x8.toNat (x2.tmod n0), x2.tdiv n0))
 else
 some (.inr x7)
def Nt (n0 : Int) : (Int × (List Int) × Int) → St := fun s => [(8, A.val (Af s.1)), (7, A.val ((slr true 1 Af) s.2.1)), (0, A.val (Af (n0))), (2, A.val (Af s.2.2))]
def V8 (_n0 : Int) : (List Int) → Tgt
 | s => ((Ex.exit 0), [7], [(7, A.val ((slr true 1 Af) s))])
theorem Aen {n0 : Int} (s : (Int × (List Int) × Int)) (o : (Int × (List Int) × Int) ⊕ (List Int)) (h : Ej n0 s = some o) : vc Try.prog Uz (Cu [8, 7, 0, 2] (Nt n0) (V8 n0) o) (Nt n0 s) := by
 obtain ⟨x8, x7, x2⟩ := s
 unfold Ej at h
 try dsimp only at h
 conv => whnf
 refine Br.od h (fun p3 h => ?_) (fun p3 h => ?_)
 ·conv => whnf
  refine Ask.o h fun p4 h => ?_
  conv => whnf
  refine Len.map ?_
  conv => whnf
  refine Ask.o h fun p5 h => ?_
  conv => whnf
  refine SetKids.one (fun _ => ⟨rfl, rfl⟩) (x2.tmod n0) (by rfl) (by first | omega | (simp [Ap] at *; omega)) ?_
  conv => whnf
  refine Ask.o h fun p6 h => ?_
  conv => whnf
  refine Ask.o h fun p7 h => ?_
  conv => whnf
  cases h; exact ⟨rfl, rfl⟩
 conv => whnf
 cases h; exact ⟨rfl, rfl⟩
noncomputable def Fq (n0 : Int) (arity0 : Int) (at0 : Int) : Option (List Int) :=
 ask ((0 : Int) ≤ arity0 ∧ arity0 ≤ (↑LIM : Int)) <|
 ask (InI (arity0 - (1 : Int))) <|
 (Al (Ej n0) (arity0 - (1 : Int), List.replicate arity0.toNat (0 : Int), at0)).bind fun q8_7 =>
 some q8_7
theorem Aad {n0 : Int} {arity0 : Int} {at0 : Int} {v : (List Int)} (h : Fq n0 arity0 at0 = some v) : Ret Try.prog Oy [Af n0, Af arity0, Af at0] ((slr true 1 Af) v) := by
 refine A8 Ajv (Nat.le_of_ble_eq_true rfl) ?_
 unfold Fq at h
 conv => whnf
 refine Ask.o h fun p1 h => ?_
 conv => whnf
 refine MkQ.o Af ((0 : Int)) rfl ?_
 conv => whnf
 refine Ask.o h fun p2 h => ?_
 conv => whnf
 refine LoopQ.o [8, 7, 0, 2] (Nt n0) (V8 n0) h (fun s o h => Aen s o h) (by rfl) (fun _ => rfl) ?_
 rintro q8_7 h
 try dsimp only at h
 conv => whnf
 cases h; exact (by rfl)
noncomputable def Ff (list0 : List Int) : (Int × (List Int)) → Option ((Int × (List Int)) ⊕ (List Int)) := fun (x12, x3) =>
 if x12 < (↑list0.length : Int) then
 ask ((0 : Int) ≤ x12 ∧ x12 < (↑list0.length : Int)) <|
 ask ((x3).length + ([IntKind.u8.wrap ((nth list0 x12.toNat).fdiv ((2 : Int) ^ min (Int.toNat (8 : Int)) IntKind.i64.bits)), IntKind.u8.wrap (nth list0 x12.toNat)]).length ≤ LIM) <|
 ask (InI (x12 + (1 : Int))) <|
 some (.inl (x12 + (1 : Int), x3 ++ [IntKind.u8.wrap ((nth list0 x12.toNat).fdiv ((2 : Int) ^ min (Int.toNat (8 : Int)) IntKind.i64.bits)), IntKind.u8.wrap (nth list0 x12.toNat)]))
 else
 some (.inr x3)
def P7 (list0 : List Int) : (Int × (List Int)) → St := fun s => [(12, A.val (Af s.1)), (11, A.val (Af ((↑list0.length : Int)))), (10, A.val ((slr false 1 Af) (list0))), (3, A.val ((slr true 1 (V.int IntKind.u8)) s.2))]
def W8 (_list0 : List Int) : (List Int) → Tgt
 | s => ((Ex.exit 0), [3], [(3, A.val ((slr true 1 (V.int IntKind.u8)) s))])
theorem Af5 {list0 : List Int} (s : (Int × (List Int))) (o : (Int × (List Int)) ⊕ (List Int)) (h : Ff list0 s = some o) : vc Try.prog W4 (Cu [12, 11, 10, 3] (P7 list0) (W8 list0) o) (P7 list0 s) := by
 obtain ⟨x12, x3⟩ := s
 unfold Ff at h
 try dsimp only at h
 conv => whnf
 refine Br.od h (fun p3 h => ?_) (fun p3 h => ?_)
 ·conv => whnf
  refine Len.map ?_
  conv => whnf
  refine Ask.o h fun p4 h => ?_
  conv => whnf
  refine Elem.o (by first | omega | (simp [Ap] at *; omega)) ?_
  conv => whnf
  refine BslQ.o (V.int IntKind.u8) ([IntKind.u8.wrap ((nth list0 x12.toNat).fdiv ((2 : Int) ^ min (Int.toNat (8 : Int)) IntKind.i64.bits)), IntKind.u8.wrap (nth list0 x12.toNat)]) (by exact fun _ => ⟨rfl, rfl⟩) (by rfl) ?_
  conv => whnf
  refine NoOwn.o (fun _ => rfl) ?_
  conv => whnf
  refine AppQ.o (m := 1) (V.int IntKind.u8) (by exact fun _ => ⟨rfl, rfl⟩) (x3) ([IntKind.u8.wrap ((nth list0 x12.toNat).fdiv ((2 : Int) ^ min (Int.toNat (8 : Int)) IntKind.i64.bits)), IntKind.u8.wrap (nth list0 x12.toNat)]) (by rfl) (by rfl) h fun h => ?_
  conv => whnf
  refine Ask.o h fun p5 h => ?_
  conv => whnf
  cases h; exact ⟨rfl, rfl⟩
 conv => whnf
 cases h; exact ⟨rfl, rfl⟩
noncomputable def Jz (list0 : (List Int)) : Option ByteArray :=
 ask (InI ((2 : Int) * (↑list0.length : Int))) <|
 ask ((0 : Int) ≤ (2 : Int) * (↑list0.length : Int) ∧ (2 : Int) * (↑list0.length : Int) ≤ (↑LIM : Int)) <|
 (Al (Ff list0) ((0 : Int), Av Int)).bind fun q6_3 =>
 some (Xb q6_3)
theorem Ab1 {list0 : (List Int)} {v : ByteArray} (h : Jz list0 = some v) : Ret Try.prog Qg [(slr false 1 Af) list0] (V.str v) := by
 refine A8 Anq (Nat.le_of_ble_eq_true rfl) ?_
 unfold Jz at h
 conv => whnf
 refine Len.map ?_
 conv => whnf
 refine Ask.o h fun p1 h => ?_
 conv => whnf
 refine Ask.o h fun p2 h => ?_
 conv => whnf
 refine Len.map ?_
 conv => whnf
 refine LoopQ.o [12, 11, 10, 3] (P7 list0) (W8 list0) h (fun s o h => Af5 s o h) (by rfl) (fun _ => rfl) ?_
 rintro q6_3 h
 try dsimp only at h
 conv => whnf
 refine BsQ.o q6_3 (by rfl) ?_
 conv => whnf
 cases h; exact (by rfl)
noncomputable def Iq (a0 : Int) (b0 : Int) : Option Int :=
 if a0 > b0 then
 some a0
 else
 some b0
theorem Z7 {a0 : Int} {b0 : Int} {v : Int} (h : Iq a0 b0 = some v) : Ret Try.prog Ox [Af a0, Af b0] (Af v) := by
 refine A8 Ako (Nat.le_of_ble_eq_true rfl) ?_
 unfold Iq at h
 conv => whnf
 refine Br.od h (fun p1 h => ?_) (fun p1 h => ?_)
 ·conv => whnf
  cases h; exact (by rfl)
 conv => whnf
 cases h; exact (by rfl)
noncomputable def Eh (list0 : List Int) (n0 : Int) : Int → Option (Int ⊕ (Unit ⊕ Unit)) := fun x9 =>
 if x9 < (↑list0.length : Int) then
 ask ((0 : Int) ≤ x9 ∧ x9 < (↑list0.length : Int)) <|
 if nth list0 x9.toNat < (0 : Int) then
 some (.inr (.inl ()))
 else
 if nth list0 x9.toNat ≥ n0 then
 some (.inr (.inl ()))
 else
 ask (InI (x9 + (1 : Int))) <|
 some (.inl (x9 + (1 : Int)))
 else
 some (.inr (.inr ()))
def N6 (list0 : List Int) (n0 : Int) : Int → St := fun s => [(9, A.val (Af s)), (8, A.val (Af ((↑list0.length : Int)))), (7, A.val ((slr false 1 Af) (list0))), (1, A.val (Af (n0)))]
def Uk (_list0 : List Int) (_n0 : Int) : (Unit ⊕ Unit) → Tgt
 | (.inl _s) => (Ex.ret, [4], [(4, A.val (V.bool (false)))])
 | (.inr _s) => ((Ex.exit 0), [], [])
theorem Adx {list0 : List Int} {n0 : Int} (x9 : Int) (o : Int ⊕ (Unit ⊕ Unit)) (h : Eh list0 n0 x9 = some o) : vc Try.prog Vh (Cu [9, 8, 7, 1] (N6 list0 n0) (Uk list0 n0) o) (N6 list0 n0 x9) := by
 unfold Eh at h
 try dsimp only at h
 conv => whnf
 refine Br.od h (fun p1 h => ?_) (fun p1 h => ?_)
 ·conv => whnf
  refine Len.map ?_
  conv => whnf
  refine Ask.o h fun p2 h => ?_
  conv => whnf
  refine Elem.o (by first | omega | (simp [Ap] at *; omega)) ?_
  conv => whnf
  refine Br.od h (fun p3 h => ?_) (fun p3 h => ?_)
  ·conv => whnf
   refine Br.yes ?_
   conv => whnf
   refine Br.yes ?_
   conv => whnf
   refine Br.yes ?_
   conv => whnf
   refine Br.yes ?_
   conv => whnf
   cases h; exact ⟨rfl, rfl⟩
  conv => whnf
  refine Br.no ?_
  conv => whnf
  refine Br.no ?_
  conv => whnf
  refine Br.no ?_
  conv => whnf
  refine Br.od h (fun p4 h => ?_) (fun p4 h => ?_)
  ·conv => whnf
   cases h; exact ⟨rfl, rfl⟩
  conv => whnf
  refine Ask.o h fun p5 h => ?_
  conv => whnf
  cases h; exact ⟨rfl, rfl⟩
 conv => whnf
 cases h; exact ⟨rfl, rfl⟩
noncomputable def Ir (list0 : (List Int)) (n0 : Int) : Option Bool :=
 (Al (Eh list0 n0) (0 : Int)).bind fun t => match t with
 | (.inl _) => (some false)
 | (.inr _) => (some true)
theorem Aaa {list0 : (List Int)} {n0 : Int} {v : Bool} (h : Ir list0 n0 = some v) : Ret Try.prog On [(slr false 1 Af) list0, Af n0] (V.bool v) := by
 refine A8 Ak3 (Nat.le_of_ble_eq_true rfl) ?_
 unfold Ir at h
 conv => whnf
 refine Len.map ?_
 conv => whnf
 refine LoopQ.o [9, 8, 7, 1] (N6 list0 n0) (Uk list0 n0) h (fun s o h => Adx s o h) (by rfl) (by rintro (_ | _) <;> rfl) ?_
 rintro (⟨⟩ | ⟨⟩) h
 ·try dsimp only at h
  conv => whnf
  cases h; exact (by rfl)
 try dsimp only at h
 conv => whnf
 cases h; exact (by rfl)
noncomputable def Cc (n0 : Int) : (Int × Int) → Option ((Int × Int) ⊕ Int) := fun (x5, x1) =>
 if x1 > (0 : Int) then
 ask (InI (x5 * n0)) <|
 ask (InI (x1 - (1 : Int))) <|
 some (.inl (x5 * n0, x1 - (1 : Int)))
 else
 some (.inr x5)
def P8 (n0 : Int) : (Int × Int) → St := fun s => [(5, A.val (Af s.1)), (0, A.val (Af (n0))), (1, A.val (Af s.2))]
def Xf (_n0 : Int) : Int → Tgt
 | s => ((Ex.exit 0), [5], [(5, A.val (Af s))])
theorem Agg {n0 : Int} (s : (Int × Int)) (o : (Int × Int) ⊕ Int) (h : Cc n0 s = some o) : vc Try.prog W6 (Cu [5, 0, 1] (P8 n0) (Xf n0) o) (P8 n0 s) := by
 obtain ⟨x5, x1⟩ := s
 unfold Cc at h
 try dsimp only at h
 conv => whnf
 refine Br.od h (fun p1 h => ?_) (fun p1 h => ?_)
 ·conv => whnf
  refine Ask.o h fun p2 h => ?_
  conv => whnf
  refine Ask.o h fun p3 h => ?_
  conv => whnf
  cases h; exact ⟨rfl, rfl⟩
 conv => whnf
 cases h; exact ⟨rfl, rfl⟩
noncomputable def Dz (n0 : Int) (k0 : Int) : Option Int :=
 (Al (Cc n0) ((1 : Int), k0)).bind fun q4_5 =>
 some q4_5
theorem Qo {n0 : Int} {k0 : Int} {v : Int} (h : Dz n0 k0 = some v) : Ret Try.prog J3 [Af n0, Af k0] (Af v) := by
 refine A8 Amt (Nat.le_of_ble_eq_true rfl) ?_
 unfold Dz at h
 conv => whnf
 refine LoopQ.o [5, 0, 1] (P8 n0) (Xf n0) h (fun s o h => Agg s o h) (by rfl) (fun _ => rfl) ?_
 rintro q4_5 h
 try dsimp only at h
 conv => whnf
 cases h; exact (by rfl)
noncomputable def En (a0 : List Int) (b0 : List Int) : Int → Option (Int ⊕ (Unit ⊕ Unit)) := fun x5 =>
 if x5 < (↑a0.length : Int) then
 ask ((0 : Int) ≤ x5 ∧ x5 < (↑a0.length : Int)) <|
 ask ((0 : Int) ≤ x5 ∧ x5 < (↑b0.length : Int)) <|
 if nth a0 x5.toNat ≠ nth b0 x5.toNat then
 some (.inr (.inl ()))
 else
 ask (InI (x5 + (1 : Int))) <|
 some (.inl (x5 + (1 : Int)))
 else
 some (.inr (.inr ()))
def Nm (a0 : List Int) (b0 : List Int) : Int → St := fun s => [(5, A.val (Af s)), (0, A.val ((slr false 1 Af) (a0))), (1, A.val ((slr false 1 Af) (b0)))]
def Vy (_a0 : List Int) (_b0 : List Int) : (Unit ⊕ Unit) → Tgt
 | (.inl _s) => (Ex.ret, [4], [(4, A.val (V.bool (false)))])
 | (.inr _s) => ((Ex.exit 0), [], [])
theorem Aej {a0 : List Int} {b0 : List Int} (x5 : Int) (o : Int ⊕ (Unit ⊕ Unit)) (h : En a0 b0 x5 = some o) : vc Try.prog Ux (Cu [5, 0, 1] (Nm a0 b0) (Vy a0 b0) o) (Nm a0 b0 x5) := by
 unfold En at h
 try dsimp only at h
 conv => whnf
 refine Len.map ?_
 conv => whnf
 refine Br.od h (fun p2 h => ?_) (fun p2 h => ?_)
 ·conv => whnf
  refine Len.map ?_
  conv => whnf
  refine Ask.o h fun p3 h => ?_
  conv => whnf
  refine Elem.o (by first | omega | (simp [Ap] at *; omega)) ?_
  conv => whnf
  refine Len.map ?_
  conv => whnf
  refine Ask.o h fun p4 h => ?_
  conv => whnf
  refine Elem.o (by first | omega | (simp [Ap] at *; omega)) ?_
  conv => whnf
  refine Br.on h (fun p5 h => ?_) (fun p5 h => ?_)
  ·conv => whnf
   cases h; exact ⟨rfl, rfl⟩
  conv => whnf
  refine Ask.o h fun p6 h => ?_
  conv => whnf
  cases h; exact ⟨rfl, rfl⟩
 conv => whnf
 cases h; exact ⟨rfl, rfl⟩
noncomputable def Ip (a0 : (List Int)) (b0 : (List Int)) : Option Bool :=
 if (↑a0.length : Int) ≠ (↑b0.length : Int) then
 some false
 else
 (Al (En a0 b0) (0 : Int)).bind fun t => match t with
 | (.inl _) => (some false)
 | (.inr _) => (some true)
theorem Aai {a0 : (List Int)} {b0 : (List Int)} {v : Bool} (h : Ip a0 b0 = some v) : Ret Try.prog Ol [(slr false 1 Af) a0, (slr false 1 Af) b0] (V.bool v) := by
 refine A8 Ak4 (Nat.le_of_ble_eq_true rfl) ?_
 unfold Ip at h
 conv => whnf
 refine Len.map ?_
 conv => whnf
 refine Len.map ?_
 conv => whnf
 refine Br.on h (fun p1 h => ?_) (fun p1 h => ?_)
 ·conv => whnf
  cases h; exact (by rfl)
 conv => whnf
 refine LoopQ.o [5, 0, 1] (Nm a0 b0) (Vy a0 b0) h (fun s o h => Aej s o h) (by rfl) (by rintro (_ | _) <;> rfl) ?_
 rintro (⟨⟩ | ⟨⟩) h
 ·try dsimp only at h
  conv => whnf
  cases h; exact (by rfl)
 try dsimp only at h
 conv => whnf
 cases h; exact (by rfl)
noncomputable def Dy (a0 : Int) (b0 : Int) : Option Int :=
 if a0 < b0 then
 some a0
 else
 some b0
theorem Q9 {a0 : Int} {b0 : Int} {v : Int} (h : Dy a0 b0 = some v) : Ret Try.prog Ju [Af a0, Af b0] (Af v) := by
 refine A8 Aht (Nat.le_of_ble_eq_true rfl) ?_
 unfold Dy at h
 conv => whnf
 refine Br.od h (fun p1 h => ?_) (fun p1 h => ?_)
 ·conv => whnf
  cases h; exact (by rfl)
 conv => whnf
 cases h; exact (by rfl)
noncomputable def Ck (p0 : List Int) : Int → Option (Int ⊕ (Unit ⊕ Unit)) := fun x13 =>
 if x13 < (↑p0.length : Int) then
 ask ((0 : Int) ≤ x13 ∧ x13 < (↑p0.length : Int)) <|
 if nth p0 x13.toNat < (0 : Int) then
 some (.inr (.inl ()))
 else
 if nth p0 x13.toNat > x13 then
 some (.inr (.inl ()))
 else
 ask ((0 : Int) ≤ nth p0 x13.toNat ∧ nth p0 x13.toNat < (↑p0.length : Int)) <|
 if nth p0 (nth p0 x13.toNat).toNat ≠ nth p0 x13.toNat then
 some (.inr (.inl ()))
 else
 ask (InI (x13 + (1 : Int))) <|
 some (.inl (x13 + (1 : Int)))
 else
 some (.inr (.inr ()))
def Ix (p0 : List Int) : Int → St := fun s => [(13, A.val (Af s)), (12, A.val (Af ((↑p0.length : Int)))), (11, A.val ((slr false 1 Af) (p0))), (1, A.val ((slr false 1 Af) (p0)))]
def Nd (_p0 : List Int) : (Unit ⊕ Unit) → Tgt
 | (.inl _s) => (Ex.ret, [4], [(4, A.val (V.bool (false)))])
 | (.inr _s) => ((Ex.exit 0), [], [])
theorem X1 {p0 : List Int} (x13 : Int) (o : Int ⊕ (Unit ⊕ Unit)) (h : Ck p0 x13 = some o) : vc Try.prog M7 (Cu [13, 12, 11, 1] (Ix p0) (Nd p0) o) (Ix p0 x13) := by
 unfold Ck at h
 try dsimp only at h
 conv => whnf
 refine Br.od h (fun p2 h => ?_) (fun p2 h => ?_)
 ·conv => whnf
  refine Len.map ?_
  conv => whnf
  refine Ask.o h fun p3 h => ?_
  conv => whnf
  refine Elem.o (by first | omega | (simp [Ap] at *; omega)) ?_
  conv => whnf
  refine Br.od h (fun p4 h => ?_) (fun p4 h => ?_)
  ·conv => whnf
   refine Br.yes ?_
   conv => whnf
   refine Br.yes ?_
   conv => whnf
   refine Br.yes ?_
   conv => whnf
   refine Br.yes ?_
   conv => whnf
   refine Br.yes ?_
   conv => whnf
   refine Br.yes ?_
   conv => whnf
   refine Br.yes ?_
   conv => whnf
   refine Br.yes ?_
   conv => whnf
   refine Br.yes ?_
   conv => whnf
   refine Br.yes ?_
   conv => whnf
   refine Br.yes ?_
   conv => whnf
   cases h; exact ⟨rfl, rfl⟩
  conv => whnf
  refine Br.no ?_
  conv => whnf
  refine Br.no ?_
  conv => whnf
  refine Br.no ?_
  conv => whnf
  refine Br.od h (fun p5 h => ?_) (fun p5 h => ?_)
  ·conv => whnf
   refine Br.yes ?_
   conv => whnf
   refine Br.yes ?_
   conv => whnf
   refine Br.yes ?_
   conv => whnf
   refine Br.yes ?_
   conv => whnf
   refine Br.yes ?_
   conv => whnf
   refine Br.yes ?_
   conv => whnf
   refine Br.yes ?_
   conv => whnf
   cases h; exact ⟨rfl, rfl⟩
  conv => whnf
  refine Br.no ?_
  conv => whnf
  refine Br.no ?_
  conv => whnf
  refine Len.map ?_
  conv => whnf
  refine Ask.o h fun p6 h => ?_
  conv => whnf
  refine Elem.o (by first | omega | (simp [Ap] at *; omega)) ?_
  conv => whnf
  refine Br.no ?_
  conv => whnf
  refine Br.no ?_
  conv => whnf
  refine Br.no ?_
  conv => whnf
  refine Br.no ?_
  conv => whnf
  refine Br.on h (fun p7 h => ?_) (fun p7 h => ?_)
  ·conv => whnf
   cases h; exact ⟨rfl, rfl⟩
  conv => whnf
  refine Ask.o h fun p8 h => ?_
  conv => whnf
  cases h; exact ⟨rfl, rfl⟩
 conv => whnf
 cases h; exact ⟨rfl, rfl⟩
noncomputable def El (n0 : Int) (p0 : (List Int)) : Option Bool :=
 if (↑p0.length : Int) ≠ n0 then
 some false
 else
 (Al (Ck p0) (0 : Int)).bind fun t => match t with
 | (.inl _) => (some false)
 | (.inr _) => (some true)
theorem Rx {n0 : Int} {p0 : (List Int)} {v : Bool} (h : El n0 p0 = some v) : Ret Try.prog Ii [Af n0, (slr false 1 Af) p0] (V.bool v) := by
 refine A8 Abt (Nat.le_of_ble_eq_true rfl) ?_
 unfold El at h
 conv => whnf
 refine Len.map ?_
 conv => whnf
 refine Br.on h (fun p1 h => ?_) (fun p1 h => ?_)
 ·conv => whnf
  cases h; exact (by rfl)
 conv => whnf
 refine Len.map ?_
 conv => whnf
 refine LoopQ.o [13, 12, 11, 1] (Ix p0) (Nd p0) h (fun s o h => X1 s o h) (by rfl) (by rintro (_ | _) <;> rfl) ?_
 rintro (⟨⟩ | ⟨⟩) h
 ·try dsimp only at h
  conv => whnf
  cases h; exact (by rfl)
 try dsimp only at h
 conv => whnf
 cases h; exact (by rfl)
noncomputable def E2 (p0 : List Int) (x9 : Int) : (Int × SRelation) → Option ((Int × SRelation) ⊕ SRelation) := fun (x14, x3') =>
 if x14 < (↑p0.length : Int) then
 ask ((0 : Int) ≤ x9 ∧ x9 < (↑p0.length : Int)) <|
 ask ((0 : Int) ≤ x14 ∧ x14 < (↑p0.length : Int)) <|
 if nth p0 x9.toNat = nth p0 x14.toNat then
 ask ((x3'.Tuples).length + ([[x9, x14]]).length ≤ LIM) <|
 ask (InI (x14 + (1 : Int))) <|
 some (.inl (x14 + (1 : Int), { Arity := x3'.Arity, Tuples := x3'.Tuples ++ [[x9, x14]] }))
 else
 ask (InI (x14 + (1 : Int))) <|
 some (.inl (x14 + (1 : Int), x3'))
 else
 some (.inr x3')
def Eu (p0 : List Int) (x9 : Int) : (Int × SRelation) → St := fun s => [(14, A.val (Af s.1)), (13, A.val (Af ((↑p0.length : Int)))), (4, A.val (Af (x9))), (9, A.val (Af (x9))), (8, A.val (Af ((↑p0.length : Int)))), (3, A.val ((rP true (Ai true)) s.2)), (2, A.val ((rP true (Ai true)) ({ Arity := (0 : Int), Tuples := Av (List Int) }))), (0, A.val ((slr false 1 Af) (p0)))]
def Ia (p0 : List Int) (x9 : Int) : SRelation → Tgt
 | s => ((Ex.exit 2), [9, 8, 3, 2, 0], [(9, A.val (Af (x9))), (8, A.val (Af ((↑p0.length : Int)))), (3, A.val ((rP true (Ai true)) s)), (2, A.val ((rP true (Ai true)) ({ Arity := (0 : Int), Tuples := Av (List Int) }))), (0, A.val ((slr false 1 Af) (p0)))])
theorem Pj {p0 : List Int} {x9 : Int} (s : (Int × SRelation)) (o : (Int × SRelation) ⊕ SRelation) (h : E2 p0 x9 s = some o) : vc Try.prog H6 (Cu [14, 13, 4, 9, 8, 3, 2, 0] (Eu p0 x9) (Ia p0 x9) o) (Eu p0 x9 s) := by
 obtain ⟨x14, x3'⟩ := s
 unfold E2 at h
 try dsimp only at h
 conv => whnf
 refine Br.od h (fun p2 h => ?_) (fun p2 h => ?_)
 ·conv => whnf
  refine Len.map ?_
  conv => whnf
  refine Ask.o h fun p3 h => ?_
  conv => whnf
  refine Elem.o (by first | omega | (simp [Ap] at *; omega)) ?_
  conv => whnf
  refine Len.map ?_
  conv => whnf
  refine Ask.o h fun p4 h => ?_
  conv => whnf
  refine Elem.o (by first | omega | (simp [Ap] at *; omega)) ?_
  conv => whnf
  refine Br.oe h (fun p5 h => ?_) (fun p5 h => ?_)
  ·conv => whnf
   refine Cells.lit rfl rfl ?_
   conv => whnf
   refine BslQ.o Af ([x9, x14]) (by exact fun _ => ⟨rfl, rfl⟩) (by rfl) ?_
   conv => whnf
   refine BslQ.o (slr true 1 Af) ([[x9, x14]]) (by exact fun _ => ⟨rfl, rfl⟩) (by rfl) ?_
   conv => whnf
   refine NoOwn.own rfl ?_
   conv => whnf
   refine Kid.lit rfl rfl ?_
   conv => whnf
   refine Kid.lit rfl rfl ?_
   conv => whnf
   refine SetKids.lit rfl ?_
   conv => whnf
   refine AppQ.o (m := 1) (slr true 1 Af) (by exact fun _ => ⟨rfl, rfl⟩) (x3'.Tuples) ([[x9, x14]]) (by rfl) (by rfl) h fun h => ?_
   conv => whnf
   refine SetKids.lit rfl ?_
   conv => whnf
   refine Ask.o h fun p6 h => ?_
   conv => whnf
   cases h; exact ⟨rfl, rfl⟩
  conv => whnf
  refine Ask.o h fun p7 h => ?_
  conv => whnf
  cases h; exact ⟨rfl, rfl⟩
 conv => whnf
 cases h; exact ⟨rfl, rfl⟩
noncomputable def E5 (p0 : List Int) : (Int × SRelation) → Option ((Int × SRelation) ⊕ SRelation) := fun (x9, x3) =>
 if x9 < (↑p0.length : Int) then
 (Al (E2 p0 x9) ((0 : Int), x3)).bind fun q8_3 =>
 ask (InI (x9 + (1 : Int))) <|
 some (.inl (x9 + (1 : Int), q8_3))
 else
 some (.inr x3)
def E0 (p0 : List Int) : (Int × SRelation) → St := fun s => [(9, A.val (Af s.1)), (8, A.val (Af ((↑p0.length : Int)))), (3, A.val ((rP true (Ai true)) s.2)), (2, A.val ((rP true (Ai true)) ({ Arity := (0 : Int), Tuples := Av (List Int) }))), (0, A.val ((slr false 1 Af) (p0)))]
def H8 (_p0 : List Int) : SRelation → Tgt
 | s => ((Ex.exit 0), [3, 2], [(3, A.val ((rP true (Ai true)) s)), (2, A.val ((rP true (Ai true)) ({ Arity := (0 : Int), Tuples := Av (List Int) })))])
theorem O5 {p0 : List Int} (s : (Int × SRelation)) (o : (Int × SRelation) ⊕ SRelation) (h : E5 p0 s = some o) : vc Try.prog H3 (Cu [9, 8, 3, 2, 0] (E0 p0) (H8 p0) o) (E0 p0 s) := by
 obtain ⟨x9, x3⟩ := s
 unfold E5 at h
 try dsimp only at h
 conv => whnf
 refine Br.od h (fun p1 h => ?_) (fun p1 h => ?_)
 ·conv => whnf
  refine Len.map ?_
  conv => whnf
  refine LoopQ.o [14, 13, 4, 9, 8, 3, 2, 0] (Eu p0 x9) (Ia p0 x9) h (fun s o h => Pj s o h) (by rfl) (fun _ => rfl) ?_
  rintro q8_3 h
  try dsimp only at h
  conv => whnf
  refine Ask.o h fun p9 h => ?_
  conv => whnf
  cases h; exact ⟨rfl, rfl⟩
 conv => whnf
 cases h; exact ⟨rfl, rfl⟩
noncomputable def C1 (p0 : (List Int)) : Option SRelation :=
 (Al (E5 p0) ((0 : Int), { Arity := (2 : Int), Tuples := Av (List Int) })).bind fun q10_3 =>
 some q10_3
theorem Rv {p0 : (List Int)} {v : SRelation} (h : C1 p0 = some v) : Ret Try.prog Gf [(slr false 1 Af) p0] ((Ai true) v) := by
 refine A8 Rj (Nat.le_of_ble_eq_true rfl) ?_
 unfold C1 at h
 conv => whnf
 refine SetKids.lit rfl ?_
 conv => whnf
 refine Len.map ?_
 conv => whnf
 refine LoopQ.o [9, 8, 3, 2, 0] (E0 p0) (H8 p0) h (fun s o h => O5 s o h) (by rfl) (fun _ => rfl) ?_
 rintro q10_3 h
 try dsimp only at h
 conv => whnf
 refine Cells.lit rfl rfl ?_
 conv => whnf
 refine SetKids.lit rfl ?_
 conv => whnf
 cases h; exact (by rfl)
end Go.Proofs.Ytcpgnfohmeineaa.Ax
