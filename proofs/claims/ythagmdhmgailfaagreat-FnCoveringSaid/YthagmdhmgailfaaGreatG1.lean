/-
 What the functions compute, as functions on plain data, and that the program does compute it; written by program.
-/
import Derived.Test.YthagmdhmgailfaaGreatCode
namespace Go.Proofs.YthagmdhmgailfaaGreat.Ax
open Go
set_option maxRecDepth 100000
set_option maxHeartbeats 4000000
noncomputable def Sq (code0 : (List Int)) : Option Bool :=
 some (decide ((↑code0.length : Int) > (65536 : Int)))
theorem Are {code0 : (List Int)} {v : Bool} (h : Sq code0 = some v) : Ret Tryz.prog Zv [(slr false 1 (V.int IntKind.u8)) code0] (V.bool v) := by
 refine Ay Apw (Nat.le_of_ble_eq_true rfl) ?_
 unfold Sq at h
 refine Len.map ?_
 cases h; exact (by rfl)
noncomputable def B4 (a0 : List Int) (b0 : List Int) : Int → Option (Int ⊕ (Unit ⊕ Unit)) := fun x5 =>
 if x5 < (↑a0.length : Int) then
 ask ((0 : Int) ≤ x5 ∧ x5 < (↑a0.length : Int)) <|
 ask ((0 : Int) ≤ x5 ∧ x5 < (↑b0.length : Int)) <|
 if nth a0 x5.toNat ≠ nth b0 x5.toNat then
 some (.inr (.inl ()))
 else
 ask (InI (x5 + (1 : Int))) <|
 some (.inl (x5 + (1 : Int)))
 else
 some (.inr (.inr ()))
def Pn (a0 : List Int) (b0 : List Int) : Int → St := fun s => [(5, A.val (Af s)), (0, A.val ((slr false 1 Af) (a0))), (1, A.val ((slr false 1 Af) (b0)))]
def Xm (_a0 : List Int) (_b0 : List Int) : (Unit ⊕ Unit) → Tgt
 | (.inl _s) => (Ex.ret, [4], [(4, A.val (V.bool (false)))])
 | (.inr _s) => ((Ex.exit 0), [], [])
theorem Ahv {a0 : List Int} {b0 : List Int} (x5 : Int) (o : Int ⊕ (Unit ⊕ Unit)) (h : B4 a0 b0 x5 = some o) : vc Tryz.prog Xq (Da [5, 0, 1] (Pn a0 b0) (Xm a0 b0) o) (Pn a0 b0 x5) := by
 unfold B4 at h
 try dsimp only at h
 refine Len.map <| Br.od h (fun p2 h => ?_) (fun p2 h => ?_)
 ·refine Len.map <| Ask.o h fun p3 h => Elem.o (by first | omega | (simp [Ar] at * <;> omega)) <| Len.map <| Ask.o h fun p4 h => Elem.o (by first | omega | (simp [Ar] at * <;> omega)) <| Br.on h (fun p5 h => ?_) (fun p5 h => ?_)
  ·cases h; exact ⟨rfl, rfl⟩
  refine Ask.o h fun p6 h => ?_
  cases h; exact ⟨rfl, rfl⟩
 cases h; exact ⟨rfl, rfl⟩
noncomputable def Dj (a0 : (List Int)) (b0 : (List Int)) : Option Bool :=
 if (↑a0.length : Int) ≠ (↑b0.length : Int) then
 some false
 else
 (Al (B4 a0 b0) (0 : Int)).bind fun t => match t with
 | (.inl _) => (some false)
 | (.inr _) => (some true)
theorem L6 {a0 : (List Int)} {b0 : (List Int)} {v : Bool} (h : Dj a0 b0 = some v) : Ret Tryz.prog H9 [(slr false 1 Af) a0, (slr false 1 Af) b0] (V.bool v) := by
 refine Ay Apb (Nat.le_of_ble_eq_true rfl) ?_
 unfold Dj at h
 refine Len.map <| Len.map <| Br.on h (fun p1 h => ?_) (fun p1 h => ?_)
 ·cases h; exact (by rfl)
 refine LoopQ.o [5, 0, 1] (Pn a0 b0) (Xm a0 b0) h (fun s o h => Ahv s o h) (by rfl) (by rintro (_ | _) <;> rfl) ?_
 rintro (⟨⟩ | ⟨⟩) h
 ·try dsimp only at h
  cases h; exact (by rfl)
 try dsimp only at h
 cases h; exact (by rfl)
noncomputable def Fq (p0 : List Int) (q0 : List Int) : Int → Option (Int ⊕ (Unit ⊕ Unit)) := fun x9 =>
 if x9 < (↑p0.length : Int) then
 ask ((0 : Int) ≤ x9 ∧ x9 < (↑p0.length : Int)) <|
 ask ((0 : Int) ≤ nth p0 x9.toNat ∧ nth p0 x9.toNat < (↑q0.length : Int)) <|
 ask ((0 : Int) ≤ x9 ∧ x9 < (↑q0.length : Int)) <|
 if nth q0 (nth p0 x9.toNat).toNat ≠ nth q0 x9.toNat then
 some (.inr (.inl ()))
 else
 ask (InI (x9 + (1 : Int))) <|
 some (.inl (x9 + (1 : Int)))
 else
 some (.inr (.inr ()))
def Pa (p0 : List Int) (q0 : List Int) : Int → St := fun s => [(9, A.val (Af s)), (8, A.val (Af ((↑p0.length : Int)))), (7, A.val ((slr false 1 Af) (p0))), (1, A.val ((slr false 1 Af) (q0)))]
def Xd (_p0 : List Int) (_q0 : List Int) : (Unit ⊕ Unit) → Tgt
 | (.inl _s) => (Ex.ret, [4], [(4, A.val (V.bool (false)))])
 | (.inr _s) => ((Ex.exit 0), [], [])
theorem Ahl {p0 : List Int} {q0 : List Int} (x9 : Int) (o : Int ⊕ (Unit ⊕ Unit)) (h : Fq p0 q0 x9 = some o) : vc Tryz.prog Xc (Da [9, 8, 7, 1] (Pa p0 q0) (Xd p0 q0) o) (Pa p0 q0 x9) := by
 unfold Fq at h
 try dsimp only at h
 refine Br.od h (fun p1 h => ?_) (fun p1 h => ?_)
 ·refine Len.map <| Ask.o h fun p2 h => Elem.o (by first | omega | (simp [Ar] at * <;> omega)) <| Len.map <| Ask.o h fun p3 h => Elem.o (by first | omega | (simp [Ar] at * <;> omega)) <| Len.map <| Ask.o h fun p4 h => Elem.o (by first | omega | (simp [Ar] at * <;> omega)) <| Br.on h (fun p5 h => ?_) (fun p5 h => ?_)
  ·cases h; exact ⟨rfl, rfl⟩
  refine Ask.o h fun p6 h => ?_
  cases h; exact ⟨rfl, rfl⟩
 cases h; exact ⟨rfl, rfl⟩
noncomputable def Gv (p0 : (List Int)) (q0 : (List Int)) : Option Bool :=
 (Al (Fq p0 q0) (0 : Int)).bind fun t => match t with
 | (.inl _) => (some false)
 | (.inr _) => (some true)
theorem Qh {p0 : (List Int)} {q0 : (List Int)} {v : Bool} (h : Gv p0 q0 = some v) : Ret Tryz.prog Id [(slr false 1 Af) p0, (slr false 1 Af) q0] (V.bool v) := by
 refine Ay An9 (Nat.le_of_ble_eq_true rfl) ?_
 unfold Gv at h
 refine Len.map <| LoopQ.o [9, 8, 7, 1] (Pa p0 q0) (Xd p0 q0) h (fun s o h => Ahl s o h) (by rfl) (by rintro (_ | _) <;> rfl) ?_
 rintro (⟨⟩ | ⟨⟩) h
 ·try dsimp only at h
  cases h; exact (by rfl)
 try dsimp only at h
 cases h; exact (by rfl)
noncomputable def Cp (n0 : Int) : (Int × (List Int)) → Option ((Int × (List Int)) ⊕ (List Int)) := fun (x4, x3) =>
 if x4 < n0 then
 ask ((x3).length + ([x4]).length ≤ LIM) <|
 ask (InI (x4 + (1 : Int))) <|
 some (.inl (x4 + (1 : Int), x3 ++ [x4]))
 else
 some (.inr x3)
def Jr (n0 : Int) : (Int × (List Int)) → St := fun s => [(4, A.val (Af s.1)), (3, A.val ((slr true 1 Af) s.2)), (0, A.val (Af (n0)))]
def Ot (_n0 : Int) : (List Int) → Tgt
 | s => ((Ex.exit 0), [3], [(3, A.val ((slr true 1 Af) s))])
theorem Yb {n0 : Int} (s : (Int × (List Int))) (o : (Int × (List Int)) ⊕ (List Int)) (h : Cp n0 s = some o) : vc Tryz.prog Oa (Da [4, 3, 0] (Jr n0) (Ot n0) o) (Jr n0 s) := by
 obtain ⟨x4, x3⟩ := s
 unfold Cp at h
 try dsimp only at h
 refine Br.od h (fun p1 h => ?_) (fun p1 h => ?_)
 ·refine BslQ.o Af [x4] (by exact fun _ => ⟨rfl, rfl⟩) (by rfl) <| NoOwn.o (fun _ => rfl) <| AppQ.o (m := 1) Af (by exact fun _ => ⟨rfl, rfl⟩) (x3) ([x4]) (by rfl) (by rfl) h fun h => Ask.o h fun p2 h => ?_
  cases h; exact ⟨rfl, rfl⟩
 cases h; exact ⟨rfl, rfl⟩
noncomputable def B8 (n0 : Int) : Option (List Int) :=
 (Al (Cp n0) ((0 : Int), Aq Int)).bind fun q3_3 =>
 some q3_3
theorem Fb {n0 : Int} {v : (List Int)} (h : B8 n0 = some v) : Ret Tryz.prog C8 [Af n0] ((slr true 1 Af) v) := by
 refine Ay Adt (Nat.le_of_ble_eq_true rfl) ?_
 unfold B8 at h
 refine BslQ.o Af (Aq Int) (by exact fun _ => ⟨rfl, rfl⟩) (by rfl) <| LoopQ.o [4, 3, 0] (Jr n0) (Ot n0) h (fun s o h => Yb s o h) (by rfl) (fun _ => rfl) ?_
 rintro q3_3 h
 try dsimp only at h
 cases h; exact (by rfl)
noncomputable def N0 (n0 : Int) : Option Bool :=
 if n0 ≥ (1 : Int) then
 some (decide (n0 ≤ (8 : Int)))
 else
 some false
theorem Alw {n0 : Int} {v : Bool} (h : N0 n0 = some v) : Ret Tryz.prog Tl [Af n0] (V.bool v) := by
 refine Ay Alg (Nat.le_of_ble_eq_true rfl) ?_
 unfold N0 at h
 refine Br.od h (fun p1 h => ?_) (fun p1 h => ?_)
 ·refine Br.yes <| Br.yes ?_
  cases h; exact (by rfl)
 refine Br.no <| Br.no ?_
 cases h; exact (by rfl)
noncomputable def Ch (p0 : List Int) : Int → Option (Int ⊕ (Unit ⊕ Unit)) := fun x13 =>
 if x13 < (↑p0.length : Int) then
 ask ((0 : Int) ≤ x13 ∧ x13 < (↑p0.length : Int)) <|
 if nth p0 x13.toNat < (0 : Int) then
 some (.inr (.inl ()))
 else
 if nth p0 x13.toNat > x13 then
 some (.inr (.inl ()))
 else
 ask ((0 : Int) ≤ nth p0 x13.toNat ∧ nth p0 x13.toNat < (↑p0.length : Int)) <|
 if nth p0 (nth p0 x13.toNat).toNat ≠ nth p0 x13.toNat then
 some (.inr (.inl ()))
 else
 ask (InI (x13 + (1 : Int))) <|
 some (.inl (x13 + (1 : Int)))
 else
 some (.inr (.inr ()))
def It (p0 : List Int) : Int → St := fun s => [(13, A.val (Af s)), (12, A.val (Af ((↑p0.length : Int)))), (11, A.val ((slr false 1 Af) (p0))), (1, A.val ((slr false 1 Af) (p0)))]
def Mp (_p0 : List Int) : (Unit ⊕ Unit) → Tgt
 | (.inl _s) => (Ex.ret, [4], [(4, A.val (V.bool (false)))])
 | (.inr _s) => ((Ex.exit 0), [], [])
theorem Xy {p0 : List Int} (x13 : Int) (o : Int ⊕ (Unit ⊕ Unit)) (h : Ch p0 x13 = some o) : vc Tryz.prog Ms (Da [13, 12, 11, 1] (It p0) (Mp p0) o) (It p0 x13) := by
 unfold Ch at h
 try dsimp only at h
 refine Br.od h (fun p2 h => ?_) (fun p2 h => ?_)
 ·refine Len.map <| Ask.o h fun p3 h => Elem.o (by first | omega | (simp [Ar] at * <;> omega)) <| Br.od h (fun p4 h => ?_) (fun p4 h => ?_)
  ·refine Br.yes <| Br.yes <| Br.yes <| Br.yes <| Br.yes <| Br.yes <| Br.yes <| Br.yes <| Br.yes <| Br.yes <| Br.yes ?_
   cases h; exact ⟨rfl, rfl⟩
  refine Br.no <| Br.no <| Br.no <| Br.od h (fun p5 h => ?_) (fun p5 h => ?_)
  ·refine Br.yes <| Br.yes <| Br.yes <| Br.yes <| Br.yes <| Br.yes <| Br.yes ?_
   cases h; exact ⟨rfl, rfl⟩
  refine Br.no <| Br.no <| Len.map <| Ask.o h fun p6 h => Elem.o (by first | omega | (simp [Ar] at * <;> omega)) <| Br.no <| Br.no <| Br.no <| Br.no <| Br.on h (fun p7 h => ?_) (fun p7 h => ?_)
  ·cases h; exact ⟨rfl, rfl⟩
  refine Ask.o h fun p8 h => ?_
  cases h; exact ⟨rfl, rfl⟩
 cases h; exact ⟨rfl, rfl⟩
noncomputable def Dn (n0 : Int) (p0 : (List Int)) : Option Bool :=
 if (↑p0.length : Int) ≠ n0 then
 some false
 else
 (Al (Ch p0) (0 : Int)).bind fun t => match t with
 | (.inl _) => (some false)
 | (.inr _) => (some true)
theorem K8 {n0 : Int} {p0 : (List Int)} {v : Bool} (h : Dn n0 p0 = some v) : Ret Tryz.prog Gb [Af n0, (slr false 1 Af) p0] (V.bool v) := by
 refine Ay Abg (Nat.le_of_ble_eq_true rfl) ?_
 unfold Dn at h
 refine Len.map <| Br.on h (fun p1 h => ?_) (fun p1 h => ?_)
 ·cases h; exact (by rfl)
 refine Len.map <| LoopQ.o [13, 12, 11, 1] (It p0) (Mp p0) h (fun s o h => Xy s o h) (by rfl) (by rintro (_ | _) <;> rfl) ?_
 rintro (⟨⟩ | ⟨⟩) h
 ·try dsimp only at h
  cases h; exact (by rfl)
 try dsimp only at h
 cases h; exact (by rfl)
noncomputable def Ey (list0 : List Int) (n0 : Int) : Int → Option (Int ⊕ (Unit ⊕ Unit)) := fun x9 =>
 if x9 < (↑list0.length : Int) then
 ask ((0 : Int) ≤ x9 ∧ x9 < (↑list0.length : Int)) <|
 if nth list0 x9.toNat < (0 : Int) then
 some (.inr (.inl ()))
 else
 if nth list0 x9.toNat ≥ n0 then
 some (.inr (.inl ()))
 else
 ask (InI (x9 + (1 : Int))) <|
 some (.inl (x9 + (1 : Int)))
 else
 some (.inr (.inr ()))
def Nu (list0 : List Int) (n0 : Int) : Int → St := fun s => [(9, A.val (Af s)), (8, A.val (Af ((↑list0.length : Int)))), (7, A.val ((slr false 1 Af) (list0))), (1, A.val (Af (n0)))]
def U0 (_list0 : List Int) (_n0 : Int) : (Unit ⊕ Unit) → Tgt
 | (.inl _s) => (Ex.ret, [4], [(4, A.val (V.bool (false)))])
 | (.inr _s) => ((Ex.exit 0), [], [])
theorem Afd {list0 : List Int} {n0 : Int} (x9 : Int) (o : Int ⊕ (Unit ⊕ Unit)) (h : Ey list0 n0 x9 = some o) : vc Tryz.prog Vq (Da [9, 8, 7, 1] (Nu list0 n0) (U0 list0 n0) o) (Nu list0 n0 x9) := by
 unfold Ey at h
 try dsimp only at h
 refine Br.od h (fun p1 h => ?_) (fun p1 h => ?_)
 ·refine Len.map <| Ask.o h fun p2 h => Elem.o (by first | omega | (simp [Ar] at * <;> omega)) <| Br.od h (fun p3 h => ?_) (fun p3 h => ?_)
  ·refine Br.yes <| Br.yes <| Br.yes <| Br.yes ?_
   cases h; exact ⟨rfl, rfl⟩
  refine Br.no <| Br.no <| Br.no <| Br.od h (fun p4 h => ?_) (fun p4 h => ?_)
  ·cases h; exact ⟨rfl, rfl⟩
  refine Ask.o h fun p5 h => ?_
  cases h; exact ⟨rfl, rfl⟩
 cases h; exact ⟨rfl, rfl⟩
noncomputable def Hb (list0 : (List Int)) (n0 : Int) : Option Bool :=
 (Al (Ey list0 n0) (0 : Int)).bind fun t => match t with
 | (.inl _) => (some false)
 | (.inr _) => (some true)
theorem Tv {list0 : (List Int)} {n0 : Int} {v : Bool} (h : Hb list0 n0 = some v) : Ret Tryz.prog Ky [(slr false 1 Af) list0, Af n0] (V.bool v) := by
 refine Ay Alf (Nat.le_of_ble_eq_true rfl) ?_
 unfold Hb at h
 refine Len.map <| LoopQ.o [9, 8, 7, 1] (Nu list0 n0) (U0 list0 n0) h (fun s o h => Afd s o h) (by rfl) (by rintro (_ | _) <;> rfl) ?_
 rintro (⟨⟩ | ⟨⟩) h
 ·try dsimp only at h
  cases h; exact (by rfl)
 try dsimp only at h
 cases h; exact (by rfl)
noncomputable def Ee (x0 : Int) (a0 : Int) (b0 : Int) : Option Bool :=
 if x0 ≥ a0 then
 some (decide (x0 ≤ b0))
 else
 some false
theorem Lx {x0 : Int} {a0 : Int} {b0 : Int} {v : Bool} (h : Ee x0 a0 b0 = some v) : Ret Tryz.prog H6 [Af x0, Af a0, Af b0] (V.bool v) := by
 refine Ay Aqo (Nat.le_of_ble_eq_true rfl) ?_
 unfold Ee at h
 refine Br.od h (fun p1 h => ?_) (fun p1 h => ?_)
 ·refine Br.yes <| Br.yes <| Br.yes ?_
  cases h; exact (by rfl)
 refine Br.no <| Br.no <| Br.no ?_
 cases h; exact (by rfl)
noncomputable def G1 (list0 : (List Int)) : Option (List Int) :=
 ask ((Aq Int).length + (list0).length ≤ LIM) <|
 some (Aq Int ++ list0)
theorem Wu {list0 : (List Int)} {v : (List Int)} (h : G1 list0 = some v) : Ret Tryz.prog Mc [(slr false 1 Af) list0] ((slr true 1 Af) v) := by
 refine Ay Aol (Nat.le_of_ble_eq_true rfl) ?_
 unfold G1 at h
 refine BslQ.o Af (Aq Int) (by exact fun _ => ⟨rfl, rfl⟩) (by rfl) <| AppQ.o (m := 1) Af (by exact fun _ => ⟨rfl, rfl⟩) (Aq Int) (list0) (by rfl) (by rfl) h fun h => ?_
 cases h; exact (by rfl)
noncomputable def D8 (p0 : List Int) (q0 : List Int) : Int → Option (Int ⊕ (Unit ⊕ Unit)) := fun x5 =>
 if x5 < (↑p0.length : Int) then
 ask ((0 : Int) ≤ x5 ∧ x5 < (↑p0.length : Int)) <|
 ask ((0 : Int) ≤ nth p0 x5.toNat ∧ nth p0 x5.toNat < (↑q0.length : Int)) <|
 ask ((0 : Int) ≤ x5 ∧ x5 < (↑q0.length : Int)) <|
 if nth q0 (nth p0 x5.toNat).toNat ≠ nth q0 x5.toNat then
 some (.inr (.inl ()))
 else
 ask (InI (x5 + (1 : Int))) <|
 some (.inl (x5 + (1 : Int)))
 else
 some (.inr (.inr ()))
def L4 (p0 : List Int) (q0 : List Int) : Int → St := fun s => [(5, A.val (Af s)), (0, A.val ((slr false 1 Af) (p0))), (1, A.val ((slr false 1 Af) (q0)))]
def Sl (_p0 : List Int) (_q0 : List Int) : (Unit ⊕ Unit) → Tgt
 | (.inl _s) => (Ex.ret, [4], [(4, A.val (V.bool (false)))])
 | (.inr _s) => ((Ex.exit 0), [], [])
theorem Adh {p0 : List Int} {q0 : List Int} (x5 : Int) (o : Int ⊕ (Unit ⊕ Unit)) (h : D8 p0 q0 x5 = some o) : vc Tryz.prog S9 (Da [5, 0, 1] (L4 p0 q0) (Sl p0 q0) o) (L4 p0 q0 x5) := by
 unfold D8 at h
 try dsimp only at h
 refine Len.map <| Br.od h (fun p1 h => ?_) (fun p1 h => ?_)
 ·refine Len.map <| Ask.o h fun p2 h => Elem.o (by first | omega | (simp [Ar] at * <;> omega)) <| Len.map <| Ask.o h fun p3 h => Elem.o (by first | omega | (simp [Ar] at * <;> omega)) <| Len.map <| Ask.o h fun p4 h => Elem.o (by first | omega | (simp [Ar] at * <;> omega)) <| Br.on h (fun p5 h => ?_) (fun p5 h => ?_)
  ·cases h; exact ⟨rfl, rfl⟩
  refine Ask.o h fun p6 h => ?_
  cases h; exact ⟨rfl, rfl⟩
 cases h; exact ⟨rfl, rfl⟩
noncomputable def Gg (p0 : (List Int)) (q0 : (List Int)) : Option Bool :=
 (Al (D8 p0 q0) (0 : Int)).bind fun t => match t with
 | (.inl _) => (some false)
 | (.inr _) => (some true)
theorem Re {p0 : (List Int)} {q0 : (List Int)} {v : Bool} (h : Gg p0 q0 = some v) : Ret Tryz.prog Jl [(slr false 1 Af) p0, (slr false 1 Af) q0] (V.bool v) := by
 refine Ay Ai4 (Nat.le_of_ble_eq_true rfl) ?_
 unfold Gg at h
 refine LoopQ.o [5, 0, 1] (L4 p0 q0) (Sl p0 q0) h (fun s o h => Adh s o h) (by rfl) (by rintro (_ | _) <;> rfl) ?_
 rintro (⟨⟩ | ⟨⟩) h
 ·try dsimp only at h
  cases h; exact (by rfl)
 try dsimp only at h
 cases h; exact (by rfl)
noncomputable def En (a0 : List Int) (b0 : List Int) : Int → Option (Int ⊕ (Unit ⊕ Unit)) := fun x5 =>
 if x5 < (↑a0.length : Int) then
 ask ((0 : Int) ≤ x5 ∧ x5 < (↑a0.length : Int)) <|
 ask ((0 : Int) ≤ x5 ∧ x5 < (↑b0.length : Int)) <|
 if nth a0 x5.toNat ≠ nth b0 x5.toNat then
 some (.inr (.inl ()))
 else
 ask (InI (x5 + (1 : Int))) <|
 some (.inl (x5 + (1 : Int)))
 else
 some (.inr (.inr ()))
def M0 (a0 : List Int) (b0 : List Int) : Int → St := fun s => [(5, A.val (Af s)), (0, A.val ((slr false 1 Af) (a0))), (1, A.val ((slr false 1 Af) (b0)))]
def Vt (_a0 : List Int) (_b0 : List Int) : (Unit ⊕ Unit) → Tgt
 | (.inl _s) => (Ex.ret, [4], [(4, A.val (V.bool (false)))])
 | (.inr _s) => ((Ex.exit 0), [], [])
theorem Afa {a0 : List Int} {b0 : List Int} (x5 : Int) (o : Int ⊕ (Unit ⊕ Unit)) (h : En a0 b0 x5 = some o) : vc Tryz.prog V1 (Da [5, 0, 1] (M0 a0 b0) (Vt a0 b0) o) (M0 a0 b0 x5) := by
 unfold En at h
 try dsimp only at h
 refine Len.map <| Br.od h (fun p2 h => ?_) (fun p2 h => ?_)
 ·refine Len.map <| Ask.o h fun p3 h => Elem.o (by first | omega | (simp [Ar] at * <;> omega)) <| Len.map <| Ask.o h fun p4 h => Elem.o (by first | omega | (simp [Ar] at * <;> omega)) <| Br.on h (fun p5 h => ?_) (fun p5 h => ?_)
  ·cases h; exact ⟨rfl, rfl⟩
  refine Ask.o h fun p6 h => ?_
  cases h; exact ⟨rfl, rfl⟩
 cases h; exact ⟨rfl, rfl⟩
noncomputable def Dc (a0 : (List Int)) (b0 : (List Int)) : Option Bool :=
 if (↑a0.length : Int) ≠ (↑b0.length : Int) then
 some false
 else
 (Al (En a0 b0) (0 : Int)).bind fun t => match t with
 | (.inl _) => (some false)
 | (.inr _) => (some true)
theorem Iq {a0 : (List Int)} {b0 : (List Int)} {v : Bool} (h : Dc a0 b0 = some v) : Ret Tryz.prog F0 [(slr false 1 Af) a0, (slr false 1 Af) b0] (V.bool v) := by
 refine Ay Ali (Nat.le_of_ble_eq_true rfl) ?_
 unfold Dc at h
 refine Len.map <| Len.map <| Br.on h (fun p1 h => ?_) (fun p1 h => ?_)
 ·cases h; exact (by rfl)
 refine LoopQ.o [5, 0, 1] (M0 a0 b0) (Vt a0 b0) h (fun s o h => Afa s o h) (by rfl) (by rintro (_ | _) <;> rfl) ?_
 rintro (⟨⟩ | ⟨⟩) h
 ·try dsimp only at h
  cases h; exact (by rfl)
 try dsimp only at h
 cases h; exact (by rfl)
noncomputable def Dk (a0 : List Int) (b0 : List Int) : Int → Option (Int ⊕ (Unit ⊕ Unit)) := fun x14 =>
 if x14 < (↑a0.length : Int) then
 ask ((0 : Int) ≤ x14 ∧ x14 < (↑a0.length : Int)) <|
 ask ((0 : Int) ≤ x14 ∧ x14 < (↑b0.length : Int)) <|
 if nth b0 x14.toNat ≠ nth a0 x14.toNat then
 some (.inr (.inl ()))
 else
 ask (InI (x14 + (1 : Int))) <|
 some (.inl (x14 + (1 : Int)))
 else
 some (.inr (.inr ()))
def K4 (a0 : List Int) (b0 : List Int) : Int → St := fun s => [(14, A.val (Af s)), (13, A.val (Af ((↑a0.length : Int)))), (12, A.val ((slr false 1 Af) (a0))), (1, A.val ((slr false 1 Af) (b0)))]
def Qs (_a0 : List Int) (_b0 : List Int) : (Unit ⊕ Unit) → Tgt
 | (.inl _s) => (Ex.ret, [4], [(4, A.val (V.bool (false)))])
 | (.inr _s) => ((Ex.exit 0), [], [])
theorem Abp {a0 : List Int} {b0 : List Int} (x14 : Int) (o : Int ⊕ (Unit ⊕ Unit)) (h : Dk a0 b0 x14 = some o) : vc Tryz.prog Qx (Da [14, 13, 12, 1] (K4 a0 b0) (Qs a0 b0) o) (K4 a0 b0 x14) := by
 unfold Dk at h
 try dsimp only at h
 refine Br.od h (fun p2 h => ?_) (fun p2 h => ?_)
 ·refine Len.map <| Ask.o h fun p3 h => Elem.o (by first | omega | (simp [Ar] at * <;> omega)) <| Len.map <| Ask.o h fun p4 h => Elem.o (by first | omega | (simp [Ar] at * <;> omega)) <| Br.on h (fun p5 h => ?_) (fun p5 h => ?_)
  ·cases h; exact ⟨rfl, rfl⟩
  refine Ask.o h fun p6 h => ?_
  cases h; exact ⟨rfl, rfl⟩
 cases h; exact ⟨rfl, rfl⟩
noncomputable def Ik (a0 : (List Int)) (b0 : (List Int)) : Option Bool :=
 if (↑a0.length : Int) ≠ (↑b0.length : Int) then
 some false
 else
 (Al (Dk a0 b0) (0 : Int)).bind fun t => match t with
 | (.inl _) => (some false)
 | (.inr _) => (some true)
theorem Ahz {a0 : (List Int)} {b0 : (List Int)} {v : Bool} (h : Ik a0 b0 = some v) : Ret Tryz.prog Ph [(slr false 1 Af) a0, (slr false 1 Af) b0] (V.bool v) := by
 refine Ay Ag5 (Nat.le_of_ble_eq_true rfl) ?_
 unfold Ik at h
 refine Len.map <| Len.map <| Br.on h (fun p1 h => ?_) (fun p1 h => ?_)
 ·cases h; exact (by rfl)
 refine Len.map <| LoopQ.o [14, 13, 12, 1] (K4 a0 b0) (Qs a0 b0) h (fun s o h => Abp s o h) (by rfl) (by rintro (_ | _) <;> rfl) ?_
 rintro (⟨⟩ | ⟨⟩) h
 ·try dsimp only at h
  cases h; exact (by rfl)
 try dsimp only at h
 cases h; exact (by rfl)
noncomputable def Kd (n0 : Int) : Option (List Int) :=
 ask ((0 : Int) ≤ n0 ∧ n0 ≤ (↑LIM : Int)) <|
 some (List.replicate n0.toNat (0 : Int))
theorem Al6 {n0 : Int} {v : (List Int)} (h : Kd n0 = some v) : Ret Tryz.prog Ul [Af n0] ((slr true 1 Af) v) := by
 refine Ay Ak1 (Nat.le_of_ble_eq_true rfl) ?_
 unfold Kd at h
 refine Ask.o h fun p1 h => MkQ.o Af ((0 : Int)) rfl ?_
 cases h; exact (by rfl)
noncomputable def Fi (n0 : Int) : (Int × Int) → Option ((Int × Int) ⊕ Int) := fun (x5, x1) =>
 if x1 > (0 : Int) then
 ask (InI (x5 * n0)) <|
 ask (InI (x1 - (1 : Int))) <|
 some (.inl (x5 * n0, x1 - (1 : Int)))
 else
 some (.inr x5)
def Pf (n0 : Int) : (Int × Int) → St := fun s => [(5, A.val (Af s.1)), (0, A.val (Af (n0))), (1, A.val (Af s.2))]
def Xe (_n0 : Int) : Int → Tgt
 | s => ((Ex.exit 0), [5], [(5, A.val (Af s))])
theorem Ahb {n0 : Int} (s : (Int × Int)) (o : (Int × Int) ⊕ Int) (h : Fi n0 s = some o) : vc Tryz.prog Xo (Da [5, 0, 1] (Pf n0) (Xe n0) o) (Pf n0 s) := by
 obtain ⟨x5, x1⟩ := s
 unfold Fi at h
 try dsimp only at h
 refine Br.od h (fun p1 h => ?_) (fun p1 h => ?_)
 ·refine Ask.o h fun p2 h => Ask.o h fun p3 h => ?_
  cases h; exact ⟨rfl, rfl⟩
 cases h; exact ⟨rfl, rfl⟩
noncomputable def Ie (n0 : Int) (k0 : Int) : Option Int :=
 (Al (Fi n0) ((1 : Int), k0)).bind fun q4_5 =>
 some q4_5
theorem Aer {n0 : Int} {k0 : Int} {v : Int} (h : Ie n0 k0 = some v) : Ret Tryz.prog Ql [Af n0, Af k0] (Af v) := by
 refine Ay Aog (Nat.le_of_ble_eq_true rfl) ?_
 unfold Ie at h
 refine LoopQ.o [5, 0, 1] (Pf n0) (Xe n0) h (fun s o h => Ahb s o h) (by rfl) (fun _ => rfl) ?_
 rintro q4_5 h
 try dsimp only at h
 cases h; exact (by rfl)
noncomputable def Fa (c0 : Sl1Cur) : Option (Int × Sl1Cur) :=
 ((if c0.at_ < (↑c0.code.length : Int) then
 ask ((0 : Int) ≤ c0.at_ ∧ c0.at_ < (↑c0.code.length : Int)) <|
 some (IntKind.i64.wrap (nth c0.code c0.at_.toNat))
 else
 some (0 : Int) : Option Int)).bind fun q3_3 =>
 ask (InI (c0.at_ + (1 : Int))) <|
 if c0.at_ + (1 : Int) ≤ (↑c0.code.length : Int) then
 some (q3_3, { code := c0.code, at_ := c0.at_ + (1 : Int), seed := IntKind.u64.wrap (IntKind.u64.wrap (IntKind.u64.wrap (c0.seed * (6364136223846793005 : Int)) + IntKind.u64.wrap q3_3) + (550289 : Int)) })
 else
 some (IntKind.i64.wrap (IntKind.u64.wrap (↑(BitVec.ofInt IntKind.u64.bits ((IntKind.u64.wrap (IntKind.u64.wrap (IntKind.u64.wrap (c0.seed * (6364136223846793005 : Int)) + IntKind.u64.wrap q3_3) + (550289 : Int))).fdiv ((2 : Int) ^ min (Int.toNat (40 : Int)) IntKind.u64.bits)) &&& BitVec.ofInt IntKind.u64.bits (255 : Int)).toNat : Int)), { code := c0.code, at_ := c0.at_ + (1 : Int), seed := IntKind.u64.wrap (IntKind.u64.wrap (IntKind.u64.wrap (c0.seed * (6364136223846793005 : Int)) + IntKind.u64.wrap q3_3) + (550289 : Int)) })
theorem S7 {c0 : Sl1Cur} {v : (Int × Sl1Cur)} (h : Fa c0 = some v) : Wy Tryz.prog I1 [(rP true (Aj false)) c0] (Af v.1) 0 ((rP true (Aj false)) v.2) := by
 refine N6 Acy (Nat.le_of_ble_eq_true rfl) ?_
 unfold Fa at h
 refine CutQ.o (fun t : Int => match t with | s => (Ex.normal, [3, 0, 62], [(3, A.val (Af s)), (0, A.ref 62 []), (62, A.val ((rP true (Aj false)) (c0)))])) h ?_ ?_
 ·intro t h
  refine Cells.lit rfl rfl <| Cells.lit rfl rfl <| Len.map <| Br.od h (fun p1 h => ?_) (fun p1 h => ?_)
  ·refine Cells.lit rfl rfl <| Cells.lit rfl rfl <| Len.map <| Ask.o h fun p2 h => Elem.o (by first | omega | (simp [Ar] at * <;> omega)) ?_
   cases h; exact ⟨rfl, rfl⟩
  cases h; exact ⟨rfl, rfl⟩
 rintro q3_3 h
 try dsimp only at h
 refine Cells.lit rfl rfl <| Ask.o h fun p4 h => SetKids.lit rfl <| Cells.lit rfl rfl <| SetKids.lit rfl <| Cells.lit rfl rfl <| Cells.lit rfl rfl <| Len.map <| Br.od h (fun p5 h => ?_) (fun p5 h => ?_)
 ·cases h; exact ⟨(by rfl), (by rfl)⟩
 refine Cells.lit rfl rfl ?_
 cases h; exact ⟨(by rfl), (by rfl)⟩
noncomputable def Du (n0 : Int) : (Int × (List Int)) → Option ((Int × (List Int)) ⊕ (List Int)) := fun (x9, x3) =>
 if x9 < (↑n0.toNat : Int) then
 ask ((0 : Int) ≤ x9 ∧ x9 < (↑x3.length : Int)) <|
 ask (InI (x9 + (1 : Int))) <|
 some (.inl (x9 + (1 : Int), x3.set x9.toNat x9))
 else
 some (.inr x3)
def Jb (n0 : Int) : (Int × (List Int)) → St := fun s => [(9, A.val (Af s.1)), (8, A.val (Af ((↑n0.toNat : Int)))), (3, A.val ((slr true 1 Af) s.2))]
def Oq (_n0 : Int) : (List Int) → Tgt
 | s => ((Ex.exit 0), [3], [(3, A.val ((slr true 1 Af) s))])
theorem X7 {n0 : Int} (s : (Int × (List Int))) (o : (Int × (List Int)) ⊕ (List Int)) (h : Du n0 s = some o) : vc Tryz.prog Oh (Da [9, 8, 3] (Jb n0) (Oq n0) o) (Jb n0 s) := by
 obtain ⟨x9, x3⟩ := s
 unfold Du at h
 try dsimp only at h
 refine Br.od h (fun p2 h => ?_) (fun p2 h => ?_)
 ·refine Len.map <| Ask.o h fun p3 h => SetKids.one (fun _ => ⟨rfl, rfl⟩) (x9) (by rfl) (by first | omega | (simp [Ar] at * <;> omega)) <| Ask.o h fun p4 h => ?_
  cases h; exact ⟨rfl, rfl⟩
 cases h; exact ⟨rfl, rfl⟩
noncomputable def Ff (n0 : Int) : Option (List Int) :=
 ask ((0 : Int) ≤ n0 ∧ n0 ≤ (↑LIM : Int)) <|
 (Al (Du n0) ((0 : Int), List.replicate n0.toNat (0 : Int))).bind fun q5_3 =>
 some q5_3
theorem S8 {n0 : Int} {v : (List Int)} (h : Ff n0 = some v) : Ret Tryz.prog Ix [Af n0] ((slr true 1 Af) v) := by
 refine Ay Ad7 (Nat.le_of_ble_eq_true rfl) ?_
 unfold Ff at h
 refine Ask.o h fun p1 h => MkQ.o Af ((0 : Int)) rfl <| Len.mrep <| LoopQ.o [9, 8, 3] (Jb n0) (Oq n0) h (fun s o h => X7 s o h) (by rfl) (fun _ => rfl) ?_
 rintro q5_3 h
 try dsimp only at h
 cases h; exact (by rfl)
end Go.Proofs.YthagmdhmgailfaaGreat.Ax
