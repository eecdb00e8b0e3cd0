/-
 What the functions compute, as functions on plain data, and that the program does compute it; written by program.
-/
import Derived.Test.YtidaaijecmkndaaCode
namespace Go.Proofs.Ytidaaijecmkndaa.Ax
open Go
set_option maxRecDepth 100000
set_option maxHeartbeats 4000000
noncomputable def Om (code0 : (List Int)) : Option Bool :=
 some (decide ((↑code0.length : Int) > (65536 : Int)))
theorem Al4 {code0 : (List Int)} {v : Bool} (h : Om code0 = some v) : Ret Try.prog Tz [(slr false 1 (V.int IntKind.u8)) code0] (V.bool v) := by
 refine A7 Amg (Nat.le_of_ble_eq_true rfl) ?_
 unfold Om at h
 conv => whnf
 refine Len.map ?_
 conv => whnf
 cases h; exact (by first | rfl | simp only [Ag, Aa, V.fz, fzL, V.up, upL, Ab, Ac, Ad, slr] | simp [Ag, Aa, V.fz, fzL, V.up, upL, Ab, Ac, Ad, slr])
noncomputable def Bz (a0 : List Int) (b0 : List Int) : Int → Option (Int ⊕ (Unit ⊕ Unit)) := fun x5 =>
 if x5 < (↑a0.length : Int) then
 ask ((0 : Int) ≤ x5 ∧ x5 < (↑a0.length : Int)) <|
 ask ((0 : Int) ≤ x5 ∧ x5 < (↑b0.length : Int)) <|
 if nth a0 x5.toNat ≠ nth b0 x5.toNat then
 some (.inr (.inl ()))
 else
 ask (InI (x5 + (1 : Int))) <|
 some (.inl (x5 + (1 : Int)))
 else
 some (.inr (.inr ()))
def L3 (a0 : List Int) (b0 : List Int) : Int → St := fun s => [(5, A.val (Af s)), (0, A.val ((slr false 1 Af) (a0))), (1, A.val ((slr false 1 Af) (b0)))]
def So (_a0 : List Int) (_b0 : List Int) : (Unit ⊕ Unit) → Tgt
 | (.inl _s) => (Ex.ret, [4], [(4, A.val (V.bool (false)))])
 | (.inr _s) => ((Ex.exit 0), [], [])
theorem Abf {a0 : List Int} {b0 : List Int} (x5 : Int) (o : Int ⊕ (Unit ⊕ Unit)) (h : Bz a0 b0 x5 = some o) : vc Try.prog Sp (Dl [5, 0, 1] (L3 a0 b0) (So a0 b0) o) (L3 a0 b0 x5) := by
 unfold Bz at h
 try dsimp only at h
 conv => whnf
 refine Len.map ?_
 conv => whnf
 refine Br.od h (fun p2 h => ?_) (fun p2 h => ?_)
 ·conv => whnf
  refine Len.map ?_
  conv => whnf
  refine Ask.o h fun p3 h => ?_
  conv => whnf
  refine Elem.o (by first | omega | (simp [Au] at *; omega)) ?_
  conv => whnf
  refine Len.map ?_
  conv => whnf
  refine Ask.o h fun p4 h => ?_
  conv => whnf
  refine Elem.o (by first | omega | (simp [Au] at *; omega)) ?_
  conv => whnf
  refine Br.on h (fun p5 h => ?_) (fun p5 h => ?_)
  ·conv => whnf
   cases h; exact ⟨rfl, rfl⟩
  conv => whnf
  refine Ask.o h fun p6 h => ?_
  conv => whnf
  cases h; exact ⟨rfl, rfl⟩
 conv => whnf
 cases h; exact ⟨rfl, rfl⟩
noncomputable def Bw (a0 : (List Int)) (b0 : (List Int)) : Option Bool :=
 if (↑a0.length : Int) ≠ (↑b0.length : Int) then
 some false
 else
 (Ap (Bz a0 b0) (0 : Int)).bind fun t => match t with
 | (.inl _) => (some false)
 | (.inr _) => (some true)
theorem Hz {a0 : (List Int)} {b0 : (List Int)} {v : Bool} (h : Bw a0 b0 = some v) : Ret Try.prog Fc [(slr false 1 Af) a0, (slr false 1 Af) b0] (V.bool v) := by
 refine A7 Ahy (Nat.le_of_ble_eq_true rfl) ?_
 unfold Bw at h
 conv => whnf
 refine Len.map ?_
 conv => whnf
 refine Len.map ?_
 conv => whnf
 refine Br.on h (fun p1 h => ?_) (fun p1 h => ?_)
 ·conv => whnf
  cases h; exact (by first | rfl | simp only [Ag, Aa, V.fz, fzL, V.up, upL, Ab, Ac, Ad, slr] | simp [Ag, Aa, V.fz, fzL, V.up, upL, Ab, Ac, Ad, slr])
 conv => whnf
 refine LoopQ.o [5, 0, 1] (L3 a0 b0) (So a0 b0) h (fun s o h => Abf s o h) (by first | rfl | simp [restrict, look, Aa, V.fz, fzL, V.up, upL, Ab, Ac, Ad, slr]) (by rintro (_ | _) <;> rfl) ?_
 rintro (⟨⟩ | ⟨⟩) h
 ·try dsimp only at h
  conv => whnf
  cases h; exact (by first | rfl | simp only [Ag, Aa, V.fz, fzL, V.up, upL, Ab, Ac, Ad, slr] | simp [Ag, Aa, V.fz, fzL, V.up, upL, Ab, Ac, Ad, slr])
 try dsimp only at h
 conv => whnf
 cases h; exact (by first | rfl | simp only [Ag, Aa, V.fz, fzL, V.up, upL, Ab, Ac, Ad, slr] | simp [Ag, Aa, V.fz, fzL, V.up, upL, Ab, Ac, Ad, slr])
noncomputable def Dr (list0 : List Int) (x0 : Int) : Int → Option (Int ⊕ (Unit ⊕ Unit)) := fun x5 =>
 if x5 < (↑list0.length : Int) then
 ask ((0 : Int) ≤ x5 ∧ x5 < (↑list0.length : Int)) <|
 if nth list0 x5.toNat = x0 then
 some (.inr (.inl ()))
 else
 ask (InI (x5 + (1 : Int))) <|
 some (.inl (x5 + (1 : Int)))
 else
 some (.inr (.inr ()))
def N1 (list0 : List Int) (x0 : Int) : Int → St := fun s => [(5, A.val (Af s)), (0, A.val ((slr false 1 Af) (list0))), (1, A.val (Af (x0)))]
def Th (_list0 : List Int) (_x0 : Int) : (Unit ⊕ Unit) → Tgt
 | (.inl _s) => (Ex.ret, [4], [(4, A.val (V.bool (true)))])
 | (.inr _s) => ((Ex.exit 0), [], [])
theorem Adu {list0 : List Int} {x0 : Int} (x5 : Int) (o : Int ⊕ (Unit ⊕ Unit)) (h : Dr list0 x0 x5 = some o) : vc Try.prog Tu (Dl [5, 0, 1] (N1 list0 x0) (Th list0 x0) o) (N1 list0 x0 x5) := by
 unfold Dr at h
 try dsimp only at h
 conv => whnf
 refine Len.map ?_
 conv => whnf
 refine Br.od h (fun p1 h => ?_) (fun p1 h => ?_)
 ·conv => whnf
  refine Len.map ?_
  conv => whnf
  refine Ask.o h fun p2 h => ?_
  conv => whnf
  refine Elem.o (by first | omega | (simp [Au] at *; omega)) ?_
  conv => whnf
  refine Br.oe h (fun p3 h => ?_) (fun p3 h => ?_)
  ·conv => whnf
   cases h; exact ⟨rfl, rfl⟩
  conv => whnf
  refine Ask.o h fun p4 h => ?_
  conv => whnf
  cases h; exact ⟨rfl, rfl⟩
 conv => whnf
 cases h; exact ⟨rfl, rfl⟩
noncomputable def L0 (list0 : (List Int)) (x0 : Int) : Option Bool :=
 (Ap (Dr list0 x0) (0 : Int)).bind fun t => match t with
 | (.inl _) => (some true)
 | (.inr _) => (some false)
theorem Aly {list0 : (List Int)} {x0 : Int} {v : Bool} (h : L0 list0 x0 = some v) : Ret Try.prog T1 [(slr false 1 Af) list0, Af x0] (V.bool v) := by
 refine A7 Akx (Nat.le_of_ble_eq_true rfl) ?_
 unfold L0 at h
 conv => whnf
 refine LoopQ.o [5, 0, 1] (N1 list0 x0) (Th list0 x0) h (fun s o h => Adu s o h) (by first | rfl | simp [restrict, look, Aa, V.fz, fzL, V.up, upL, Ab, Ac, Ad, slr]) (by rintro (_ | _) <;> rfl) ?_
 rintro (⟨⟩ | ⟨⟩) h
 ·try dsimp only at h
  conv => whnf
  cases h; exact (by first | rfl | simp only [Ag, Aa, V.fz, fzL, V.up, upL, Ab, Ac, Ad, slr] | simp [Ag, Aa, V.fz, fzL, V.up, upL, Ab, Ac, Ad, slr])
 try dsimp only at h
 conv => whnf
 cases h; exact (by first | rfl | simp only [Ag, Aa, V.fz, fzL, V.up, upL, Ab, Ac, Ad, slr] | simp [Ag, Aa, V.fz, fzL, V.up, upL, Ab, Ac, Ad, slr])
noncomputable def Fd (x0 : Int) (a0 : Int) (b0 : Int) : Option Bool :=
 if x0 ≥ a0 then
 some (decide (x0 ≤ b0))
 else
 some false
theorem Lp {x0 : Int} {a0 : Int} {b0 : Int} {v : Bool} (h : Fd x0 a0 b0 = some v) : Ret Try.prog G7 [Af x0, Af a0, Af b0] (V.bool v) := by
 refine A7 Alz (Nat.le_of_ble_eq_true rfl) ?_
 unfold Fd at h
 conv => whnf
 refine Br.od h (fun p1 h => ?_) (fun p1 h => ?_)
 ·conv => whnf
  refine Br.yes ?_
  conv => whnf
  refine Br.yes ?_
  conv => whnf
  refine Br.yes ?_
  conv => whnf
  cases h; exact (by first | rfl | simp only [Ag, Aa, V.fz, fzL, V.up, upL, Ab, Ac, Ad, slr] | simp [Ag, Aa, V.fz, fzL, V.up, upL, Ab, Ac, Ad, slr])
 conv => whnf
 refine Br.no ?_
 conv => whnf
 refine Br.no ?_
 conv => whnf
 refine Br.no ?_
 conv => whnf
 cases h; exact (by first | rfl | simp only [Ag, Aa, V.fz, fzL, V.up, upL, Ab, Ac, Ad, slr] | simp [Ag, Aa, V.fz, fzL, V.up, upL, Ab, Ac, Ad, slr])
noncomputable def D3 (n0 : Int) : (Int × Int) → Option ((Int × Int) ⊕ Int) := fun (x5, x1) =>
 if x1 > (0 : Int) then
 ask (InI (x5 * n0)) <|
 ask (InI (x1 - (1 : Int))) <|
 some (.inl (x5 * n0, x1 - (1 : Int)))
 else
 some (.inr x5)
def L2 (n0 : Int) : (Int × Int) → St := fun s => [(5, A.val (Af s.1)), (0, A.val (Af (n0))), (1, A.val (Af s.2))]
def S5 (_n0 : Int) : Int → Tgt
 | s => ((Ex.exit 0), [5], [(5, A.val (Af s))])
theorem Abo {n0 : Int} (s : (Int × Int)) (o : (Int × Int) ⊕ Int) (h : D3 n0 s = some o) : vc Try.prog Sl (Dl [5, 0, 1] (L2 n0) (S5 n0) o) (L2 n0 s) := by
 obtain ⟨x5, x1⟩ := s
 unfold D3 at h
 try dsimp only at h
 conv => whnf
 refine Br.od h (fun p1 h => ?_) (fun p1 h => ?_)
 ·conv => whnf
  refine Ask.o h fun p2 h => ?_
  conv => whnf
  refine Ask.o h fun p3 h => ?_
  conv => whnf
  cases h; exact ⟨rfl, rfl⟩
 conv => whnf
 cases h; exact ⟨rfl, rfl⟩
noncomputable def Ga (n0 : Int) (k0 : Int) : Option Int :=
 (Ap (D3 n0) ((1 : Int), k0)).bind fun q4_5 =>
 some q4_5
theorem X9 {n0 : Int} {k0 : Int} {v : Int} (h : Ga n0 k0 = some v) : Ret Try.prog M2 [Af n0, Af k0] (Af v) := by
 refine A7 Aig (Nat.le_of_ble_eq_true rfl) ?_
 unfold Ga at h
 conv => whnf
 refine LoopQ.o [5, 0, 1] (L2 n0) (S5 n0) h (fun s o h => Abo s o h) (by first | rfl | simp [restrict, look, Aa, V.fz, fzL, V.up, upL, Ab, Ac, Ad, slr]) (fun _ => rfl) ?_
 rintro q4_5 h
 try dsimp only at h
 conv => whnf
 cases h; exact (by first | rfl | simp only [Ag, Aa, V.fz, fzL, V.up, upL, Ab, Ac, Ad, slr] | simp [Ag, Aa, V.fz, fzL, V.up, upL, Ab, Ac, Ad, slr])
noncomputable def Di (list0 : List Int) (n0 : Int) : Int → Option (Int ⊕ (Unit ⊕ Unit)) := fun x9 =>
 if x9 < (↑list0.length : Int) then
 ask ((0 : Int) ≤ x9 ∧ x9 < (↑list0.length : Int)) <|
 if nth list0 x9.toNat < (0 : Int) then
 some (.inr (.inl ()))
 else
 if nth list0 x9.toNat ≥ n0 then
 some (.inr (.inl ()))
 else
 ask (InI (x9 + (1 : Int))) <|
 some (.inl (x9 + (1 : Int)))
 else
 some (.inr (.inr ()))
def Kh (list0 : List Int) (n0 : Int) : Int → St := fun s => [(9, A.val (Af s)), (8, A.val (Af ((↑list0.length : Int)))), (7, A.val ((slr false 1 Af) (list0))), (1, A.val (Af (n0)))]
def Qg (_list0 : List Int) (_n0 : Int) : (Unit ⊕ Unit) → Tgt
 | (.inl _s) => (Ex.ret, [4], [(4, A.val (V.bool (false)))])
 | (.inr _s) => ((Ex.exit 0), [], [])
theorem Zy {list0 : List Int} {n0 : Int} (x9 : Int) (o : Int ⊕ (Unit ⊕ Unit)) (h : Di list0 n0 x9 = some o) : vc Try.prog Qf (Dl [9, 8, 7, 1] (Kh list0 n0) (Qg list0 n0) o) (Kh list0 n0 x9) := by
 unfold Di at h
 try dsimp only at h
 conv => whnf
 refine Br.od h (fun p1 h => ?_) (fun p1 h => ?_)
 ·conv => whnf
  refine Len.map ?_
  conv => whnf
  refine Ask.o h fun p2 h => ?_
  conv => whnf
  refine Elem.o (by first | omega | (simp [Au] at *; omega)) ?_
  conv => whnf
  refine Br.od h (fun p3 h => ?_) (fun p3 h => ?_)
  ·conv => whnf
   refine Br.yes ?_
   conv => whnf
   refine Br.yes ?_
   conv => whnf
   refine Br.yes ?_
   conv => whnf
   refine Br.yes ?_
   conv => whnf
   cases h; exact ⟨rfl, rfl⟩
  conv => whnf
  refine Br.no ?_
  conv => whnf
  refine Br.no ?_
  conv => whnf
  refine Br.no ?_
  conv => whnf
  refine Br.od h (fun p4 h => ?_) (fun p4 h => ?_)
  ·conv => whnf
   cases h; exact ⟨rfl, rfl⟩
  conv => whnf
  refine Ask.o h fun p5 h => ?_
  conv => whnf
  cases h; exact ⟨rfl, rfl⟩
 conv => whnf
 cases h; exact ⟨rfl, rfl⟩
noncomputable def Fm (list0 : (List Int)) (n0 : Int) : Option Bool :=
 (Ap (Di list0 n0) (0 : Int)).bind fun t => match t with
 | (.inl _) => (some false)
 | (.inr _) => (some true)
theorem Pq {list0 : (List Int)} {n0 : Int} {v : Bool} (h : Fm list0 n0 = some v) : Ret Try.prog I0 [(slr false 1 Af) list0, Af n0] (V.bool v) := by
 refine A7 Agc (Nat.le_of_ble_eq_true rfl) ?_
 unfold Fm at h
 conv => whnf
 refine Len.map ?_
 conv => whnf
 refine LoopQ.o [9, 8, 7, 1] (Kh list0 n0) (Qg list0 n0) h (fun s o h => Zy s o h) (by first | rfl | simp [restrict, look, Aa, V.fz, fzL, V.up, upL, Ab, Ac, Ad, slr]) (by rintro (_ | _) <;> rfl) ?_
 rintro (⟨⟩ | ⟨⟩) h
 ·try dsimp only at h
  conv => whnf
  cases h; exact (by first | rfl | simp only [Ag, Aa, V.fz, fzL, V.up, upL, Ab, Ac, Ad, slr] | simp [Ag, Aa, V.fz, fzL, V.up, upL, Ab, Ac, Ad, slr])
 try dsimp only at h
 conv => whnf
 cases h; exact (by first | rfl | simp only [Ag, Aa, V.fz, fzL, V.up, upL, Ab, Ac, Ad, slr] | simp [Ag, Aa, V.fz, fzL, V.up, upL, Ab, Ac, Ad, slr])
noncomputable def E7 (list0 : List Int) : (Int × (List Bool)) → Option ((Int × (List Bool)) ⊕ (List Bool)) := fun (x12, x5) =>
 if x12 < (↑list0.length : Int) then
 ask ((0 : Int) ≤ x12 ∧ x12 < (↑list0.length : Int)) <|
 ask ((0 : Int) ≤ nth list0 x12.toNat ∧ nth list0 x12.toNat < (↑x5.length : Int)) <|
 ask (InI (x12 + (1 : Int))) <|
 some (.inl (x12 + (1 : Int), x5.set (nth list0 x12.toNat).toNat true))
 else
 some (.inr x5)
def Ma (list0 : List Int) : (Int × (List Bool)) → St := fun s => [(12, A.val (Af s.1)), (11, A.val (Af ((↑list0.length : Int)))), (10, A.val ((slr false 1 Af) (list0))), (5, A.val ((slr true 1 V.bool) s.2))]
def Sv (_list0 : List Int) : (List Bool) → Tgt
 | s => ((Ex.exit 0), [5], [(5, A.val ((slr true 1 V.bool) s))])
theorem Abt {list0 : List Int} (s : (Int × (List Bool))) (o : (Int × (List Bool)) ⊕ (List Bool)) (h : E7 list0 s = some o) : vc Try.prog Sn (Dl [12, 11, 10, 5] (Ma list0) (Sv list0) o) (Ma list0 s) := by
 obtain ⟨x12, x5⟩ := s
 unfold E7 at h
 try dsimp only at h
 conv => whnf
 refine Br.od h (fun p2 h => ?_) (fun p2 h => ?_)
 ·conv => whnf
  refine Len.map ?_
  conv => whnf
  refine Ask.o h fun p3 h => ?_
  conv => whnf
  refine Elem.o (by first | omega | (simp [Au] at *; omega)) ?_
  conv => whnf
  refine Len.map ?_
  conv => whnf
  refine Ask.o h fun p4 h => ?_
  conv => whnf
  refine SetKids.one (fun _ => ⟨rfl, rfl⟩) (true) (by first | rfl | simp only [Aa, V.fz, fzL, V.up, upL, Ab, Ac, Ad, slr, List.cons_append, List.nil_append] | simp [Aa, V.fz, fzL, V.up, upL, Ab, Ac, Ad, slr]) (by first | omega | (simp [Au] at *; omega)) ?_
  conv => whnf
  refine Ask.o h fun p5 h => ?_
  conv => whnf
  cases h; exact ⟨rfl, rfl⟩
 conv => whnf
 cases h; exact ⟨rfl, rfl⟩
noncomputable def F9 (list0 : (List Int)) (n0 : Int) : Option (List Bool) :=
 ask ((0 : Int) ≤ n0 ∧ n0 ≤ (↑LIM : Int)) <|
 (Ap (E7 list0) ((0 : Int), List.replicate n0.toNat false)).bind fun q6_5 =>
 some q6_5
theorem Y3 {list0 : (List Int)} {n0 : Int} {v : (List Bool)} (h : F9 list0 n0 = some v) : Ret Try.prog Mx [(slr false 1 Af) list0, Af n0] ((slr true 1 V.bool) v) := by
 refine A7 Ajk (Nat.le_of_ble_eq_true rfl) ?_
 unfold F9 at h
 conv => whnf
 refine Ask.o h fun p1 h => ?_
 conv => whnf
 refine MkQ.o V.bool (false) rfl ?_
 conv => whnf
 refine Len.map ?_
 conv => whnf
 refine LoopQ.o [12, 11, 10, 5] (Ma list0) (Sv list0) h (fun s o h => Abt s o h) (by first | rfl | simp [restrict, look, Aa, V.fz, fzL, V.up, upL, Ab, Ac, Ad, slr]) (fun _ => rfl) ?_
 rintro q6_5 h
 try dsimp only at h
 conv => whnf
 cases h; exact (by first | rfl | simp only [Ag, Aa, V.fz, fzL, V.up, upL, Ab, Ac, Ad, slr] | simp [Ag, Aa, V.fz, fzL, V.up, upL, Ab, Ac, Ad, slr])
noncomputable def F2 (have0 : List Bool) : (Int × (List Int)) → Option ((Int × (List Int)) ⊕ (List Int)) := fun (x9, x3) =>
 if x9 < (↑have0.length : Int) then
 ask ((0 : Int) ≤ x9 ∧ x9 < (↑have0.length : Int)) <|
 if (nth have0 x9.toNat) = true then
 ask ((x3).length + ([x9]).length ≤ LIM) <|
 ask (InI (x9 + (1 : Int))) <|
 some (.inl (x9 + (1 : Int), x3 ++ [x9]))
 else
 ask (InI (x9 + (1 : Int))) <|
 some (.inl (x9 + (1 : Int), x3))
 else
 some (.inr x3)
def Kd (have0 : List Bool) : (Int × (List Int)) → St := fun s => [(9, A.val (Af s.1)), (8, A.val (Af ((↑have0.length : Int)))), (7, A.val ((slr false 1 V.bool) (have0))), (3, A.val ((slr true 1 Af) s.2))]
def Qd (_have0 : List Bool) : (List Int) → Tgt
 | s => ((Ex.exit 0), [3], [(3, A.val ((slr true 1 Af) s))])
theorem Zg {have0 : List Bool} (s : (Int × (List Int))) (o : (Int × (List Int)) ⊕ (List Int)) (h : F2 have0 s = some o) : vc Try.prog Qr (Dl [9, 8, 7, 3] (Kd have0) (Qd have0) o) (Kd have0 s) := by
 obtain ⟨x9, x3⟩ := s
 unfold F2 at h
 try dsimp only at h
 conv => whnf
 refine Br.od h (fun p1 h => ?_) (fun p1 h => ?_)
 ·conv => whnf
  refine Len.map ?_
  conv => whnf
  refine Ask.o h fun p2 h => ?_
  conv => whnf
  refine Elem.o (by first | omega | (simp [Au] at *; omega)) ?_
  conv => whnf
  refine Br.ob h (fun p3 h => ?_) (fun p3 h => ?_)
  ·conv => whnf
   refine BslQ.o Af [x9] (by exact fun _ => ⟨rfl, rfl⟩) (by first | rfl | simp only [Aa, V.fz, fzL, V.up, upL, Ab, Ac, Ad, slr, List.cons_append, List.nil_append] | simp [Aa, V.fz, fzL, V.up, upL, Ab, Ac, Ad, slr]) ?_
   conv => whnf
   refine NoOwn.o (fun _ => rfl) ?_
   conv => whnf
   refine AppQ.o (m := 1) Af (by exact fun _ => ⟨rfl, rfl⟩) (x3) ([x9]) (by first | rfl | simp only [Aa, V.fz, fzL, V.up, upL, Ab, Ac, Ad, slr, List.cons_append, List.nil_append] | simp [Aa, V.fz, fzL, V.up, upL, Ab, Ac, Ad, slr]) (by first | rfl | simp only [Aa, V.fz, fzL, V.up, upL, Ab, Ac, Ad, slr, List.cons_append, List.nil_append] | simp [Aa, V.fz, fzL, V.up, upL, Ab, Ac, Ad, slr]) h fun h => ?_
   conv => whnf
   refine Ask.o h fun p4 h => ?_
   conv => whnf
   cases h; exact ⟨rfl, rfl⟩
  conv => whnf
  refine Ask.o h fun p5 h => ?_
  conv => whnf
  cases h; exact ⟨rfl, rfl⟩
 conv => whnf
 cases h; exact ⟨rfl, rfl⟩
noncomputable def Ee (have0 : (List Bool)) : Option (List Int) :=
 (Ap (F2 have0) ((0 : Int), A9 Int)).bind fun q6_3 =>
 some q6_3
theorem O9 {have0 : (List Bool)} {v : (List Int)} (h : Ee have0 = some v) : Ret Try.prog Iy [(slr false 1 V.bool) have0] ((slr true 1 Af) v) := by
 refine A7 Afs (Nat.le_of_ble_eq_true rfl) ?_
 unfold Ee at h
 conv => whnf
 refine BslQ.o Af (A9 Int) (by exact fun _ => ⟨rfl, rfl⟩) (by first | rfl | simp only [Aa, V.fz, fzL, V.up, upL, Ab, Ac, Ad, slr, List.cons_append, List.nil_append] | simp [Aa, V.fz, fzL, V.up, upL, Ab, Ac, Ad, slr]) ?_
 conv => whnf
 refine Len.map ?_
 conv => whnf
 refine LoopQ.o [9, 8, 7, 3] (Kd have0) (Qd have0) h (fun s o h => Zg s o h) (by first | rfl | simp [restrict, look, Aa, V.fz, fzL, V.up, upL, Ab, Ac, Ad, slr]) (fun _ => rfl) ?_
 rintro q6_3 h
 try dsimp only at h
 conv => whnf
 cases h; exact (by first | rfl | simp only [Ag, Aa, V.fz, fzL, V.up, upL, Ab, Ac, Ad, slr] | simp [Ag, Aa, V.fz, fzL, V.up, upL, Ab, Ac, Ad, slr])
noncomputable def C4 (n0 : Int) (have0 : List Bool) : (Int × Int) → Option ((Int × Int) ⊕ (Unit ⊕ Unit)) := fun (x0, x1) =>
 if x1 > (0 : Int) then
 ask (n0 ≠ (0 : Int)) <|
 ask ((0 : Int) ≤ x0.tmod n0 ∧ x0.tmod n0 < (↑have0.length : Int)) <|
 if (nth have0 (x0.tmod n0).toNat) = true then
 ask (n0 ≠ (0 : Int) ∧ InI (x0.tdiv n0)) <|
 ask (InI (x1 - (1 : Int))) <|
 some (.inl (x0.tdiv n0, x1 - (1 : Int)))
 else
 some (.inr (.inl ()))
 else
 some (.inr (.inr ()))
def L6 (n0 : Int) (have0 : List Bool) : (Int × Int) → St := fun s => [(0, A.val (Af s.1)), (1, A.val (Af s.2)), (2, A.val (Af (n0))), (3, A.val ((slr false 1 V.bool) (have0)))]
def Sx (_n0 : Int) (_have0 : List Bool) : (Unit ⊕ Unit) → Tgt
 | (.inl _s) => (Ex.ret, [8], [(8, A.val (V.bool (false)))])
 | (.inr _s) => ((Ex.exit 0), [], [])
theorem Abh {n0 : Int} {have0 : List Bool} (s : (Int × Int)) (o : (Int × Int) ⊕ (Unit ⊕ Unit)) (h : C4 n0 have0 s = some o) : vc Try.prog Sq (Dl [0, 1, 2, 3] (L6 n0 have0) (Sx n0 have0) o) (L6 n0 have0 s) := by
 obtain ⟨x0, x1⟩ := s
 unfold C4 at h
 try dsimp only at h
 conv => whnf
 refine Br.od h (fun p1 h => ?_) (fun p1 h => ?_)
 ·conv => whnf
  refine Ask.o h fun p2 h => ?_
  conv => whnf
  refine Len.map ?_
  conv => whnf
  refine Ask.o h fun p3 h => ?_
  conv => whnf
  refine Elem.o (by first | omega | (simp [Au] at *; omega)) ?_
  conv => whnf
  refine Br.flip ?_
  conv => whnf
  refine Br.ob h (fun p4 h => ?_) (fun p4 h => ?_)
  ·conv => whnf
   refine Ask.o h fun p5 h => ?_
   conv => whnf
   refine Ask.o h fun p6 h => ?_
   conv => whnf
   cases h; exact ⟨rfl, rfl⟩
  conv => whnf
  cases h; exact ⟨rfl, rfl⟩
 conv => whnf
 cases h; exact ⟨rfl, rfl⟩
noncomputable def H7 (i0 : Int) (arity0 : Int) (n0 : Int) (have0 : (List Bool)) : Option Bool :=
 (Ap (C4 n0 have0) (i0, arity0)).bind fun t => match t with
 | (.inl _) => (some false)
 | (.inr _) => (some true)
theorem Ys {i0 : Int} {arity0 : Int} {n0 : Int} {have0 : (List Bool)} {v : Bool} (h : H7 i0 arity0 n0 have0 = some v) : Ret Try.prog My [Af i0, Af arity0, Af n0, (slr false 1 V.bool) have0] (V.bool v) := by
 refine A7 Ahw (Nat.le_of_ble_eq_true rfl) ?_
 unfold H7 at h
 conv => whnf
 refine LoopQ.o [0, 1, 2, 3] (L6 n0 have0) (Sx n0 have0) h (fun s o h => Abh s o h) (by first | rfl | simp [restrict, look, Aa, V.fz, fzL, V.up, upL, Ab, Ac, Ad, slr]) (by rintro (_ | _) <;> rfl) ?_
 rintro (⟨⟩ | ⟨⟩) h
 ·try dsimp only at h
  conv => whnf
  cases h; exact (by first | rfl | simp only [Ag, Aa, V.fz, fzL, V.up, upL, Ab, Ac, Ad, slr] | simp [Ag, Aa, V.fz, fzL, V.up, upL, Ab, Ac, Ad, slr])
 try dsimp only at h
 conv => whnf
 cases h; exact (by first | rfl | simp only [Ag, Aa, V.fz, fzL, V.up, upL, Ab, Ac, Ad, slr] | simp [Ag, Aa, V.fz, fzL, V.up, upL, Ab, Ac, Ad, slr])
noncomputable def Ng (some0 : List Int) : (Int × (List Bool)) → Option ((Int × (List Bool)) ⊕ (List Bool)) := fun (x6, x5) =>
 if x6 < (↑some0.length : Int) then
 ask ((0 : Int) ≤ x6 ∧ x6 < (↑some0.length : Int)) <|
 ask ((0 : Int) ≤ nth some0 x6.toNat ∧ nth some0 x6.toNat < (↑x5.length : Int)) <|
 ask (InI (x6 + (1 : Int))) <|
 some (.inl (x6 + (1 : Int), x5.set (nth some0 x6.toNat).toNat true))
 else
 some (.inr x5)
def Nc (some0 : List Int) : (Int × (List Bool)) → St := fun s => [(6, A.val (Af s.1)), (5, A.val ((slr true 1 V.bool) s.2)), (1, A.val ((slr false 1 Af) (some0)))]
def Tn (_some0 : List Int) : (List Bool) → Tgt
 | s => ((Ex.exit 0), [5], [(5, A.val ((slr true 1 V.bool) s))])
theorem Ac1 {some0 : List Int} (s : (Int × (List Bool))) (o : (Int × (List Bool)) ⊕ (List Bool)) (h : Ng some0 s = some o) : vc Try.prog Tk (Dl [6, 5, 1] (Nc some0) (Tn some0) o) (Nc some0 s) := by
 obtain ⟨x6, x5⟩ := s
 unfold Ng at h
 try dsimp only at h
 conv => whnf
 refine Len.map ?_
 conv => whnf
 refine Br.od h (fun p2 h => ?_) (fun p2 h => ?_)
 ·conv => whnf
  refine Len.map ?_
  conv => whnf
  refine Ask.o h fun p3 h => ?_
  conv => whnf
  refine Elem.o (by first | omega | (simp [Au] at *; omega)) ?_
  conv => whnf
  refine Len.map ?_
  conv => whnf
  refine Ask.o h fun p4 h => ?_
  conv => whnf
  refine SetKids.one (fun _ => ⟨rfl, rfl⟩) (true) (by first | rfl | simp only [Aa, V.fz, fzL, V.up, upL, Ab, Ac, Ad, slr, List.cons_append, List.nil_append] | simp [Aa, V.fz, fzL, V.up, upL, Ab, Ac, Ad, slr]) (by first | omega | (simp [Au] at *; omega)) ?_
  conv => whnf
  refine Ask.o h fun p5 h => ?_
  conv => whnf
  cases h; exact ⟨rfl, rfl⟩
 conv => whnf
 cases h; exact ⟨rfl, rfl⟩
noncomputable def Ji (n0 : Int) (some0 : (List Int)) : Option (List Bool) :=
 ask ((0 : Int) ≤ n0 ∧ n0 ≤ (↑LIM : Int)) <|
 (Ap (Ng some0) ((0 : Int), List.replicate n0.toNat false)).bind fun q6_5 =>
 some q6_5
theorem Aaw {n0 : Int} {some0 : (List Int)} {v : (List Bool)} (h : Ji n0 some0 = some v) : Ret Try.prog Oj [Af n0, (slr false 1 Af) some0] ((slr true 1 V.bool) v) := by
 refine A7 Aj9 (Nat.le_of_ble_eq_true rfl) ?_
 unfold Ji at h
 conv => whnf
 refine Ask.o h fun p1 h => ?_
 conv => whnf
 refine MkQ.o V.bool (false) rfl ?_
 conv => whnf
 refine LoopQ.o [6, 5, 1] (Nc some0) (Tn some0) h (fun s o h => Ac1 s o h) (by first | rfl | simp [restrict, look, Aa, V.fz, fzL, V.up, upL, Ab, Ac, Ad, slr]) (fun _ => rfl) ?_
 rintro q6_5 h
 try dsimp only at h
 conv => whnf
 cases h; exact (by first | rfl | simp only [Ag, Aa, V.fz, fzL, V.up, upL, Ab, Ac, Ad, slr] | simp [Ag, Aa, V.fz, fzL, V.up, upL, Ab, Ac, Ad, slr])
noncomputable def Kx (in0 : List Bool) : (Int × (List Int)) → Option ((Int × (List Int)) ⊕ (List Int)) := fun (x4, x3) =>
 if x4 < (↑in0.length : Int) then
 ask ((0 : Int) ≤ x4 ∧ x4 < (↑in0.length : Int)) <|
 if (nth in0 x4.toNat) = true then
 ask ((x3).length + ([x4]).length ≤ LIM) <|
 ask (InI (x4 + (1 : Int))) <|
 some (.inl (x4 + (1 : Int), x3 ++ [x4]))
 else
 ask (InI (x4 + (1 : Int))) <|
 some (.inl (x4 + (1 : Int), x3))
 else
 some (.inr x3)
def Ke (in0 : List Bool) : (Int × (List Int)) → St := fun s => [(4, A.val (Af s.1)), (3, A.val ((slr true 1 Af) s.2)), (0, A.val ((slr false 1 V.bool) (in0)))]
def Q8 (_in0 : List Bool) : (List Int) → Tgt
 | s => ((Ex.exit 0), [3], [(3, A.val ((slr true 1 Af) s))])
theorem Y8 {in0 : List Bool} (s : (Int × (List Int))) (o : (Int × (List Int)) ⊕ (List Int)) (h : Kx in0 s = some o) : vc Try.prog Ql (Dl [4, 3, 0] (Ke in0) (Q8 in0) o) (Ke in0 s) := by
 obtain ⟨x4, x3⟩ := s
 unfold Kx at h
 try dsimp only at h
 conv => whnf
 refine Len.map ?_
 conv => whnf
 refine Br.od h (fun p1 h => ?_) (fun p1 h => ?_)
 ·conv => whnf
  refine Len.map ?_
  conv => whnf
  refine Ask.o h fun p2 h => ?_
  conv => whnf
  refine Elem.o (by first | omega | (simp [Au] at *; omega)) ?_
  conv => whnf
  refine Br.ob h (fun p3 h => ?_) (fun p3 h => ?_)
  ·conv => whnf
   refine BslQ.o Af [x4] (by exact fun _ => ⟨rfl, rfl⟩) (by first | rfl | simp only [Aa, V.fz, fzL, V.up, upL, Ab, Ac, Ad, slr, List.cons_append, List.nil_append] | simp [Aa, V.fz, fzL, V.up, upL, Ab, Ac, Ad, slr]) ?_
   conv => whnf
   refine NoOwn.o (fun _ => rfl) ?_
   conv => whnf
   refine AppQ.o (m := 1) Af (by exact fun _ => ⟨rfl, rfl⟩) (x3) ([x4]) (by first | rfl | simp only [Aa, V.fz, fzL, V.up, upL, Ab, Ac, Ad, slr, List.cons_append, List.nil_append] | simp [Aa, V.fz, fzL, V.up, upL, Ab, Ac, Ad, slr]) (by first | rfl | simp only [Aa, V.fz, fzL, V.up, upL, Ab, Ac, Ad, slr, List.cons_append, List.nil_append] | simp [Aa, V.fz, fzL, V.up, upL, Ab, Ac, Ad, slr]) h fun h => ?_
   conv => whnf
   refine Ask.o h fun p4 h => ?_
   conv => whnf
   cases h; exact ⟨rfl, rfl⟩
  conv => whnf
  refine Ask.o h fun p5 h => ?_
  conv => whnf
  cases h; exact ⟨rfl, rfl⟩
 conv => whnf
 cases h; exact ⟨rfl, rfl⟩
noncomputable def Gu (in0 : (List Bool)) : Option (List Int) :=
 (Ap (Kx in0) ((0 : Int), A9 Int)).bind fun q6_3 =>
 some q6_3
theorem V1 {in0 : (List Bool)} {v : (List Int)} (h : Gu in0 = some v) : Ret Try.prog K9 [(slr false 1 V.bool) in0] ((slr true 1 Af) v) := by
 refine A7 Afl (Nat.le_of_ble_eq_true rfl) ?_
 unfold Gu at h
 conv => whnf
 refine BslQ.o Af (A9 Int) (by exact fun _ => ⟨rfl, rfl⟩) (by first | rfl | simp only [Aa, V.fz, fzL, V.up, upL, Ab, Ac, Ad, slr, List.cons_append, List.nil_append] | simp [Aa, V.fz, fzL, V.up, upL, Ab, Ac, Ad, slr]) ?_
 conv => whnf
 refine LoopQ.o [4, 3, 0] (Ke in0) (Q8 in0) h (fun s o h => Y8 s o h) (by first | rfl | simp [restrict, look, Aa, V.fz, fzL, V.up, upL, Ab, Ac, Ad, slr]) (fun _ => rfl) ?_
 rintro q6_3 h
 try dsimp only at h
 conv => whnf
 cases h; exact (by first | rfl | simp only [Ag, Aa, V.fz, fzL, V.up, upL, Ab, Ac, Ad, slr] | simp [Ag, Aa, V.fz, fzL, V.up, upL, Ab, Ac, Ad, slr])
noncomputable def D4 (l0 : List Int) (n0 : Int) : Int → Option (Int ⊕ (Unit ⊕ Unit)) := fun x5 =>
 if x5 < (↑l0.length : Int) then
 ask ((0 : Int) ≤ x5 ∧ x5 < (↑l0.length : Int)) <|
 if nth l0 x5.toNat = n0 then
 some (.inr (.inl ()))
 else
 ask (InI (x5 + (1 : Int))) <|
 some (.inl (x5 + (1 : Int)))
 else
 some (.inr (.inr ()))
def Mf (l0 : List Int) (n0 : Int) : Int → St := fun s => [(5, A.val (Af s)), (0, A.val ((slr false 1 Af) (l0))), (1, A.val (Af (n0)))]
def Sy (_l0 : List Int) (_n0 : Int) : (Unit ⊕ Unit) → Tgt
 | (.inl _s) => (Ex.ret, [4], [(4, A.val (V.bool (true)))])
 | (.inr _s) => ((Ex.exit 0), [], [])
theorem Aba {l0 : List Int} {n0 : Int} (x5 : Int) (o : Int ⊕ (Unit ⊕ Unit)) (h : D4 l0 n0 x5 = some o) : vc Try.prog S6 (Dl [5, 0, 1] (Mf l0 n0) (Sy l0 n0) o) (Mf l0 n0 x5) := by
 unfold D4 at h
 try dsimp only at h
 conv => whnf
 refine Len.map ?_
 conv => whnf
 refine Br.od h (fun p1 h => ?_) (fun p1 h => ?_)
 ·conv => whnf
  refine Len.map ?_
  conv => whnf
  refine Ask.o h fun p2 h => ?_
  conv => whnf
  refine Elem.o (by first | omega | (simp [Au] at *; omega)) ?_
  conv => whnf
  refine Br.oe h (fun p3 h => ?_) (fun p3 h => ?_)
  ·conv => whnf
   cases h; exact ⟨rfl, rfl⟩
  conv => whnf
  refine Ask.o h fun p4 h => ?_
  conv => whnf
  cases h; exact ⟨rfl, rfl⟩
 conv => whnf
 cases h; exact ⟨rfl, rfl⟩
noncomputable def Jw (l0 : (List Int)) (n0 : Int) : Option Bool :=
 (Ap (D4 l0 n0) (0 : Int)).bind fun t => match t with
 | (.inl _) => (some true)
 | (.inr _) => (some false)
theorem Ai4 {l0 : (List Int)} {n0 : Int} {v : Bool} (h : Jw l0 n0 = some v) : Ret Try.prog Rl [(slr false 1 Af) l0, Af n0] (V.bool v) := by
 refine A7 Ahu (Nat.le_of_ble_eq_true rfl) ?_
 unfold Jw at h
 conv => whnf
 refine LoopQ.o [5, 0, 1] (Mf l0 n0) (Sy l0 n0) h (fun s o h => Aba s o h) (by first | rfl | simp [restrict, look, Aa, V.fz, fzL, V.up, upL, Ab, Ac, Ad, slr]) (by rintro (_ | _) <;> rfl) ?_
 rintro (⟨⟩ | ⟨⟩) h
 ·try dsimp only at h
  conv => whnf
  cases h; exact (by first | rfl | simp only [Ag, Aa, V.fz, fzL, V.up, upL, Ab, Ac, Ad, slr] | simp [Ag, Aa, V.fz, fzL, V.up, upL, Ab, Ac, Ad, slr])
 try dsimp only at h
 conv => whnf
 cases h; exact (by first | rfl | simp only [Ag, Aa, V.fz, fzL, V.up, upL, Ab, Ac, Ad, slr] | simp [Ag, Aa, V.fz, fzL, V.up, upL, Ab, Ac, Ad, slr])
noncomputable def Jq (list0 : (List Int)) : Option (List Int) :=
 ask ((A9 Int).length + (list0).length ≤ LIM) <|
 some (A9 Int ++ list0)
theorem Ajv {list0 : (List Int)} {v : (List Int)} (h : Jq list0 = some v) : Ret Try.prog R3 [(slr false 1 Af) list0] ((slr true 1 Af) v) := by
 refine A7 Aj0 (Nat.le_of_ble_eq_true rfl) ?_
 unfold Jq at h
 conv => whnf
 refine BslQ.o Af (A9 Int) (by exact fun _ => ⟨rfl, rfl⟩) (by first | rfl | simp only [Aa, V.fz, fzL, V.up, upL, Ab, Ac, Ad, slr, List.cons_append, List.nil_append] | simp [Aa, V.fz, fzL, V.up, upL, Ab, Ac, Ad, slr]) ?_
 conv => whnf
 refine AppQ.o (m := 1) Af (by exact fun _ => ⟨rfl, rfl⟩) (A9 Int) (list0) (by first | rfl | simp only [Aa, V.fz, fzL, V.up, upL, Ab, Ac, Ad, slr, List.cons_append, List.nil_append] | simp [Aa, V.fz, fzL, V.up, upL, Ab, Ac, Ad, slr]) (by first | rfl | simp only [Aa, V.fz, fzL, V.up, upL, Ab, Ac, Ad, slr, List.cons_append, List.nil_append] | simp [Aa, V.fz, fzL, V.up, upL, Ab, Ac, Ad, slr]) h fun h => ?_
 conv => whnf
 cases h; exact (by first | rfl | simp only [Ag, Aa, V.fz, fzL, V.up, upL, Ab, Ac, Ad, slr] | simp [Ag, Aa, V.fz, fzL, V.up, upL, Ab, Ac, Ad, slr])
noncomputable def H3 (l0 : (List Int)) : Option (List Int) :=
 ask ((A9 Int).length + (l0).length ≤ LIM) <|
 some (A9 Int ++ l0)
theorem Y0 {l0 : (List Int)} {v : (List Int)} (h : H3 l0 = some v) : Ret Try.prog Mr [(slr false 1 Af) l0] ((slr true 1 Af) v) := by
 refine A7 Ajb (Nat.le_of_ble_eq_true rfl) ?_
 unfold H3 at h
 conv => whnf
 refine BslQ.o Af (A9 Int) (by exact fun _ => ⟨rfl, rfl⟩) (by first | rfl | simp only [Aa, V.fz, fzL, V.up, upL, Ab, Ac, Ad, slr, List.cons_append, List.nil_append] | simp [Aa, V.fz, fzL, V.up, upL, Ab, Ac, Ad, slr]) ?_
 conv => whnf
 refine AppQ.o (m := 1) Af (by exact fun _ => ⟨rfl, rfl⟩) (A9 Int) (l0) (by first | rfl | simp only [Aa, V.fz, fzL, V.up, upL, Ab, Ac, Ad, slr, List.cons_append, List.nil_append] | simp [Aa, V.fz, fzL, V.up, upL, Ab, Ac, Ad, slr]) (by first | rfl | simp only [Aa, V.fz, fzL, V.up, upL, Ab, Ac, Ad, slr, List.cons_append, List.nil_append] | simp [Aa, V.fz, fzL, V.up, upL, Ab, Ac, Ad, slr]) h fun h => ?_
 conv => whnf
 cases h; exact (by first | rfl | simp only [Ag, Aa, V.fz, fzL, V.up, upL, Ab, Ac, Ad, slr] | simp [Ag, Aa, V.fz, fzL, V.up, upL, Ab, Ac, Ad, slr])
noncomputable def Ek (mask0 : Int) : (Int × (List Int)) → Option ((Int × (List Int)) ⊕ (List Int)) := fun (x4, x3) =>
 ask ((0 : Int) ≤ x4) <|
 if Ait mask0 x4 > (0 : Int) then
 ask ((0 : Int) ≤ x4) <|
 if Anw (Ait mask0 x4) (1 : Int) = (1 : Int) then
 ask ((x3).length + ([x4]).length ≤ LIM) <|
 ask (InI (x4 + (1 : Int))) <|
 some (.inl (x4 + (1 : Int), x3 ++ [x4]))
 else
 ask (InI (x4 + (1 : Int))) <|
 some (.inl (x4 + (1 : Int), x3))
 else
 some (.inr x3)
def Ks (mask0 : Int) : (Int × (List Int)) → St := fun s => [(4, A.val (Af s.1)), (3, A.val ((slr true 1 Af) s.2)), (0, A.val (Af (mask0)))]
def Qc (_mask0 : Int) : (List Int) → Tgt
 | s => ((Ex.exit 0), [3], [(3, A.val ((slr true 1 Af) s))])
theorem Zl {mask0 : Int} (s : (Int × (List Int))) (o : (Int × (List Int)) ⊕ (List Int)) (h : Ek mask0 s = some o) : vc Try.prog Qx (Dl [4, 3, 0] (Ks mask0) (Qc mask0) o) (Ks mask0 s) := by
 obtain ⟨x4, x3⟩ := s
 unfold Ek at h
 try dsimp only at h
 conv => whnf
 refine Ask.o h fun p1 h => ?_
 conv => whnf
 refine Br.od h (fun p2 h => ?_) (fun p2 h => ?_)
 ·conv => whnf
  refine Ask.o h fun p3 h => ?_
  conv => whnf
  refine Br.oe h (fun p4 h => ?_) (fun p4 h => ?_)
  ·conv => whnf
   refine BslQ.o Af [x4] (by exact fun _ => ⟨rfl, rfl⟩) (by first | rfl | simp only [Aa, V.fz, fzL, V.up, upL, Ab, Ac, Ad, slr, List.cons_append, List.nil_append] | simp [Aa, V.fz, fzL, V.up, upL, Ab, Ac, Ad, slr]) ?_
   conv => whnf
   refine NoOwn.o (fun _ => rfl) ?_
   conv => whnf
   refine AppQ.o (m := 1) Af (by exact fun _ => ⟨rfl, rfl⟩) (x3) ([x4]) (by first | rfl | simp only [Aa, V.fz, fzL, V.up, upL, Ab, Ac, Ad, slr, List.cons_append, List.nil_append] | simp [Aa, V.fz, fzL, V.up, upL, Ab, Ac, Ad, slr]) (by first | rfl | simp only [Aa, V.fz, fzL, V.up, upL, Ab, Ac, Ad, slr, List.cons_append, List.nil_append] | simp [Aa, V.fz, fzL, V.up, upL, Ab, Ac, Ad, slr]) h fun h => ?_
   conv => whnf
   refine Ask.o h fun p5 h => ?_
   conv => whnf
   cases h; exact ⟨rfl, rfl⟩
  conv => whnf
  refine Ask.o h fun p6 h => ?_
  conv => whnf
  cases h; exact ⟨rfl, rfl⟩
 conv => whnf
 cases h; exact ⟨rfl, rfl⟩
noncomputable def Io (mask0 : Int) : Option (List Int) :=
 (Ap (Ek mask0) ((0 : Int), A9 Int)).bind fun q7_3 =>
 some q7_3
theorem Ags {mask0 : Int} {v : (List Int)} (h : Io mask0 = some v) : Ret Try.prog Pa [Af mask0] ((slr true 1 Af) v) := by
 refine A7 Afk (Nat.le_of_ble_eq_true rfl) ?_
 unfold Io at h
 conv => whnf
 refine BslQ.o Af (A9 Int) (by exact fun _ => ⟨rfl, rfl⟩) (by first | rfl | simp only [Aa, V.fz, fzL, V.up, upL, Ab, Ac, Ad, slr, List.cons_append, List.nil_append] | simp [Aa, V.fz, fzL, V.up, upL, Ab, Ac, Ad, slr]) ?_
 conv => whnf
 refine LoopQ.o [4, 3, 0] (Ks mask0) (Qc mask0) h (fun s o h => Zl s o h) (by first | rfl | simp [restrict, look, Aa, V.fz, fzL, V.up, upL, Ab, Ac, Ad, slr]) (fun _ => rfl) ?_
 rintro q7_3 h
 try dsimp only at h
 conv => whnf
 cases h; exact (by first | rfl | simp only [Ag, Aa, V.fz, fzL, V.up, upL, Ab, Ac, Ad, slr] | simp [Ag, Aa, V.fz, fzL, V.up, upL, Ab, Ac, Ad, slr])
noncomputable def Eg (bits0 : Int) : (Int × (List Int)) → Option ((Int × (List Int)) ⊕ (List Int)) := fun (x4, x3) =>
 ask ((0 : Int) ≤ x4) <|
 if Ait bits0 x4 > (0 : Int) then
 ask ((0 : Int) ≤ x4) <|
 if Anw (Ait bits0 x4) (1 : Int) = (1 : Int) then
 ask ((x3).length + ([x4]).length ≤ LIM) <|
 ask (InI (x4 + (1 : Int))) <|
 some (.inl (x4 + (1 : Int), x3 ++ [x4]))
 else
 ask (InI (x4 + (1 : Int))) <|
 some (.inl (x4 + (1 : Int), x3))
 else
 some (.inr x3)
def K2 (bits0 : Int) : (Int × (List Int)) → St := fun s => [(4, A.val (Af s.1)), (3, A.val ((slr true 1 Af) s.2)), (0, A.val (Af (bits0)))]
def P4 (_bits0 : Int) : (List Int) → Tgt
 | s => ((Ex.exit 0), [3], [(3, A.val ((slr true 1 Af) s))])
theorem Zv {bits0 : Int} (s : (Int × (List Int))) (o : (Int × (List Int)) ⊕ (List Int)) (h : Eg bits0 s = some o) : vc Try.prog Qs (Dl [4, 3, 0] (K2 bits0) (P4 bits0) o) (K2 bits0 s) := by
 obtain ⟨x4, x3⟩ := s
 unfold Eg at h
 try dsimp only at h
 conv => whnf
 refine Ask.o h fun p1 h => ?_
 conv => whnf
 refine Br.od h (fun p2 h => ?_) (fun p2 h => ?_)
 ·conv => whnf
  refine Ask.o h fun p3 h => ?_
  conv => whnf
  refine Br.oe h (fun p4 h => ?_) (fun p4 h => ?_)
  ·conv => whnf
   refine BslQ.o Af [x4] (by exact fun _ => ⟨rfl, rfl⟩) (by first | rfl | simp only [Aa, V.fz, fzL, V.up, upL, Ab, Ac, Ad, slr, List.cons_append, List.nil_append] | simp [Aa, V.fz, fzL, V.up, upL, Ab, Ac, Ad, slr]) ?_
   conv => whnf
   refine NoOwn.o (fun _ => rfl) ?_
   conv => whnf
   refine AppQ.o (m := 1) Af (by exact fun _ => ⟨rfl, rfl⟩) (x3) ([x4]) (by first | rfl | simp only [Aa, V.fz, fzL, V.up, upL, Ab, Ac, Ad, slr, List.cons_append, List.nil_append] | simp [Aa, V.fz, fzL, V.up, upL, Ab, Ac, Ad, slr]) (by first | rfl | simp only [Aa, V.fz, fzL, V.up, upL, Ab, Ac, Ad, slr, List.cons_append, List.nil_append] | simp [Aa, V.fz, fzL, V.up, upL, Ab, Ac, Ad, slr]) h fun h => ?_
   conv => whnf
   refine Ask.o h fun p5 h => ?_
   conv => whnf
   cases h; exact ⟨rfl, rfl⟩
  conv => whnf
  refine Ask.o h fun p6 h => ?_
  conv => whnf
  cases h; exact ⟨rfl, rfl⟩
 conv => whnf
 cases h; exact ⟨rfl, rfl⟩
noncomputable def In (bits0 : Int) : Option (List Int) :=
 (Ap (Eg bits0) ((0 : Int), A9 Int)).bind fun q7_3 =>
 some q7_3
theorem Afb {bits0 : Int} {v : (List Int)} (h : In bits0 = some v) : Ret Try.prog O8 [Af bits0] ((slr true 1 Af) v) := by
 refine A7 Af5 (Nat.le_of_ble_eq_true rfl) ?_
 unfold In at h
 conv => whnf
 refine BslQ.o Af (A9 Int) (by exact fun _ => ⟨rfl, rfl⟩) (by first | rfl | simp only [Aa, V.fz, fzL, V.up, upL, Ab, Ac, Ad, slr, List.cons_append, List.nil_append] | simp [Aa, V.fz, fzL, V.up, upL, Ab, Ac, Ad, slr]) ?_
 conv => whnf
 refine LoopQ.o [4, 3, 0] (K2 bits0) (P4 bits0) h (fun s o h => Zv s o h) (by first | rfl | simp [restrict, look, Aa, V.fz, fzL, V.up, upL, Ab, Ac, Ad, slr]) (fun _ => rfl) ?_
 rintro q7_3 h
 try dsimp only at h
 conv => whnf
 cases h; exact (by first | rfl | simp only [Ag, Aa, V.fz, fzL, V.up, upL, Ab, Ac, Ad, slr] | simp [Ag, Aa, V.fz, fzL, V.up, upL, Ab, Ac, Ad, slr])
end Go.Proofs.Ytidaaijecmkndaa.Ax
