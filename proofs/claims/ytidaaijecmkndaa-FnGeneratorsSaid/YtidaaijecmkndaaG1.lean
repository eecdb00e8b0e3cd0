/-
 What the functions compute, as functions on plain data, and that the program does compute it; written by program.
-/
import Derived.Test.YtidaaijecmkndaaCode
namespace Go.Proofs.Ytidaaijecmkndaa.Ax
open Go
set_option maxRecDepth 100000
set_option maxHeartbeats 4000000
noncomputable def Pj (code0 : (List Int)) : Option Bool :=
 some (decide ((↑code0.length : Int) > (65536 : Int)))
theorem Anm {code0 : (List Int)} {v : Bool} (h : Pj code0 = some v) : Ret Try.prog Vy [(slr false 1 (V.int IntKind.u8)) code0] (V.bool v) := by
 refine A1 Al1 (Nat.le_of_ble_eq_true rfl) ?_
 unfold Pj at h
 conv => whnf
 refine Len.map ?_
 conv => whnf
 cases h; exact (by first | rfl | simp only [Ah, Aa, V.fz, fzL, V.up, upL, Ab, Ac, Ad, slr] | simp [Ah, Aa, V.fz, fzL, V.up, upL, Ab, Ac, Ad, slr])
noncomputable def D6 (a0 : List Int) (b0 : List Int) : Int → Option (Int ⊕ (Unit ⊕ Unit)) := fun x5 =>
 if x5 < (↑a0.length : Int) then
 ask ((0 : Int) ≤ x5 ∧ x5 < (↑a0.length : Int)) <|
 ask ((0 : Int) ≤ x5 ∧ x5 < (↑b0.length : Int)) <|
 if nth a0 x5.toNat ≠ nth b0 x5.toNat then
 some (.inr (.inl ()))
 else
 ask (InI (x5 + (1 : Int))) <|
 some (.inl (x5 + (1 : Int)))
 else
 some (.inr (.inr ()))
def M5 (a0 : List Int) (b0 : List Int) : Int → St := fun s => [(5, A.val (Af s)), (0, A.val ((slr false 1 Af) (a0))), (1, A.val ((slr false 1 Af) (b0)))]
def T5 (_a0 : List Int) (_b0 : List Int) : (Unit ⊕ Unit) → Tgt
 | (.inl _s) => (Ex.ret, [4], [(4, A.val (V.bool (false)))])
 | (.inr _s) => ((Ex.exit 0), [], [])
theorem Ac2 {a0 : List Int} {b0 : List Int} (x5 : Int) (o : Int ⊕ (Unit ⊕ Unit)) (h : D6 a0 b0 x5 = some o) : vc Try.prog T0 (C0 [5, 0, 1] (M5 a0 b0) (T5 a0 b0) o) (M5 a0 b0 x5) := by
 unfold D6 at h
 try dsimp only at h
 conv => whnf
 refine Len.map ?_
 conv => whnf
 refine Br.od h (fun p2 h => ?_) (fun p2 h => ?_)
 ·conv => whnf
  refine Len.map ?_
  conv => whnf
  refine Ask.o h fun p3 h => ?_
  conv => whnf
  refine Elem.o (by first | omega | (simp [As] at *; omega)) ?_
  conv => whnf
  refine Len.map ?_
  conv => whnf
  refine Ask.o h fun p4 h => ?_
  conv => whnf
  refine Elem.o (by first | omega | (simp [As] at *; omega)) ?_
  conv => whnf
  refine Br.on h (fun p5 h => ?_) (fun p5 h => ?_)
  ·conv => whnf
   cases h; exact ⟨rfl, rfl⟩
  conv => whnf
  refine Ask.o h fun p6 h => ?_
  conv => whnf
  cases h; exact ⟨rfl, rfl⟩
 conv => whnf
 cases h; exact ⟨rfl, rfl⟩
noncomputable def Eb (a0 : (List Int)) (b0 : (List Int)) : Option Bool :=
 if (↑a0.length : Int) ≠ (↑b0.length : Int) then
 some false
 else
 (Am (D6 a0 b0) (0 : Int)).bind fun t => match t with
 | (.inl _) => (some false)
 | (.inr _) => (some true)
theorem Nl {a0 : (List Int)} {b0 : (List Int)} {v : Bool} (h : Eb a0 b0 = some v) : Ret Try.prog Hy [(slr false 1 Af) a0, (slr false 1 Af) b0] (V.bool v) := by
 refine A1 Ajw (Nat.le_of_ble_eq_true rfl) ?_
 unfold Eb at h
 conv => whnf
 refine Len.map ?_
 conv => whnf
 refine Len.map ?_
 conv => whnf
 refine Br.on h (fun p1 h => ?_) (fun p1 h => ?_)
 ·conv => whnf
  cases h; exact (by first | rfl | simp only [Ah, Aa, V.fz, fzL, V.up, upL, Ab, Ac, Ad, slr] | simp [Ah, Aa, V.fz, fzL, V.up, upL, Ab, Ac, Ad, slr])
 conv => whnf
 refine LoopQ.o [5, 0, 1] (M5 a0 b0) (T5 a0 b0) h (fun s o h => Ac2 s o h) (by first | rfl | simp [restrict, look, Aa, V.fz, fzL, V.up, upL, Ab, Ac, Ad, slr]) (by rintro (_ | _) <;> rfl) ?_
 rintro (⟨⟩ | ⟨⟩) h
 ·try dsimp only at h
  conv => whnf
  cases h; exact (by first | rfl | simp only [Ah, Aa, V.fz, fzL, V.up, upL, Ab, Ac, Ad, slr] | simp [Ah, Aa, V.fz, fzL, V.up, upL, Ab, Ac, Ad, slr])
 try dsimp only at h
 conv => whnf
 cases h; exact (by first | rfl | simp only [Ah, Aa, V.fz, fzL, V.up, upL, Ab, Ac, Ad, slr] | simp [Ah, Aa, V.fz, fzL, V.up, upL, Ab, Ac, Ad, slr])
noncomputable def Ds (list0 : List Int) (x0 : Int) : Int → Option (Int ⊕ (Unit ⊕ Unit)) := fun x5 =>
 if x5 < (↑list0.length : Int) then
 ask ((0 : Int) ≤ x5 ∧ x5 < (↑list0.length : Int)) <|
 if nth list0 x5.toNat = x0 then
 some (.inr (.inl ()))
 else
 ask (InI (x5 + (1 : Int))) <|
 some (.inl (x5 + (1 : Int)))
 else
 some (.inr (.inr ()))
def O3 (list0 : List Int) (x0 : Int) : Int → St := fun s => [(5, A.val (Af s)), (0, A.val ((slr false 1 Af) (list0))), (1, A.val (Af (x0)))]
def Vb (_list0 : List Int) (_x0 : Int) : (Unit ⊕ Unit) → Tgt
 | (.inl _s) => (Ex.ret, [4], [(4, A.val (V.bool (true)))])
 | (.inr _s) => ((Ex.exit 0), [], [])
theorem Ady {list0 : List Int} {x0 : Int} (x5 : Int) (o : Int ⊕ (Unit ⊕ Unit)) (h : Ds list0 x0 x5 = some o) : vc Try.prog Ux (C0 [5, 0, 1] (O3 list0 x0) (Vb list0 x0) o) (O3 list0 x0 x5) := by
 unfold Ds at h
 try dsimp only at h
 conv => whnf
 refine Len.map ?_
 conv => whnf
 refine Br.od h (fun p1 h => ?_) (fun p1 h => ?_)
 ·conv => whnf
  refine Len.map ?_
  conv => whnf
  refine Ask.o h fun p2 h => ?_
  conv => whnf
  refine Elem.o (by first | omega | (simp [As] at *; omega)) ?_
  conv => whnf
  refine Br.oe h (fun p3 h => ?_) (fun p3 h => ?_)
  ·conv => whnf
   cases h; exact ⟨rfl, rfl⟩
  conv => whnf
  refine Ask.o h fun p4 h => ?_
  conv => whnf
  cases h; exact ⟨rfl, rfl⟩
 conv => whnf
 cases h; exact ⟨rfl, rfl⟩
noncomputable def Ju (list0 : (List Int)) (x0 : Int) : Option Bool :=
 (Am (Ds list0 x0) (0 : Int)).bind fun t => match t with
 | (.inl _) => (some true)
 | (.inr _) => (some false)
theorem Ab9 {list0 : (List Int)} {x0 : Int} {v : Bool} (h : Ju list0 x0 = some v) : Ret Try.prog Pa [(slr false 1 Af) list0, Af x0] (V.bool v) := by
 refine A1 Alv (Nat.le_of_ble_eq_true rfl) ?_
 unfold Ju at h
 conv => whnf
 refine LoopQ.o [5, 0, 1] (O3 list0 x0) (Vb list0 x0) h (fun s o h => Ady s o h) (by first | rfl | simp [restrict, look, Aa, V.fz, fzL, V.up, upL, Ab, Ac, Ad, slr]) (by rintro (_ | _) <;> rfl) ?_
 rintro (⟨⟩ | ⟨⟩) h
 ·try dsimp only at h
  conv => whnf
  cases h; exact (by first | rfl | simp only [Ah, Aa, V.fz, fzL, V.up, upL, Ab, Ac, Ad, slr] | simp [Ah, Aa, V.fz, fzL, V.up, upL, Ab, Ac, Ad, slr])
 try dsimp only at h
 conv => whnf
 cases h; exact (by first | rfl | simp only [Ah, Aa, V.fz, fzL, V.up, upL, Ab, Ac, Ad, slr] | simp [Ah, Aa, V.fz, fzL, V.up, upL, Ab, Ac, Ad, slr])
noncomputable def Gm (x0 : Int) (a0 : Int) (b0 : Int) : Option Bool :=
 if x0 ≥ a0 then
 some (decide (x0 ≤ b0))
 else
 some false
theorem Ps {x0 : Int} {a0 : Int} {b0 : Int} {v : Bool} (h : Gm x0 a0 b0 = some v) : Ret Try.prog J0 [Af x0, Af a0, Af b0] (V.bool v) := by
 refine A1 Alj (Nat.le_of_ble_eq_true rfl) ?_
 unfold Gm at h
 conv => whnf
 refine Br.od h (fun p1 h => ?_) (fun p1 h => ?_)
 ·conv => whnf
  refine Br.yes ?_
  conv => whnf
  refine Br.yes ?_
  conv => whnf
  refine Br.yes ?_
  conv => whnf
  cases h; exact (by first | rfl | simp only [Ah, Aa, V.fz, fzL, V.up, upL, Ab, Ac, Ad, slr] | simp [Ah, Aa, V.fz, fzL, V.up, upL, Ab, Ac, Ad, slr])
 conv => whnf
 refine Br.no ?_
 conv => whnf
 refine Br.no ?_
 conv => whnf
 refine Br.no ?_
 conv => whnf
 cases h; exact (by first | rfl | simp only [Ah, Aa, V.fz, fzL, V.up, upL, Ab, Ac, Ad, slr] | simp [Ah, Aa, V.fz, fzL, V.up, upL, Ab, Ac, Ad, slr])
noncomputable def D2 (n0 : Int) : (Int × Int) → Option ((Int × Int) ⊕ Int) := fun (x5, x1) =>
 if x1 > (0 : Int) then
 ask (InI (x5 * n0)) <|
 ask (InI (x1 - (1 : Int))) <|
 some (.inl (x5 * n0, x1 - (1 : Int)))
 else
 some (.inr x5)
def Mw (n0 : Int) : (Int × Int) → St := fun s => [(5, A.val (Af s.1)), (0, A.val (Af (n0))), (1, A.val (Af s.2))]
def Tp (_n0 : Int) : Int → Tgt
 | s => ((Ex.exit 0), [5], [(5, A.val (Af s))])
theorem Acm {n0 : Int} (s : (Int × Int)) (o : (Int × Int) ⊕ Int) (h : D2 n0 s = some o) : vc Try.prog Tm (C0 [5, 0, 1] (Mw n0) (Tp n0) o) (Mw n0 s) := by
 obtain ⟨x5, x1⟩ := s
 unfold D2 at h
 try dsimp only at h
 conv => whnf
 refine Br.od h (fun p1 h => ?_) (fun p1 h => ?_)
 ·conv => whnf
  refine Ask.o h fun p2 h => ?_
  conv => whnf
  refine Ask.o h fun p3 h => ?_
  conv => whnf
  cases h; exact ⟨rfl, rfl⟩
 conv => whnf
 cases h; exact ⟨rfl, rfl⟩
noncomputable def Gs (n0 : Int) (k0 : Int) : Option Int :=
 (Am (D2 n0) ((1 : Int), k0)).bind fun q4_5 =>
 some q4_5
theorem Z9 {n0 : Int} {k0 : Int} {v : Int} (h : Gs n0 k0 = some v) : Ret Try.prog Nu [Af n0, Af k0] (Af v) := by
 refine A1 Aj3 (Nat.le_of_ble_eq_true rfl) ?_
 unfold Gs at h
 conv => whnf
 refine LoopQ.o [5, 0, 1] (Mw n0) (Tp n0) h (fun s o h => Acm s o h) (by first | rfl | simp [restrict, look, Aa, V.fz, fzL, V.up, upL, Ab, Ac, Ad, slr]) (fun _ => rfl) ?_
 rintro q4_5 h
 try dsimp only at h
 conv => whnf
 cases h; exact (by first | rfl | simp only [Ah, Aa, V.fz, fzL, V.up, upL, Ab, Ac, Ad, slr] | simp [Ah, Aa, V.fz, fzL, V.up, upL, Ab, Ac, Ad, slr])
noncomputable def Dj (list0 : List Int) (n0 : Int) : Int → Option (Int ⊕ (Unit ⊕ Unit)) := fun x9 =>
 if x9 < (↑list0.length : Int) then
 ask ((0 : Int) ≤ x9 ∧ x9 < (↑list0.length : Int)) <|
 if nth list0 x9.toNat < (0 : Int) then
 some (.inr (.inl ()))
 else
 if nth list0 x9.toNat ≥ n0 then
 some (.inr (.inl ()))
 else
 ask (InI (x9 + (1 : Int))) <|
 some (.inl (x9 + (1 : Int)))
 else
 some (.inr (.inr ()))
def L0 (list0 : List Int) (n0 : Int) : Int → St := fun s => [(9, A.val (Af s)), (8, A.val (Af ((↑list0.length : Int)))), (7, A.val ((slr false 1 Af) (list0))), (1, A.val (Af (n0)))]
def Qy (_list0 : List Int) (_n0 : Int) : (Unit ⊕ Unit) → Tgt
 | (.inl _s) => (Ex.ret, [4], [(4, A.val (V.bool (false)))])
 | (.inr _s) => ((Ex.exit 0), [], [])
theorem Aam {list0 : List Int} {n0 : Int} (x9 : Int) (o : Int ⊕ (Unit ⊕ Unit)) (h : Dj list0 n0 x9 = some o) : vc Try.prog Rq (C0 [9, 8, 7, 1] (L0 list0 n0) (Qy list0 n0) o) (L0 list0 n0 x9) := by
 unfold Dj at h
 try dsimp only at h
 conv => whnf
 refine Br.od h (fun p1 h => ?_) (fun p1 h => ?_)
 ·conv => whnf
  refine Len.map ?_
  conv => whnf
  refine Ask.o h fun p2 h => ?_
  conv => whnf
  refine Elem.o (by first | omega | (simp [As] at *; omega)) ?_
  conv => whnf
  refine Br.od h (fun p3 h => ?_) (fun p3 h => ?_)
  ·conv => whnf
   refine Br.yes ?_
   conv => whnf
   refine Br.yes ?_
   conv => whnf
   refine Br.yes ?_
   conv => whnf
   refine Br.yes ?_
   conv => whnf
   cases h; exact ⟨rfl, rfl⟩
  conv => whnf
  refine Br.no ?_
  conv => whnf
  refine Br.no ?_
  conv => whnf
  refine Br.no ?_
  conv => whnf
  refine Br.od h (fun p4 h => ?_) (fun p4 h => ?_)
  ·conv => whnf
   cases h; exact ⟨rfl, rfl⟩
  conv => whnf
  refine Ask.o h fun p5 h => ?_
  conv => whnf
  cases h; exact ⟨rfl, rfl⟩
 conv => whnf
 cases h; exact ⟨rfl, rfl⟩
noncomputable def Fp (list0 : (List Int)) (n0 : Int) : Option Bool :=
 (Am (Dj list0 n0) (0 : Int)).bind fun t => match t with
 | (.inl _) => (some false)
 | (.inr _) => (some true)
theorem P9 {list0 : (List Int)} {n0 : Int} {v : Bool} (h : Fp list0 n0 = some v) : Ret Try.prog Ir [(slr false 1 Af) list0, Af n0] (V.bool v) := by
 refine A1 Agh (Nat.le_of_ble_eq_true rfl) ?_
 unfold Fp at h
 conv => whnf
 refine Len.map ?_
 conv => whnf
 refine LoopQ.o [9, 8, 7, 1] (L0 list0 n0) (Qy list0 n0) h (fun s o h => Aam s o h) (by first | rfl | simp [restrict, look, Aa, V.fz, fzL, V.up, upL, Ab, Ac, Ad, slr]) (by rintro (_ | _) <;> rfl) ?_
 rintro (⟨⟩ | ⟨⟩) h
 ·try dsimp only at h
  conv => whnf
  cases h; exact (by first | rfl | simp only [Ah, Aa, V.fz, fzL, V.up, upL, Ab, Ac, Ad, slr] | simp [Ah, Aa, V.fz, fzL, V.up, upL, Ab, Ac, Ad, slr])
 try dsimp only at h
 conv => whnf
 cases h; exact (by first | rfl | simp only [Ah, Aa, V.fz, fzL, V.up, upL, Ab, Ac, Ad, slr] | simp [Ah, Aa, V.fz, fzL, V.up, upL, Ab, Ac, Ad, slr])
noncomputable def Ff (list0 : List Int) : (Int × (List Bool)) → Option ((Int × (List Bool)) ⊕ (List Bool)) := fun (x12, x5) =>
 if x12 < (↑list0.length : Int) then
 ask ((0 : Int) ≤ x12 ∧ x12 < (↑list0.length : Int)) <|
 ask ((0 : Int) ≤ nth list0 x12.toNat ∧ nth list0 x12.toNat < (↑x5.length : Int)) <|
 ask (InI (x12 + (1 : Int))) <|
 some (.inl (x12 + (1 : Int), x5.set (nth list0 x12.toNat).toNat true))
 else
 some (.inr x5)
def M3 (list0 : List Int) : (Int × (List Bool)) → St := fun s => [(12, A.val (Af s.1)), (11, A.val (Af ((↑list0.length : Int)))), (10, A.val ((slr false 1 Af) (list0))), (5, A.val ((slr true 1 V.bool) s.2))]
def T6 (_list0 : List Int) : (List Bool) → Tgt
 | s => ((Ex.exit 0), [5], [(5, A.val ((slr true 1 V.bool) s))])
theorem Acv {list0 : List Int} (s : (Int × (List Bool))) (o : (Int × (List Bool)) ⊕ (List Bool)) (h : Ff list0 s = some o) : vc Try.prog Tl (C0 [12, 11, 10, 5] (M3 list0) (T6 list0) o) (M3 list0 s) := by
 obtain ⟨x12, x5⟩ := s
 unfold Ff at h
 try dsimp only at h
 conv => whnf
 refine Br.od h (fun p2 h => ?_) (fun p2 h => ?_)
 ·conv => whnf
  refine Len.map ?_
  conv => whnf
  refine Ask.o h fun p3 h => ?_
  conv => whnf
  refine Elem.o (by first | omega | (simp [As] at *; omega)) ?_
  conv => whnf
  refine Len.map ?_
  conv => whnf
  refine Ask.o h fun p4 h => ?_
  conv => whnf
  refine SetKids.one (fun _ => ⟨rfl, rfl⟩) (true) (by first | rfl | simp only [Aa, V.fz, fzL, V.up, upL, Ab, Ac, Ad, slr, List.cons_append, List.nil_append] | simp [Aa, V.fz, fzL, V.up, upL, Ab, Ac, Ad, slr]) (by first | omega | (simp [As] at *; omega)) ?_
  conv => whnf
  refine Ask.o h fun p5 h => ?_
  conv => whnf
  cases h; exact ⟨rfl, rfl⟩
 conv => whnf
 cases h; exact ⟨rfl, rfl⟩
noncomputable def H2 (list0 : (List Int)) (n0 : Int) : Option (List Bool) :=
 ask ((0 : Int) ≤ n0 ∧ n0 ≤ (↑LIM : Int)) <|
 (Am (Ff list0) ((0 : Int), List.replicate n0.toNat false)).bind fun q6_5 =>
 some q6_5
theorem Aj6 {list0 : (List Int)} {n0 : Int} {v : (List Bool)} (h : H2 list0 n0 = some v) : Ret Try.prog S7 [(slr false 1 Af) list0, Af n0] ((slr true 1 V.bool) v) := by
 refine A1 Aj4 (Nat.le_of_ble_eq_true rfl) ?_
 unfold H2 at h
 conv => whnf
 refine Ask.o h fun p1 h => ?_
 conv => whnf
 refine MkQ.o V.bool (false) rfl ?_
 conv => whnf
 refine Len.map ?_
 conv => whnf
 refine LoopQ.o [12, 11, 10, 5] (M3 list0) (T6 list0) h (fun s o h => Acv s o h) (by first | rfl | simp [restrict, look, Aa, V.fz, fzL, V.up, upL, Ab, Ac, Ad, slr]) (fun _ => rfl) ?_
 rintro q6_5 h
 try dsimp only at h
 conv => whnf
 cases h; exact (by first | rfl | simp only [Ah, Aa, V.fz, fzL, V.up, upL, Ab, Ac, Ad, slr] | simp [Ah, Aa, V.fz, fzL, V.up, upL, Ab, Ac, Ad, slr])
noncomputable def F6 (have0 : List Bool) : (Int × (List Int)) → Option ((Int × (List Int)) ⊕ (List Int)) := fun (x9, x3) =>
 if x9 < (↑have0.length : Int) then
 ask ((0 : Int) ≤ x9 ∧ x9 < (↑have0.length : Int)) <|
 if (nth have0 x9.toNat) = true then
 ask ((x3).length + ([x9]).length ≤ LIM) <|
 ask (InI (x9 + (1 : Int))) <|
 some (.inl (x9 + (1 : Int), x3 ++ [x9]))
 else
 ask (InI (x9 + (1 : Int))) <|
 some (.inl (x9 + (1 : Int), x3))
 else
 some (.inr x3)
def Ll (have0 : List Bool) : (Int × (List Int)) → St := fun s => [(9, A.val (Af s.1)), (8, A.val (Af ((↑have0.length : Int)))), (7, A.val ((slr false 1 V.bool) (have0))), (3, A.val ((slr true 1 Af) s.2))]
def Qn (_have0 : List Bool) : (List Int) → Tgt
 | s => ((Ex.exit 0), [3], [(3, A.val ((slr true 1 Af) s))])
theorem Abd {have0 : List Bool} (s : (Int × (List Int))) (o : (Int × (List Int)) ⊕ (List Int)) (h : F6 have0 s = some o) : vc Try.prog Ry (C0 [9, 8, 7, 3] (Ll have0) (Qn have0) o) (Ll have0 s) := by
 obtain ⟨x9, x3⟩ := s
 unfold F6 at h
 try dsimp only at h
 conv => whnf
 refine Br.od h (fun p1 h => ?_) (fun p1 h => ?_)
 ·conv => whnf
  refine Len.map ?_
  conv => whnf
  refine Ask.o h fun p2 h => ?_
  conv => whnf
  refine Elem.o (by first | omega | (simp [As] at *; omega)) ?_
  conv => whnf
  refine Br.ob h (fun p3 h => ?_) (fun p3 h => ?_)
  ·conv => whnf
   refine BslQ.o Af [x9] (by exact fun _ => ⟨rfl, rfl⟩) (by first | rfl | simp only [Aa, V.fz, fzL, V.up, upL, Ab, Ac, Ad, slr, List.cons_append, List.nil_append] | simp [Aa, V.fz, fzL, V.up, upL, Ab, Ac, Ad, slr]) ?_
   conv => whnf
   refine NoOwn.o (fun _ => rfl) ?_
   conv => whnf
   refine AppQ.o (m := 1) Af (by exact fun _ => ⟨rfl, rfl⟩) (x3) ([x9]) (by first | rfl | simp only [Aa, V.fz, fzL, V.up, upL, Ab, Ac, Ad, slr, List.cons_append, List.nil_append] | simp [Aa, V.fz, fzL, V.up, upL, Ab, Ac, Ad, slr]) (by first | rfl | simp only [Aa, V.fz, fzL, V.up, upL, Ab, Ac, Ad, slr, List.cons_append, List.nil_append] | simp [Aa, V.fz, fzL, V.up, upL, Ab, Ac, Ad, slr]) h fun h => ?_
   conv => whnf
   refine Ask.o h fun p4 h => ?_
   conv => whnf
   cases h; exact ⟨rfl, rfl⟩
  conv => whnf
  refine Ask.o h fun p5 h => ?_
  conv => whnf
  cases h; exact ⟨rfl, rfl⟩
 conv => whnf
 cases h; exact ⟨rfl, rfl⟩
noncomputable def G4 (have0 : (List Bool)) : Option (List Int) :=
 (Am (F6 have0) ((0 : Int), A5 Int)).bind fun q6_3 =>
 some q6_3
theorem Agt {have0 : (List Bool)} {v : (List Int)} (h : G4 have0 = some v) : Ret Try.prog Qg [(slr false 1 V.bool) have0] ((slr true 1 Af) v) := by
 refine A1 Ag7 (Nat.le_of_ble_eq_true rfl) ?_
 unfold G4 at h
 conv => whnf
 refine BslQ.o Af (A5 Int) (by exact fun _ => ⟨rfl, rfl⟩) (by first | rfl | simp only [Aa, V.fz, fzL, V.up, upL, Ab, Ac, Ad, slr, List.cons_append, List.nil_append] | simp [Aa, V.fz, fzL, V.up, upL, Ab, Ac, Ad, slr]) ?_
 conv => whnf
 refine Len.map ?_
 conv => whnf
 refine LoopQ.o [9, 8, 7, 3] (Ll have0) (Qn have0) h (fun s o h => Abd s o h) (by first | rfl | simp [restrict, look, Aa, V.fz, fzL, V.up, upL, Ab, Ac, Ad, slr]) (fun _ => rfl) ?_
 rintro q6_3 h
 try dsimp only at h
 conv => whnf
 cases h; exact (by first | rfl | simp only [Ah, Aa, V.fz, fzL, V.up, upL, Ab, Ac, Ad, slr] | simp [Ah, Aa, V.fz, fzL, V.up, upL, Ab, Ac, Ad, slr])
noncomputable def Da (n0 : Int) (have0 : List Bool) : (Int × Int) → Option ((Int × Int) ⊕ (Unit ⊕ Unit)) := fun (x0, x1) =>
 if x1 > (0 : Int) then
 ask (n0 ≠ (0 : Int)) <|
 ask ((0 : Int) ≤ x0.tmod n0 ∧ x0.tmod n0 < (↑have0.length : Int)) <|
 if (nth have0 (x0.tmod n0).toNat) = true then
 ask (n0 ≠ (0 : Int) ∧ InI (x0.tdiv n0)) <|
 ask (InI (x1 - (1 : Int))) <|
 some (.inl (x0.tdiv n0, x1 - (1 : Int)))
 else
 some (.inr (.inl ()))
 else
 some (.inr (.inr ()))
def Mt (n0 : Int) (have0 : List Bool) : (Int × Int) → St := fun s => [(0, A.val (Af s.1)), (1, A.val (Af s.2)), (2, A.val (Af (n0))), (3, A.val ((slr false 1 V.bool) (have0)))]
def Tn (_n0 : Int) (_have0 : List Bool) : (Unit ⊕ Unit) → Tgt
 | (.inl _s) => (Ex.ret, [8], [(8, A.val (V.bool (false)))])
 | (.inr _s) => ((Ex.exit 0), [], [])
theorem Acq {n0 : Int} {have0 : List Bool} (s : (Int × Int)) (o : (Int × Int) ⊕ (Unit ⊕ Unit)) (h : Da n0 have0 s = some o) : vc Try.prog Tw (C0 [0, 1, 2, 3] (Mt n0 have0) (Tn n0 have0) o) (Mt n0 have0 s) := by
 obtain ⟨x0, x1⟩ := s
 unfold Da at h
 try dsimp only at h
 conv => whnf
 refine Br.od h (fun p1 h => ?_) (fun p1 h => ?_)
 ·conv => whnf
  refine Ask.o h fun p2 h => ?_
  conv => whnf
  refine Len.map ?_
  conv => whnf
  refine Ask.o h fun p3 h => ?_
  conv => whnf
  refine Elem.o (by first | omega | (simp [As] at *; omega)) ?_
  conv => whnf
  refine Br.flip ?_
  conv => whnf
  refine Br.ob h (fun p4 h => ?_) (fun p4 h => ?_)
  ·conv => whnf
   refine Ask.o h fun p5 h => ?_
   conv => whnf
   refine Ask.o h fun p6 h => ?_
   conv => whnf
   cases h; exact ⟨rfl, rfl⟩
  conv => whnf
  cases h; exact ⟨rfl, rfl⟩
 conv => whnf
 cases h; exact ⟨rfl, rfl⟩
noncomputable def Kc (i0 : Int) (arity0 : Int) (n0 : Int) (have0 : (List Bool)) : Option Bool :=
 (Am (Da n0 have0) (i0, arity0)).bind fun t => match t with
 | (.inl _) => (some false)
 | (.inr _) => (some true)
theorem Ai6 {i0 : Int} {arity0 : Int} {n0 : Int} {have0 : (List Bool)} {v : Bool} (h : Kc i0 arity0 n0 have0 = some v) : Ret Try.prog Te [Af i0, Af arity0, Af n0, (slr false 1 V.bool) have0] (V.bool v) := by
 refine A1 Ais (Nat.le_of_ble_eq_true rfl) ?_
 unfold Kc at h
 conv => whnf
 refine LoopQ.o [0, 1, 2, 3] (Mt n0 have0) (Tn n0 have0) h (fun s o h => Acq s o h) (by first | rfl | simp [restrict, look, Aa, V.fz, fzL, V.up, upL, Ab, Ac, Ad, slr]) (by rintro (_ | _) <;> rfl) ?_
 rintro (⟨⟩ | ⟨⟩) h
 ·try dsimp only at h
  conv => whnf
  cases h; exact (by first | rfl | simp only [Ah, Aa, V.fz, fzL, V.up, upL, Ab, Ac, Ad, slr] | simp [Ah, Aa, V.fz, fzL, V.up, upL, Ab, Ac, Ad, slr])
 try dsimp only at h
 conv => whnf
 cases h; exact (by first | rfl | simp only [Ah, Aa, V.fz, fzL, V.up, upL, Ab, Ac, Ad, slr] | simp [Ah, Aa, V.fz, fzL, V.up, upL, Ab, Ac, Ad, slr])
noncomputable def Od (some0 : List Int) : (Int × (List Bool)) → Option ((Int × (List Bool)) ⊕ (List Bool)) := fun (x6, x5) =>
 if x6 < (↑some0.length : Int) then
 ask ((0 : Int) ≤ x6 ∧ x6 < (↑some0.length : Int)) <|
 ask ((0 : Int) ≤ nth some0 x6.toNat ∧ nth some0 x6.toNat < (↑x5.length : Int)) <|
 ask (InI (x6 + (1 : Int))) <|
 some (.inl (x6 + (1 : Int), x5.set (nth some0 x6.toNat).toNat true))
 else
 some (.inr x5)
def Ou (some0 : List Int) : (Int × (List Bool)) → St := fun s => [(6, A.val (Af s.1)), (5, A.val ((slr true 1 V.bool) s.2)), (1, A.val ((slr false 1 Af) (some0)))]
def V6 (_some0 : List Int) : (List Bool) → Tgt
 | s => ((Ex.exit 0), [5], [(5, A.val ((slr true 1 V.bool) s))])
theorem Aez {some0 : List Int} (s : (Int × (List Bool))) (o : (Int × (List Bool)) ⊕ (List Bool)) (h : Od some0 s = some o) : vc Try.prog Ur (C0 [6, 5, 1] (Ou some0) (V6 some0) o) (Ou some0 s) := by
 obtain ⟨x6, x5⟩ := s
 unfold Od at h
 try dsimp only at h
 conv => whnf
 refine Len.map ?_
 conv => whnf
 refine Br.od h (fun p2 h => ?_) (fun p2 h => ?_)
 ·conv => whnf
  refine Len.map ?_
  conv => whnf
  refine Ask.o h fun p3 h => ?_
  conv => whnf
  refine Elem.o (by first | omega | (simp [As] at *; omega)) ?_
  conv => whnf
  refine Len.map ?_
  conv => whnf
  refine Ask.o h fun p4 h => ?_
  conv => whnf
  refine SetKids.one (fun _ => ⟨rfl, rfl⟩) (true) (by first | rfl | simp only [Aa, V.fz, fzL, V.up, upL, Ab, Ac, Ad, slr, List.cons_append, List.nil_append] | simp [Aa, V.fz, fzL, V.up, upL, Ab, Ac, Ad, slr]) (by first | omega | (simp [As] at *; omega)) ?_
  conv => whnf
  refine Ask.o h fun p5 h => ?_
  conv => whnf
  cases h; exact ⟨rfl, rfl⟩
 conv => whnf
 cases h; exact ⟨rfl, rfl⟩
noncomputable def Mg (n0 : Int) (some0 : (List Int)) : Option (List Bool) :=
 ask ((0 : Int) ≤ n0 ∧ n0 ≤ (↑LIM : Int)) <|
 (Am (Od some0) ((0 : Int), List.replicate n0.toNat false)).bind fun q6_5 =>
 some q6_5
theorem Alx {n0 : Int} {some0 : (List Int)} {v : (List Bool)} (h : Mg n0 some0 = some v) : Ret Try.prog Ue [Af n0, (slr false 1 Af) some0] ((slr true 1 V.bool) v) := by
 refine A1 Anc (Nat.le_of_ble_eq_true rfl) ?_
 unfold Mg at h
 conv => whnf
 refine Ask.o h fun p1 h => ?_
 conv => whnf
 refine MkQ.o V.bool (false) rfl ?_
 conv => whnf
 refine LoopQ.o [6, 5, 1] (Ou some0) (V6 some0) h (fun s o h => Aez s o h) (by first | rfl | simp [restrict, look, Aa, V.fz, fzL, V.up, upL, Ab, Ac, Ad, slr]) (fun _ => rfl) ?_
 rintro q6_5 h
 try dsimp only at h
 conv => whnf
 cases h; exact (by first | rfl | simp only [Ah, Aa, V.fz, fzL, V.up, upL, Ab, Ac, Ad, slr] | simp [Ah, Aa, V.fz, fzL, V.up, upL, Ab, Ac, Ad, slr])
noncomputable def K4 (in0 : List Bool) : (Int × (List Int)) → Option ((Int × (List Int)) ⊕ (List Int)) := fun (x4, x3) =>
 if x4 < (↑in0.length : Int) then
 ask ((0 : Int) ≤ x4 ∧ x4 < (↑in0.length : Int)) <|
 if (nth in0 x4.toNat) = true then
 ask ((x3).length + ([x4]).length ≤ LIM) <|
 ask (InI (x4 + (1 : Int))) <|
 some (.inl (x4 + (1 : Int), x3 ++ [x4]))
 else
 ask (InI (x4 + (1 : Int))) <|
 some (.inl (x4 + (1 : Int), x3))
 else
 some (.inr x3)
def K3 (in0 : List Bool) : (Int × (List Int)) → St := fun s => [(4, A.val (Af s.1)), (3, A.val ((slr true 1 Af) s.2)), (0, A.val ((slr false 1 V.bool) (in0)))]
def Rr (_in0 : List Bool) : (List Int) → Tgt
 | s => ((Ex.exit 0), [3], [(3, A.val ((slr true 1 Af) s))])
theorem Aau {in0 : List Bool} (s : (Int × (List Int))) (o : (Int × (List Int)) ⊕ (List Int)) (h : K4 in0 s = some o) : vc Try.prog Rv (C0 [4, 3, 0] (K3 in0) (Rr in0) o) (K3 in0 s) := by
 obtain ⟨x4, x3⟩ := s
 unfold K4 at h
 try dsimp only at h
 conv => whnf
 refine Len.map ?_
 conv => whnf
 refine Br.od h (fun p1 h => ?_) (fun p1 h => ?_)
 ·conv => whnf
  refine Len.map ?_
  conv => whnf
  refine Ask.o h fun p2 h => ?_
  conv => whnf
  refine Elem.o (by first | omega | (simp [As] at *; omega)) ?_
  conv => whnf
  refine Br.ob h (fun p3 h => ?_) (fun p3 h => ?_)
  ·conv => whnf
   refine BslQ.o Af [x4] (by exact fun _ => ⟨rfl, rfl⟩) (by first | rfl | simp only [Aa, V.fz, fzL, V.up, upL, Ab, Ac, Ad, slr, List.cons_append, List.nil_append] | simp [Aa, V.fz, fzL, V.up, upL, Ab, Ac, Ad, slr]) ?_
   conv => whnf
   refine NoOwn.o (fun _ => rfl) ?_
   conv => whnf
   refine AppQ.o (m := 1) Af (by exact fun _ => ⟨rfl, rfl⟩) (x3) ([x4]) (by first | rfl | simp only [Aa, V.fz, fzL, V.up, upL, Ab, Ac, Ad, slr, List.cons_append, List.nil_append] | simp [Aa, V.fz, fzL, V.up, upL, Ab, Ac, Ad, slr]) (by first | rfl | simp only [Aa, V.fz, fzL, V.up, upL, Ab, Ac, Ad, slr, List.cons_append, List.nil_append] | simp [Aa, V.fz, fzL, V.up, upL, Ab, Ac, Ad, slr]) h fun h => ?_
   conv => whnf
   refine Ask.o h fun p4 h => ?_
   conv => whnf
   cases h; exact ⟨rfl, rfl⟩
  conv => whnf
  refine Ask.o h fun p5 h => ?_
  conv => whnf
  cases h; exact ⟨rfl, rfl⟩
 conv => whnf
 cases h; exact ⟨rfl, rfl⟩
noncomputable def Im (in0 : (List Bool)) : Option (List Int) :=
 (Am (K4 in0) ((0 : Int), A5 Int)).bind fun q6_3 =>
 some q6_3
theorem Ag8 {in0 : (List Bool)} {v : (List Int)} (h : Im in0 = some v) : Ret Try.prog Qb [(slr false 1 V.bool) in0] ((slr true 1 Af) v) := by
 refine A1 Ahe (Nat.le_of_ble_eq_true rfl) ?_
 unfold Im at h
 conv => whnf
 refine BslQ.o Af (A5 Int) (by exact fun _ => ⟨rfl, rfl⟩) (by first | rfl | simp only [Aa, V.fz, fzL, V.up, upL, Ab, Ac, Ad, slr, List.cons_append, List.nil_append] | simp [Aa, V.fz, fzL, V.up, upL, Ab, Ac, Ad, slr]) ?_
 conv => whnf
 refine LoopQ.o [4, 3, 0] (K3 in0) (Rr in0) h (fun s o h => Aau s o h) (by first | rfl | simp [restrict, look, Aa, V.fz, fzL, V.up, upL, Ab, Ac, Ad, slr]) (fun _ => rfl) ?_
 rintro q6_3 h
 try dsimp only at h
 conv => whnf
 cases h; exact (by first | rfl | simp only [Ah, Aa, V.fz, fzL, V.up, upL, Ab, Ac, Ad, slr] | simp [Ah, Aa, V.fz, fzL, V.up, upL, Ab, Ac, Ad, slr])
noncomputable def D4 (l0 : List Int) (n0 : Int) : Int → Option (Int ⊕ (Unit ⊕ Unit)) := fun x5 =>
 if x5 < (↑l0.length : Int) then
 ask ((0 : Int) ≤ x5 ∧ x5 < (↑l0.length : Int)) <|
 if nth l0 x5.toNat = n0 then
 some (.inr (.inl ()))
 else
 ask (InI (x5 + (1 : Int))) <|
 some (.inl (x5 + (1 : Int)))
 else
 some (.inr (.inr ()))
def M1 (l0 : List Int) (n0 : Int) : Int → St := fun s => [(5, A.val (Af s)), (0, A.val ((slr false 1 Af) (l0))), (1, A.val (Af (n0)))]
def Tj (_l0 : List Int) (_n0 : Int) : (Unit ⊕ Unit) → Tgt
 | (.inl _s) => (Ex.ret, [4], [(4, A.val (V.bool (true)))])
 | (.inr _s) => ((Ex.exit 0), [], [])
theorem Acz {l0 : List Int} {n0 : Int} (x5 : Int) (o : Int ⊕ (Unit ⊕ Unit)) (h : D4 l0 n0 x5 = some o) : vc Try.prog Ty (C0 [5, 0, 1] (M1 l0 n0) (Tj l0 n0) o) (M1 l0 n0 x5) := by
 unfold D4 at h
 try dsimp only at h
 conv => whnf
 refine Len.map ?_
 conv => whnf
 refine Br.od h (fun p1 h => ?_) (fun p1 h => ?_)
 ·conv => whnf
  refine Len.map ?_
  conv => whnf
  refine Ask.o h fun p2 h => ?_
  conv => whnf
  refine Elem.o (by first | omega | (simp [As] at *; omega)) ?_
  conv => whnf
  refine Br.oe h (fun p3 h => ?_) (fun p3 h => ?_)
  ·conv => whnf
   cases h; exact ⟨rfl, rfl⟩
  conv => whnf
  refine Ask.o h fun p4 h => ?_
  conv => whnf
  cases h; exact ⟨rfl, rfl⟩
 conv => whnf
 cases h; exact ⟨rfl, rfl⟩
noncomputable def Kt (l0 : (List Int)) (n0 : Int) : Option Bool :=
 (Am (D4 l0 n0) (0 : Int)).bind fun t => match t with
 | (.inl _) => (some true)
 | (.inr _) => (some false)
theorem Aiv {l0 : (List Int)} {n0 : Int} {v : Bool} (h : Kt l0 n0 = some v) : Ret Try.prog S8 [(slr false 1 Af) l0, Af n0] (V.bool v) := by
 refine A1 Aj9 (Nat.le_of_ble_eq_true rfl) ?_
 unfold Kt at h
 conv => whnf
 refine LoopQ.o [5, 0, 1] (M1 l0 n0) (Tj l0 n0) h (fun s o h => Acz s o h) (by first | rfl | simp [restrict, look, Aa, V.fz, fzL, V.up, upL, Ab, Ac, Ad, slr]) (by rintro (_ | _) <;> rfl) ?_
 rintro (⟨⟩ | ⟨⟩) h
 ·try dsimp only at h
  conv => whnf
  cases h; exact (by first | rfl | simp only [Ah, Aa, V.fz, fzL, V.up, upL, Ab, Ac, Ad, slr] | simp [Ah, Aa, V.fz, fzL, V.up, upL, Ab, Ac, Ad, slr])
 try dsimp only at h
 conv => whnf
 cases h; exact (by first | rfl | simp only [Ah, Aa, V.fz, fzL, V.up, upL, Ab, Ac, Ad, slr] | simp [Ah, Aa, V.fz, fzL, V.up, upL, Ab, Ac, Ad, slr])
noncomputable def Ht (list0 : (List Int)) : Option (List Int) :=
 ask ((A5 Int).length + (list0).length ≤ LIM) <|
 some (A5 Int ++ list0)
theorem Zb {list0 : (List Int)} {v : (List Int)} (h : Ht list0 = some v) : Ret Try.prog Ns [(slr false 1 Af) list0] ((slr true 1 Af) v) := by
 refine A1 Ajm (Nat.le_of_ble_eq_true rfl) ?_
 unfold Ht at h
 conv => whnf
 refine BslQ.o Af (A5 Int) (by exact fun _ => ⟨rfl, rfl⟩) (by first | rfl | simp only [Aa, V.fz, fzL, V.up, upL, Ab, Ac, Ad, slr, List.cons_append, List.nil_append] | simp [Aa, V.fz, fzL, V.up, upL, Ab, Ac, Ad, slr]) ?_
 conv => whnf
 refine AppQ.o (m := 1) Af (by exact fun _ => ⟨rfl, rfl⟩) (A5 Int) (list0) (by first | rfl | simp only [Aa, V.fz, fzL, V.up, upL, Ab, Ac, Ad, slr, List.cons_append, List.nil_append] | simp [Aa, V.fz, fzL, V.up, upL, Ab, Ac, Ad, slr]) (by first | rfl | simp only [Aa, V.fz, fzL, V.up, upL, Ab, Ac, Ad, slr, List.cons_append, List.nil_append] | simp [Aa, V.fz, fzL, V.up, upL, Ab, Ac, Ad, slr]) h fun h => ?_
 conv => whnf
 cases h; exact (by first | rfl | simp only [Ah, Aa, V.fz, fzL, V.up, upL, Ab, Ac, Ad, slr] | simp [Ah, Aa, V.fz, fzL, V.up, upL, Ab, Ac, Ad, slr])
noncomputable def Kg (l0 : (List Int)) : Option (List Int) :=
 ask ((A5 Int).length + (l0).length ≤ LIM) <|
 some (A5 Int ++ l0)
theorem Aiz {l0 : (List Int)} {v : (List Int)} (h : Kg l0 = some v) : Ret Try.prog Sn [(slr false 1 Af) l0] ((slr true 1 Af) v) := by
 refine A1 Aku (Nat.le_of_ble_eq_true rfl) ?_
 unfold Kg at h
 conv => whnf
 refine BslQ.o Af (A5 Int) (by exact fun _ => ⟨rfl, rfl⟩) (by first | rfl | simp only [Aa, V.fz, fzL, V.up, upL, Ab, Ac, Ad, slr, List.cons_append, List.nil_append] | simp [Aa, V.fz, fzL, V.up, upL, Ab, Ac, Ad, slr]) ?_
 conv => whnf
 refine AppQ.o (m := 1) Af (by exact fun _ => ⟨rfl, rfl⟩) (A5 Int) (l0) (by first | rfl | simp only [Aa, V.fz, fzL, V.up, upL, Ab, Ac, Ad, slr, List.cons_append, List.nil_append] | simp [Aa, V.fz, fzL, V.up, upL, Ab, Ac, Ad, slr]) (by first | rfl | simp only [Aa, V.fz, fzL, V.up, upL, Ab, Ac, Ad, slr, List.cons_append, List.nil_append] | simp [Aa, V.fz, fzL, V.up, upL, Ab, Ac, Ad, slr]) h fun h => ?_
 conv => whnf
 cases h; exact (by first | rfl | simp only [Ah, Aa, V.fz, fzL, V.up, upL, Ab, Ac, Ad, slr] | simp [Ah, Aa, V.fz, fzL, V.up, upL, Ab, Ac, Ad, slr])
noncomputable def El (mask0 : Int) : (Int × (List Int)) → Option ((Int × (List Int)) ⊕ (List Int)) := fun (x4, x3) =>
 ask ((0 : Int) ≤ x4) <|
 if Afj mask0 x4 > (0 : Int) then
 ask ((0 : Int) ≤ x4) <|
 if Ajb (Afj mask0 x4) (1 : Int) = (1 : Int) then
 ask ((x3).length + ([x4]).length ≤ LIM) <|
 ask (InI (x4 + (1 : Int))) <|
 some (.inl (x4 + (1 : Int), x3 ++ [x4]))
 else
 ask (InI (x4 + (1 : Int))) <|
 some (.inl (x4 + (1 : Int), x3))
 else
 some (.inr x3)
def Lf (mask0 : Int) : (Int × (List Int)) → St := fun s => [(4, A.val (Af s.1)), (3, A.val ((slr true 1 Af) s.2)), (0, A.val (Af (mask0)))]
def Qk (_mask0 : Int) : (List Int) → Tgt
 | s => ((Ex.exit 0), [3], [(3, A.val ((slr true 1 Af) s))])
theorem Aaf {mask0 : Int} (s : (Int × (List Int))) (o : (Int × (List Int)) ⊕ (List Int)) (h : El mask0 s = some o) : vc Try.prog Q9 (C0 [4, 3, 0] (Lf mask0) (Qk mask0) o) (Lf mask0 s) := by
 obtain ⟨x4, x3⟩ := s
 unfold El at h
 try dsimp only at h
 conv => whnf
 refine Ask.o h fun p1 h => ?_
 conv => whnf
 refine Br.od h (fun p2 h => ?_) (fun p2 h => ?_)
 ·conv => whnf
  refine Ask.o h fun p3 h => ?_
  conv => whnf
  refine Br.oe h (fun p4 h => ?_) (fun p4 h => ?_)
  ·conv => whnf
   refine BslQ.o Af [x4] (by exact fun _ => ⟨rfl, rfl⟩) (by first | rfl | simp only [Aa, V.fz, fzL, V.up, upL, Ab, Ac, Ad, slr, List.cons_append, List.nil_append] | simp [Aa, V.fz, fzL, V.up, upL, Ab, Ac, Ad, slr]) ?_
   conv => whnf
   refine NoOwn.o (fun _ => rfl) ?_
   conv => whnf
   refine AppQ.o (m := 1) Af (by exact fun _ => ⟨rfl, rfl⟩) (x3) ([x4]) (by first | rfl | simp only [Aa, V.fz, fzL, V.up, upL, Ab, Ac, Ad, slr, List.cons_append, List.nil_append] | simp [Aa, V.fz, fzL, V.up, upL, Ab, Ac, Ad, slr]) (by first | rfl | simp only [Aa, V.fz, fzL, V.up, upL, Ab, Ac, Ad, slr, List.cons_append, List.nil_append] | simp [Aa, V.fz, fzL, V.up, upL, Ab, Ac, Ad, slr]) h fun h => ?_
   conv => whnf
   refine Ask.o h fun p5 h => ?_
   conv => whnf
   cases h; exact ⟨rfl, rfl⟩
  conv => whnf
  refine Ask.o h fun p6 h => ?_
  conv => whnf
  cases h; exact ⟨rfl, rfl⟩
 conv => whnf
 cases h; exact ⟨rfl, rfl⟩
noncomputable def Fu (mask0 : Int) : Option (List Int) :=
 (Am (El mask0) ((0 : Int), A5 Int)).bind fun q7_3 =>
 some q7_3
theorem Qa {mask0 : Int} {v : (List Int)} (h : Fu mask0 = some v) : Ret Try.prog Iv [Af mask0] ((slr true 1 Af) v) := by
 refine A1 Af1 (Nat.le_of_ble_eq_true rfl) ?_
 unfold Fu at h
 conv => whnf
 refine BslQ.o Af (A5 Int) (by exact fun _ => ⟨rfl, rfl⟩) (by first | rfl | simp only [Aa, V.fz, fzL, V.up, upL, Ab, Ac, Ad, slr, List.cons_append, List.nil_append] | simp [Aa, V.fz, fzL, V.up, upL, Ab, Ac, Ad, slr]) ?_
 conv => whnf
 refine LoopQ.o [4, 3, 0] (Lf mask0) (Qk mask0) h (fun s o h => Aaf s o h) (by first | rfl | simp [restrict, look, Aa, V.fz, fzL, V.up, upL, Ab, Ac, Ad, slr]) (fun _ => rfl) ?_
 rintro q7_3 h
 try dsimp only at h
 conv => whnf
 cases h; exact (by first | rfl | simp only [Ah, Aa, V.fz, fzL, V.up, upL, Ab, Ac, Ad, slr] | simp [Ah, Aa, V.fz, fzL, V.up, upL, Ab, Ac, Ad, slr])
noncomputable def En (bits0 : Int) : (Int × (List Int)) → Option ((Int × (List Int)) ⊕ (List Int)) := fun (x4, x3) =>
 ask ((0 : Int) ≤ x4) <|
 if Afj bits0 x4 > (0 : Int) then
 ask ((0 : Int) ≤ x4) <|
 if Ajb (Afj bits0 x4) (1 : Int) = (1 : Int) then
 ask ((x3).length + ([x4]).length ≤ LIM) <|
 ask (InI (x4 + (1 : Int))) <|
 some (.inl (x4 + (1 : Int), x3 ++ [x4]))
 else
 ask (InI (x4 + (1 : Int))) <|
 some (.inl (x4 + (1 : Int), x3))
 else
 some (.inr x3)
def Lo (bits0 : Int) : (Int × (List Int)) → St := fun s => [(4, A.val (Af s.1)), (3, A.val ((slr true 1 Af) s.2)), (0, A.val (Af (bits0)))]
def Rc (_bits0 : Int) : (List Int) → Tgt
 | s => ((Ex.exit 0), [3], [(3, A.val ((slr true 1 Af) s))])
theorem Aal {bits0 : Int} (s : (Int × (List Int))) (o : (Int × (List Int)) ⊕ (List Int)) (h : En bits0 s = some o) : vc Try.prog Qp (C0 [4, 3, 0] (Lo bits0) (Rc bits0) o) (Lo bits0 s) := by
 obtain ⟨x4, x3⟩ := s
 unfold En at h
 try dsimp only at h
 conv => whnf
 refine Ask.o h fun p1 h => ?_
 conv => whnf
 refine Br.od h (fun p2 h => ?_) (fun p2 h => ?_)
 ·conv => whnf
  refine Ask.o h fun p3 h => ?_
  conv => whnf
  refine Br.oe h (fun p4 h => ?_) (fun p4 h => ?_)
  ·conv => whnf
   refine BslQ.o Af [x4] (by exact fun _ => ⟨rfl, rfl⟩) (by first | rfl | simp only [Aa, V.fz, fzL, V.up, upL, Ab, Ac, Ad, slr, List.cons_append, List.nil_append] | simp [Aa, V.fz, fzL, V.up, upL, Ab, Ac, Ad, slr]) ?_
   conv => whnf
   refine NoOwn.o (fun _ => rfl) ?_
   conv => whnf
   refine AppQ.o (m := 1) Af (by exact fun _ => ⟨rfl, rfl⟩) (x3) ([x4]) (by first | rfl | simp only [Aa, V.fz, fzL, V.up, upL, Ab, Ac, Ad, slr, List.cons_append, List.nil_append] | simp [Aa, V.fz, fzL, V.up, upL, Ab, Ac, Ad, slr]) (by first | rfl | simp only [Aa, V.fz, fzL, V.up, upL, Ab, Ac, Ad, slr, List.cons_append, List.nil_append] | simp [Aa, V.fz, fzL, V.up, upL, Ab, Ac, Ad, slr]) h fun h => ?_
   conv => whnf
   refine Ask.o h fun p5 h => ?_
   conv => whnf
   cases h; exact ⟨rfl, rfl⟩
  conv => whnf
  refine Ask.o h fun p6 h => ?_
  conv => whnf
  cases h; exact ⟨rfl, rfl⟩
 conv => whnf
 cases h; exact ⟨rfl, rfl⟩
noncomputable def Fo (bits0 : Int) : Option (List Int) :=
 (Am (En bits0) ((0 : Int), A5 Int)).bind fun q7_3 =>
 some q7_3
theorem P6 {bits0 : Int} {v : (List Int)} (h : Fo bits0 = some v) : Ret Try.prog Io [Af bits0] ((slr true 1 Af) v) := by
 refine A1 Agn (Nat.le_of_ble_eq_true rfl) ?_
 unfold Fo at h
 conv => whnf
 refine BslQ.o Af (A5 Int) (by exact fun _ => ⟨rfl, rfl⟩) (by first | rfl | simp only [Aa, V.fz, fzL, V.up, upL, Ab, Ac, Ad, slr, List.cons_append, List.nil_append] | simp [Aa, V.fz, fzL, V.up, upL, Ab, Ac, Ad, slr]) ?_
 conv => whnf
 refine LoopQ.o [4, 3, 0] (Lo bits0) (Rc bits0) h (fun s o h => Aal s o h) (by first | rfl | simp [restrict, look, Aa, V.fz, fzL, V.up, upL, Ab, Ac, Ad, slr]) (fun _ => rfl) ?_
 rintro q7_3 h
 try dsimp only at h
 conv => whnf
 cases h; exact (by first | rfl | simp only [Ah, Aa, V.fz, fzL, V.up, upL, Ab, Ac, Ad, slr] | simp [Ah, Aa, V.fz, fzL, V.up, upL, Ab, Ac, Ad, slr])
end Go.Proofs.Ytidaaijecmkndaa.Ax
