/-
 What the functions compute, as functions on plain data, and that the program does compute it; written by program.
-/
import Derived.Test.YtjcekpmojnnmbaaCode
import Derived.Test.YtjcekpmojnnmbaaG1
import Derived.Test.YtjcekpmojnnmbaaG2
import Derived.Test.YtjcekpmojnnmbaaG3
namespace Go.Proofs.Ytjcekpmojnnmbaa.Ax
open Go
set_option maxRecDepth 100000
set_option maxHeartbeats 4000000
noncomputable def E0 (arity0 : Int) (clause0 : List Int) : (Int × Int) → Option ((Int × Int) ⊕ (Unit ⊕ Unit)) := fun (x6, x5) =>
 if x6 < (↑clause0.length : Int) then
 ((ask ((0 : Int) ≤ x6 ∧ x6 < (↑clause0.length : Int)) <|
 (Fh (nth clause0 x6.toNat) (IntKind.i64.wrap ((0 : Int) - arity0)) (arity0)).bind fun r3 =>
 if (r3) = true then
 ask ((0 : Int) ≤ x6 ∧ x6 < (↑clause0.length : Int)) <|
 if nth clause0 x6.toNat = (0 : Int) then
 some (.inl ())
 else
 ask ((0 : Int) ≤ x6 ∧ x6 < (↑clause0.length : Int)) <|
 ask ((0 : Int) ≤ x6 ∧ x6 < (↑clause0.length : Int)) <|
 (Fj (nth clause0 x6.toNat) (IntKind.i64.wrap ((0 : Int) - nth clause0 x6.toNat))).bind fun r9 =>
 if r9 ≤ x5 then
 some (.inl ())
 else
 some (.inr ())
 else
 some (.inl ()) : Option (Unit ⊕ Unit))).bind fun t => match t with
 | (.inl _) => (some (.inr (.inl ())))
 | (.inr _) => (ask ((0 : Int) ≤ x6 ∧ x6 < (↑clause0.length : Int)) <|
 ask ((0 : Int) ≤ x6 ∧ x6 < (↑clause0.length : Int)) <|
 (Fj (nth clause0 x6.toNat) (IntKind.i64.wrap ((0 : Int) - nth clause0 x6.toNat))).bind fun r14 =>
 ask (InI (x6 + (1 : Int))) <|
 some (.inl (x6 + (1 : Int), r14)))
 else
 some (.inr (.inr ()))
def Jz (arity0 : Int) (clause0 : List Int) : (Int × Int) → St := fun s => [(6, A.val (Ae s.1)), (5, A.val (Ae s.2)), (0, A.val (Ae (arity0))), (1, A.val ((slr false 1 Ae) (clause0)))]
def Pu (_arity0 : Int) (_clause0 : List Int) : (Unit ⊕ Unit) → Tgt
 | (.inl _s) => (Ex.ret, [4], [(4, A.val (V.bool (false)))])
 | (.inr _s) => ((Ex.exit 0), [], [])
theorem Zl {arity0 : Int} {clause0 : List Int} (s : (Int × Int)) (o : (Int × Int) ⊕ (Unit ⊕ Unit)) (h : E0 arity0 clause0 s = some o) : vc Try.prog Pv (C6 [6, 5, 0, 1] (Jz arity0 clause0) (Pu arity0 clause0) o) (Jz arity0 clause0 s) := by
 obtain ⟨x6, x5⟩ := s
 unfold E0 at h
 try dsimp only at h
 refine Len.map <| Br.od h (fun p1 h => ?_) (fun p1 h => ?_)
 ·refine CutQ.o (fun t : (Unit ⊕ Unit) => match t with | (.inl s) => (Ex.ret, [4], [(4, A.val (V.bool (false)))]) | (.inr s) => (Ex.normal, [6, 0, 1], [(6, A.val (Ae (x6))), (0, A.val (Ae (arity0))), (1, A.val ((slr false 1 Ae) (clause0)))])) h ?_ ?_
  ·intro t h
   refine Len.map <| Ask.o h fun p2 h => Elem.o (by first | omega | (simp [A4] at * <;> omega)) <| CallP.o V.bool (by rfl) h (fun r h => K1 h) (fun r3 h => ?_)
   refine Br.flip <| Br.ob h (fun p4 h => ?_) (fun p4 h => ?_)
   ·refine Br.no <| Br.no <| Len.map <| Ask.o h fun p5 h => Elem.o (by first | omega | (simp [A4] at * <;> omega)) <| Br.no <| Br.no <| Br.no <| Br.oe h (fun p6 h => ?_) (fun p6 h => ?_)
    ·refine Br.yes <| Br.yes <| Br.yes <| Br.yes <| Br.yes <| Br.yes <| Br.yes <| Br.yes <| Br.yes <| Br.yes <| Br.yes <| Br.yes <| Br.yes ?_
     cases h; exact ⟨rfl, rfl⟩
    refine Br.no <| Br.no <| Len.map <| Ask.o h fun p7 h => Elem.o (by first | omega | (simp [A4] at * <;> omega)) <| Br.no <| Br.no <| Br.no <| Br.no <| Len.map <| Ask.o h fun p8 h => Elem.o (by first | omega | (simp [A4] at * <;> omega)) <| Br.no <| Br.no <| Br.no <| CallP.o Ae (by rfl) h (fun r h => Nz h) (fun r9 h => ?_)
    refine Br.no <| Br.no <| Br.no <| Br.od h (fun p10 h => ?_) (fun p10 h => ?_)
    ·cases h; exact ⟨rfl, rfl⟩
    cases h; exact ⟨rfl, rfl⟩
   refine Br.yes <| Br.yes <| Br.yes <| Br.yes <| Br.yes <| Br.yes <| Br.yes <| Br.yes <| Br.yes <| Br.yes <| Br.yes <| Br.yes <| Br.yes <| Br.yes <| Br.yes <| Br.yes <| Br.yes <| Br.yes <| Br.yes ?_
   cases h; exact ⟨rfl, rfl⟩
  rintro (⟨⟩ | ⟨⟩) h
  ·try dsimp only at h
   cases h; exact ⟨rfl, rfl⟩
  try dsimp only at h
  refine Len.map <| Ask.o h fun p12 h => Elem.o (by first | omega | (simp [A4] at * <;> omega)) <| Len.map <| Ask.o h fun p13 h => Elem.o (by first | omega | (simp [A4] at * <;> omega)) <| CallQ.o Ae (by rfl) h (fun r h => Nz h) (fun r14 h => ?_)
  refine Ask.o h fun p15 h => ?_
  cases h; exact ⟨rfl, rfl⟩
 cases h; exact ⟨rfl, rfl⟩
noncomputable def G2 (arity0 : Int) (clause0 : (List Int)) : Option Bool :=
 (Al (E0 arity0 clause0) ((0 : Int), (0 : Int))).bind fun t => match t with
 | (.inl _) => (some false)
 | (.inr _) => (some true)
theorem Ae6 {arity0 : Int} {clause0 : (List Int)} {v : Bool} (h : G2 arity0 clause0 = some v) : Ret Try.prog Nn [Ae arity0, (slr false 1 Ae) clause0] (V.bool v) := by
 refine A7 Aee (Nat.le_of_ble_eq_true rfl) ?_
 unfold G2 at h
 refine LoopQ.o [6, 5, 0, 1] (Jz arity0 clause0) (Pu arity0 clause0) h (fun s o h => Zl s o h) (by rfl) (by rintro (_ | _) <;> rfl) ?_
 rintro (⟨⟩ | ⟨⟩) h
 ·try dsimp only at h
  cases h; exact (by rfl)
 try dsimp only at h
 cases h; exact (by rfl)
noncomputable def Ny (n0 : Int) : Option Bool :=
 (Fh (n0) ((1 : Int)) ((8 : Int))).bind fun r1 =>
 some r1
theorem Akm {n0 : Int} {v : Bool} (h : Ny n0 = some v) : Ret Try.prog Tw [Ae n0] (V.bool v) := by
 refine A7 Alw (Nat.le_of_ble_eq_true rfl) ?_
 unfold Ny at h
 refine CallQ.o V.bool (by rfl) h (fun r h => K1 h) (fun r1 h => ?_)
 cases h; exact (by rfl)
noncomputable def Bw (n0 : Int) (arity0 : Int) : (Int × SRelation) → Option ((Int × SRelation) ⊕ SRelation) := fun (x6, x5) =>
 (Gd (n0) (arity0)).bind fun r1 =>
 if x6 < r1 then
 (Fi (n0) (arity0) (x6)).bind fun r3 =>
 ask ((x5.Tuples).length + ([r3]).length ≤ LIM) <|
 ask (InI (x6 + (1 : Int))) <|
 some (.inl (x6 + (1 : Int), { Arity := x5.Arity, Tuples := x5.Tuples ++ [r3] }))
 else
 some (.inr x5)
def K7 (n0 : Int) (arity0 : Int) : (Int × SRelation) → St := fun s => [(6, A.val (Ae s.1)), (5, A.val ((rP true (Aj)) s.2)), (4, A.val ((rP true (Aj)) ({ Arity := (0 : Int), Tuples := Ap (List Int) }))), (0, A.val (Ae (n0))), (1, A.val (Ae (arity0)))]
def Rq (_n0 : Int) (_arity0 : Int) : SRelation → Tgt
 | s => ((Ex.exit 0), [5, 4], [(5, A.val ((rP true (Aj)) s)), (4, A.val ((rP true (Aj)) ({ Arity := (0 : Int), Tuples := Ap (List Int) })))])
theorem Ads {n0 : Int} {arity0 : Int} (s : (Int × SRelation)) (o : (Int × SRelation) ⊕ SRelation) (h : Bw n0 arity0 s = some o) : vc Try.prog R5 (C6 [6, 5, 4, 0, 1] (K7 n0 arity0) (Rq n0 arity0) o) (K7 n0 arity0 s) := by
 obtain ⟨x6, x5⟩ := s
 unfold Bw at h
 try dsimp only at h
 refine CallQ.o Ae (by rfl) h (fun r h => P6 h) (fun r1 h => ?_)
 refine Br.od h (fun p2 h => ?_) (fun p2 h => ?_)
 ·refine Cells.lit rfl rfl <| CallP.o (slr false 1 Ae) (by rfl) h (fun r h => Ret.frz (Tu h) (by first | rfl | simp only [V.fz, Ab, slr] | simp [Aa, V.fz, fzL, V.up, upL, Ab, Ac, Ad, slr])) (fun r3 h => ?_)
  refine BslQ.o (slr false 1 Ae) [r3] (by exact fun _ => ⟨rfl, rfl⟩) (by first | rfl | (simp only [Aa, V.fz, fzL, V.up, upL, Ab, Ac, Ad, slr, List.cons_append, List.nil_append]; done) | simp [Aa, V.fz, fzL, V.up, upL, Ab, Ac, Ad, slr]) <| NoOwn.o (fun _ => rfl) <| Kid.lit rfl rfl <| Kid.lit rfl rfl <| SetKids.lit rfl <| AppQ.o (m := 1) (slr false 1 Ae) (by exact fun _ => ⟨rfl, rfl⟩) (x5.Tuples) ([r3]) (by rfl) (by rfl) h fun h => SetKids.lit rfl <| Ask.o h fun p4 h => ?_
  cases h; exact ⟨rfl, rfl⟩
 cases h; exact ⟨rfl, rfl⟩
noncomputable def Dg (n0 : Int) (arity0 : Int) : Option SRelation :=
 (Al (Bw n0 arity0) ((0 : Int), { Arity := arity0, Tuples := Ap (List Int) })).bind fun q5_5 =>
 some q5_5
theorem Xe {n0 : Int} {arity0 : Int} {v : SRelation} (h : Dg n0 arity0 = some v) : Ret Try.prog Lb [Ae n0, Ae arity0] ((Aj) v) := by
 refine A7 Ah5 (Nat.le_of_ble_eq_true rfl) ?_
 unfold Dg at h
 refine BslQ.o (slr true 1 Ae) (Ap (List Int)) (by exact fun _ => ⟨rfl, rfl⟩) (by first | rfl | (simp only [Aa, V.fz, fzL, V.up, upL, Ab, Ac, Ad, slr, List.cons_append, List.nil_append]; done) | simp [Aa, V.fz, fzL, V.up, upL, Ab, Ac, Ad, slr]) <| SetKids.lit rfl <| LoopQ.o [6, 5, 4, 0, 1] (K7 n0 arity0) (Rq n0 arity0) h (fun s o h => Ads s o h) (by rfl) (fun _ => rfl) ?_
 rintro q5_5 h
 try dsimp only at h
 refine Cells.lit rfl rfl <| SetKids.lit rfl ?_
 cases h; exact (by rfl)
noncomputable def Du (tuples0 : List (List Int)) (clause0 : List Int) : Int → Option (Int ⊕ (Unit ⊕ Unit)) := fun x9 =>
 if x9 < (↑tuples0.length : Int) then
 ask ((0 : Int) ≤ x9 ∧ x9 < (↑tuples0.length : Int)) <|
 (D9 (nth tuples0 x9.toNat) (clause0)).bind fun r3 =>
 if (r3) = true then
 ask (InI (x9 + (1 : Int))) <|
 some (.inl (x9 + (1 : Int)))
 else
 some (.inr (.inl ()))
 else
 some (.inr (.inr ()))
def Lg (tuples0 : List (List Int)) (clause0 : List Int) : Int → St := fun s => [(9, A.val (Ae s)), (8, A.val (Ae ((↑tuples0.length : Int)))), (7, A.val ((slr false 1 (slr false 1 Ae)) (tuples0))), (1, A.val ((slr false 1 Ae) (clause0)))]
def Ry (_tuples0 : List (List Int)) (_clause0 : List Int) : (Unit ⊕ Unit) → Tgt
 | (.inl _s) => (Ex.ret, [4], [(4, A.val (V.bool (false)))])
 | (.inr _s) => ((Ex.exit 0), [], [])
theorem Adi {tuples0 : List (List Int)} {clause0 : List Int} (x9 : Int) (o : Int ⊕ (Unit ⊕ Unit)) (h : Du tuples0 clause0 x9 = some o) : vc Try.prog Sd (C6 [9, 8, 7, 1] (Lg tuples0 clause0) (Ry tuples0 clause0) o) (Lg tuples0 clause0 x9) := by
 unfold Du at h
 try dsimp only at h
 refine Br.od h (fun p1 h => ?_) (fun p1 h => ?_)
 ·refine Len.map <| Ask.o h fun p2 h => Elem.o (by first | omega | (simp [A4] at * <;> omega)) <| CallQ.o V.bool (by rfl) h (fun r h => Qt h) (fun r3 h => ?_)
  refine Br.flip <| Br.ob h (fun p4 h => ?_) (fun p4 h => ?_)
  ·refine Ask.o h fun p5 h => ?_
   cases h; exact ⟨rfl, rfl⟩
  cases h; exact ⟨rfl, rfl⟩
 cases h; exact ⟨rfl, rfl⟩
noncomputable def G1 (tuples0 : (List (List Int))) (clause0 : (List Int)) : Option Bool :=
 (Al (Du tuples0 clause0) (0 : Int)).bind fun t => match t with
 | (.inl _) => (some false)
 | (.inr _) => (some true)
theorem X3 {tuples0 : (List (List Int))} {clause0 : (List Int)} {v : Bool} (h : G1 tuples0 clause0 = some v) : Ret Try.prog L0 [(slr false 1 (slr false 1 Ae)) tuples0, (slr false 1 Ae) clause0] (V.bool v) := by
 refine A7 Ajz (Nat.le_of_ble_eq_true rfl) ?_
 unfold G1 at h
 refine Len.map <| LoopQ.o [9, 8, 7, 1] (Lg tuples0 clause0) (Ry tuples0 clause0) h (fun s o h => Adi s o h) (by rfl) (by rintro (_ | _) <;> rfl) ?_
 rintro (⟨⟩ | ⟨⟩) h
 ·try dsimp only at h
  cases h; exact (by rfl)
 try dsimp only at h
 cases h; exact (by rfl)
noncomputable def Jl (list0 : (List Int)) (at0 : Int) : Option (List Int) :=
 ask (0 ≤ (0 : Int) ∧ (0 : Int) ≤ at0 ∧ at0 ≤ ((list0.length : Nat) : Int)) <|
 (Lu (List.take (at0.toNat - Int.toNat (0 : Int)) (List.drop (Int.toNat (0 : Int)) list0))).bind fun r1 =>
 ask (InI (at0 + (1 : Int))) <|
 ask (0 ≤ at0 + (1 : Int) ∧ at0 + (1 : Int) ≤ (↑list0.length : Int) ∧ (↑list0.length : Int) ≤ ((list0.length : Nat) : Int)) <|
 ask ((r1).length + (List.take ((↑list0.length : Int).toNat - (at0 + (1 : Int)).toNat) (List.drop (at0 + (1 : Int)).toNat list0)).length ≤ LIM) <|
 some (r1 ++ List.take ((↑list0.length : Int).toNat - (at0 + (1 : Int)).toNat) (List.drop (at0 + (1 : Int)).toNat list0))
theorem Ahp {list0 : (List Int)} {at0 : Int} {v : (List Int)} (h : Jl list0 at0 = some v) : Ret Try.prog Q3 [(slr false 1 Ae) list0, Ae at0] ((slr true 1 Ae) v) := by
 refine A7 Ah3 (Nat.le_of_ble_eq_true rfl) ?_
 unfold Jl at h
 refine SlcQ.o Ae h fun h => CallP.o (slr true 1 Ae) (by rfl) h (fun r h => Anc h) (fun r1 h => ?_)
 refine Ask.o h fun p2 h => Len.map <| SlcQ.o Ae h fun h => AppQ.o (m := 1) Ae (by exact fun _ => ⟨rfl, rfl⟩) (r1) (List.take ((↑list0.length : Int).toNat - (at0 + (1 : Int)).toNat) (List.drop (at0 + (1 : Int)).toNat list0)) (by rfl) (by rfl) h fun h => ?_
 cases h; exact (by rfl)
noncomputable def D8 (r0 : SRelation) (clause0 : List Int) : Int → Option (Int ⊕ (Unit ⊕ Unit)) := fun x5 =>
 if x5 < (↑r0.Tuples.length : Int) then
 ask ((0 : Int) ≤ x5 ∧ x5 < (↑r0.Tuples.length : Int)) <|
 (F3 (nth r0.Tuples x5.toNat) (clause0)).bind fun r3 =>
 if (r3) = true then
 ask (InI (x5 + (1 : Int))) <|
 some (.inl (x5 + (1 : Int)))
 else
 some (.inr (.inl ()))
 else
 some (.inr (.inr ()))
def Nb (r0 : SRelation) (clause0 : List Int) : Int → St := fun s => [(5, A.val (Ae s)), (2, A.val ((rP true (Ah false)) (r0))), (1, A.val ((slr false 1 Ae) (clause0)))]
def Ur (_r0 : SRelation) (_clause0 : List Int) : (Unit ⊕ Unit) → Tgt
 | (.inl _s) => (Ex.ret, [4], [(4, A.val (V.bool (false)))])
 | (.inr _s) => ((Ex.exit 0), [], [])
theorem Ae4 {r0 : SRelation} {clause0 : List Int} (x5 : Int) (o : Int ⊕ (Unit ⊕ Unit)) (h : D8 r0 clause0 x5 = some o) : vc Try.prog Uc (C6 [5, 2, 1] (Nb r0 clause0) (Ur r0 clause0) o) (Nb r0 clause0 x5) := by
 unfold D8 at h
 try dsimp only at h
 refine Cells.lit rfl rfl <| Len.map <| Br.od h (fun p1 h => ?_) (fun p1 h => ?_)
 ·refine Cells.lit rfl rfl <| Len.map <| Ask.o h fun p2 h => Elem.o (by first | omega | (simp [A4] at * <;> omega)) <| CallQ.o V.bool (by rfl) h (fun r h => Wd h) (fun r3 h => ?_)
  refine Br.flip <| Br.ob h (fun p4 h => ?_) (fun p4 h => ?_)
  ·refine Ask.o h fun p5 h => ?_
   cases h; exact ⟨rfl, rfl⟩
  cases h; exact ⟨rfl, rfl⟩
 cases h; exact ⟨rfl, rfl⟩
noncomputable def Gk (r0 : SRelation) (clause0 : (List Int)) : Option Bool :=
 (Al (D8 r0 clause0) (0 : Int)).bind fun t => match t with
 | (.inl _) => (some false)
 | (.inr _) => (some true)
theorem Zw {r0 : SRelation} {clause0 : (List Int)} {v : Bool} (h : Gk r0 clause0 = some v) : Ret Try.prog Nw [(Ah false) r0, (slr false 1 Ae) clause0] (V.bool v) := by
 refine A7 Alo (Nat.le_of_ble_eq_true rfl) ?_
 unfold Gk at h
 refine LoopQ.o [5, 2, 1] (Nb r0 clause0) (Ur r0 clause0) h (fun s o h => Ae4 s o h) (by rfl) (by rintro (_ | _) <;> rfl) ?_
 rintro (⟨⟩ | ⟨⟩) h
 ·try dsimp only at h
  cases h; exact (by rfl)
 try dsimp only at h
 cases h; exact (by rfl)
noncomputable def N5 (f0 : SOp) (n0 : Int) : Option Bool :=
 if f0.Arity ≥ (0 : Int) then
 if f0.Arity ≤ (3 : Int) then
 (Dh (n0) (f0.Arity)).bind fun r3 =>
 if (↑f0.Table.length : Int) = r3 then
 (Hw (f0.Table) (n0)).bind fun r5 =>
 some r5
 else
 some false
 else
 some false
 else
 some false
theorem Aq9 {f0 : SOp} {n0 : Int} {v : Bool} (h : N5 f0 n0 = some v) : Ret Try.prog Xm [(Ho false) f0, Ae n0] (V.bool v) := by
 refine A7 Ap7 (Nat.le_of_ble_eq_true rfl) ?_
 unfold N5 at h
 refine Cells.lit rfl rfl <| Br.od h (fun p1 h => ?_) (fun p1 h => ?_)
 ·refine Br.yes <| Cells.lit rfl rfl <| Br.yes <| Br.yes <| Br.od h (fun p2 h => ?_) (fun p2 h => ?_)
  ·refine Br.yes <| Cells.lit rfl rfl <| Br.yes <| Len.map <| Br.yes <| Br.yes <| Br.yes <| Cells.lit rfl rfl <| Br.yes <| CallP.o Ae (by rfl) h (fun r h => Lc h) (fun r3 h => ?_)
   refine Br.yes <| Br.yes <| Br.oe h (fun p4 h => ?_) (fun p4 h => ?_)
   ·refine Br.yes <| Cells.lit rfl rfl <| Br.yes <| Br.yes <| CallQ.o V.bool (by rfl) h (fun r h => Zo h) (fun r5 h => ?_)
    refine Br.yes ?_
    cases h; exact (by rfl)
   refine Br.no <| Br.no <| Br.no <| Br.no ?_
   cases h; exact (by rfl)
  refine Br.no <| Br.no <| Br.no <| Br.no <| Br.no <| Br.no <| Br.no <| Br.no <| Br.no <| Br.no <| Br.no <| Br.no <| Br.no ?_
  cases h; exact (by rfl)
 refine Br.no <| Br.no <| Br.no <| Br.no <| Br.no <| Br.no <| Br.no <| Br.no <| Br.no <| Br.no <| Br.no <| Br.no <| Br.no <| Br.no <| Br.no <| Br.no <| Br.no ?_
 cases h; exact (by rfl)
noncomputable def Fm (r0 : SRelation) : (Int × (List (ByteArray × Bool))) → Option ((Int × (List (ByteArray × Bool))) ⊕ (List (ByteArray × Bool))) := fun (x10, x3) =>
 if x10 < (↑r0.Tuples.length : Int) then
 ask ((0 : Int) ≤ x10 ∧ x10 < (↑r0.Tuples.length : Int)) <|
 (Jt (nth r0.Tuples x10.toNat)).bind fun r3 =>
 ask (InI (x10 + (1 : Int))) <|
 some (.inl (x10 + (1 : Int), L1 x3 r3 true))
 else
 some (.inr x3)
def Ku (r0 : SRelation) : (Int × (List (ByteArray × Bool))) → St := fun s => [(10, A.val (Ae s.1)), (9, A.val (Ae ((↑r0.Tuples.length : Int)))), (8, A.val ((slr false 1 (slr false 1 Ae)) (r0.Tuples))), (3, A.val ((rMp true Lf.bool) s.2))]
def Q6 (_r0 : SRelation) : (List (ByteArray × Bool)) → Tgt
 | s => ((Ex.exit 0), [3], [(3, A.val ((rMp true Lf.bool) s))])
theorem Abl {r0 : SRelation} (s : (Int × (List (ByteArray × Bool)))) (o : (Int × (List (ByteArray × Bool))) ⊕ (List (ByteArray × Bool))) (h : Fm r0 s = some o) : vc Try.prog Rf (C6 [10, 9, 8, 3] (Ku r0) (Q6 r0) o) (Ku r0 s) := by
 obtain ⟨x10, x3⟩ := s
 unfold Fm at h
 try dsimp only at h
 refine Br.od h (fun p1 h => ?_) (fun p1 h => ?_)
 ·refine Len.map <| Ask.o h fun p2 h => Elem.o (by first | omega | (simp [A4] at * <;> omega)) <| CallQ.o V.str (by rfl) h (fun r h => Ady h) (fun r3 h => ?_)
  refine MsQ.o Lf.bool x3 true (by rfl) rfl <| Ask.o h fun p4 h => ?_
  cases h; exact ⟨rfl, rfl⟩
 cases h; exact ⟨rfl, rfl⟩
noncomputable def Hs (r0 : SRelation) : Option (List (ByteArray × Bool)) :=
 (Al (Fm r0) ((0 : Int), Ap (ByteArray × Bool))).bind fun q5_3 =>
 some q5_3
theorem Agi {r0 : SRelation} {v : (List (ByteArray × Bool))} (h : Hs r0 = some v) : Ret Try.prog Po [(Ah false) r0] ((rMp true Lf.bool) v) := by
 refine A7 Agc (Nat.le_of_ble_eq_true rfl) ?_
 unfold Hs at h
 refine Cells.lit rfl rfl <| Len.map <| LoopQ.o [10, 9, 8, 3] (Ku r0) (Q6 r0) h (fun s o h => Abl s o h) (by rfl) (fun _ => rfl) ?_
 rintro q5_3 h
 try dsimp only at h
 cases h; exact (by rfl)
noncomputable def Hq (s0 : (List Int)) (t0 : (List Int)) : Option Bool :=
 if (↑s0.length : Int) ≠ (↑t0.length : Int) then
 some (decide ((↑s0.length : Int) < (↑t0.length : Int)))
 else
 (Gi (s0) (t0)).bind fun r2 =>
 some r2
theorem Agb {s0 : (List Int)} {t0 : (List Int)} {v : Bool} (h : Hq s0 t0 = some v) : Ret Try.prog Pq [(slr false 1 Ae) s0, (slr false 1 Ae) t0] (V.bool v) := by
 refine A7 Af1 (Nat.le_of_ble_eq_true rfl) ?_
 unfold Hq at h
 refine Len.map <| Len.map <| Br.on h (fun p1 h => ?_) (fun p1 h => ?_)
 ·refine Len.map <| Len.map ?_
  cases h; exact (by rfl)
 refine CallQ.o V.bool (by rfl) h (fun r h => Ti h) (fun r2 h => ?_)
 cases h; exact (by rfl)
noncomputable def G5 (list0 : List (List Int)) (t0 : List Int) : (Int × Int) → Option ((Int × Int) ⊕ Int) := fun (x7, x6) =>
 if x6 < x7 then
 ask (InI (x6 + x7)) <|
 ask ((2 : Int) ≠ (0 : Int) ∧ InI ((x6 + x7).tdiv (2 : Int))) <|
 ask ((0 : Int) ≤ (x6 + x7).tdiv (2 : Int) ∧ (x6 + x7).tdiv (2 : Int) < (↑list0.length : Int)) <|
 (Gi (nth list0 ((x6 + x7).tdiv (2 : Int)).toNat) (t0)).bind fun r5 =>
 if (r5) = true then
 ask (InI ((x6 + x7).tdiv (2 : Int) + (1 : Int))) <|
 some (.inl (x7, (x6 + x7).tdiv (2 : Int) + (1 : Int)))
 else
 some (.inl ((x6 + x7).tdiv (2 : Int), x6))
 else
 some (.inr x6)
def Nd (list0 : List (List Int)) (t0 : List Int) : (Int × Int) → St := fun s => [(7, A.val (Ae s.1)), (6, A.val (Ae s.2)), (0, A.val ((slr false 1 (slr false 1 Ae)) (list0))), (1, A.val ((slr false 1 Ae) (t0)))]
def T7 (list0 : List (List Int)) (t0 : List Int) : Int → Tgt
 | s => ((Ex.exit 0), [6, 0, 1], [(6, A.val (Ae s)), (0, A.val ((slr false 1 (slr false 1 Ae)) (list0))), (1, A.val ((slr false 1 Ae) (t0)))])
theorem Aey {list0 : List (List Int)} {t0 : List Int} (s : (Int × Int)) (o : (Int × Int) ⊕ Int) (h : G5 list0 t0 s = some o) : vc Try.prog Ud (C6 [7, 6, 0, 1] (Nd list0 t0) (T7 list0 t0) o) (Nd list0 t0 s) := by
 obtain ⟨x7, x6⟩ := s
 unfold G5 at h
 try dsimp only at h
 refine Br.od h (fun p1 h => ?_) (fun p1 h => ?_)
 ·refine Ask.o h fun p2 h => Ask.o h fun p3 h => Len.map <| Ask.o h fun p4 h => Elem.o (by first | omega | (simp [A4] at * <;> omega)) <| CallQ.o V.bool (by rfl) h (fun r h => Ti h) (fun r5 h => ?_)
  refine Br.ob h (fun p6 h => ?_) (fun p6 h => ?_)
  ·refine Ask.o h fun p7 h => ?_
   cases h; exact ⟨rfl, rfl⟩
  cases h; exact ⟨rfl, rfl⟩
 cases h; exact ⟨rfl, rfl⟩
noncomputable def Ff (list0 : (List (List Int))) (t0 : (List Int)) : Option (Int × Bool) :=
 (Al (G5 list0 t0) ((↑list0.length : Int), (0 : Int))).bind fun q8_6 =>
 if q8_6 < (↑list0.length : Int) then
 ask ((0 : Int) ≤ q8_6 ∧ q8_6 < (↑list0.length : Int)) <|
 (Kd (nth list0 q8_6.toNat) (t0)).bind fun r11 =>
 some (q8_6, r11)
 else
 some (q8_6, false)
theorem Tl {list0 : (List (List Int))} {t0 : (List Int)} {v : (Int × Bool)} (h : Ff list0 t0 = some v) : Ret Try.prog Kg [(slr false 1 (slr false 1 Ae)) list0, (slr false 1 Ae) t0] ((fun r => V.tup [Ae r.1, V.bool r.2]) v) := by
 refine A7 Aj9 (Nat.le_of_ble_eq_true rfl) ?_
 unfold Ff at h
 refine Len.map <| LoopQ.o [7, 6, 0, 1] (Nd list0 t0) (T7 list0 t0) h (fun s o h => Aey s o h) (by rfl) (fun _ => rfl) ?_
 rintro q8_6 h
 try dsimp only at h
 refine Len.map <| Br.od h (fun p9 h => ?_) (fun p9 h => ?_)
 ·refine Br.yes <| Br.yes <| Len.map <| Ask.o h fun p10 h => Elem.o (by first | omega | (simp [A4] at * <;> omega)) <| Br.yes <| Br.yes <| Br.yes <| CallQ.o V.bool (by rfl) h (fun r h => Alv h) (fun r11 h => ?_)
  refine Br.yes ?_
  cases h; exact (by rfl)
 refine Br.no <| Br.no <| Br.no <| Br.no <| Br.no <| Br.no ?_
 cases h; exact (by rfl)
noncomputable def Hc (a0 : SAlgebra) : (Int × Int) → Option ((Int × Int) ⊕ Int) := fun (x4, x3) =>
 if x4 < (↑a0.Ops.length : Int) then
 ask ((0 : Int) ≤ x4 ∧ x4 < (↑a0.Ops.length : Int)) <|
 (Fj (x3) ((nth a0.Ops x4.toNat).Arity)).bind fun r3 =>
 ask (InI (x4 + (1 : Int))) <|
 some (.inl (x4 + (1 : Int), r3))
 else
 some (.inr x3)
def Nh (a0 : SAlgebra) : (Int × Int) → St := fun s => [(4, A.val (Ae s.1)), (3, A.val (Ae s.2)), (1, A.val ((rP true (A5 false)) (a0)))]
def Uy (_a0 : SAlgebra) : Int → Tgt
 | s => ((Ex.exit 0), [3], [(3, A.val (Ae s))])
theorem Aei {a0 : SAlgebra} (s : (Int × Int)) (o : (Int × Int) ⊕ Int) (h : Hc a0 s = some o) : vc Try.prog U8 (C6 [4, 3, 1] (Nh a0) (Uy a0) o) (Nh a0 s) := by
 obtain ⟨x4, x3⟩ := s
 unfold Hc at h
 try dsimp only at h
 refine Cells.lit rfl rfl <| Len.map <| Br.od h (fun p1 h => ?_) (fun p1 h => ?_)
 ·refine Cells.lit rfl rfl <| Len.map <| Ask.o h fun p2 h => Elem.o (by first | omega | (simp [A4] at * <;> omega)) <| CallQ.o Ae (by rfl) h (fun r h => Nz h) (fun r3 h => ?_)
  refine Ask.o h fun p4 h => ?_
  cases h; exact ⟨rfl, rfl⟩
 cases h; exact ⟨rfl, rfl⟩
noncomputable def J8 (a0 : SAlgebra) : Option Int :=
 (Al (Hc a0) ((0 : Int), (0 : Int))).bind fun q5_3 =>
 if q5_3 = (3 : Int) then
 some (40 : Int)
 else
 if q5_3 = (2 : Int) then
 some (200 : Int)
 else
 some (300 : Int)
theorem Aki {a0 : SAlgebra} {v : Int} (h : J8 a0 = some v) : Ret Try.prog Sy [(A5 false) a0] (Ae v) := by
 refine A7 Akq (Nat.le_of_ble_eq_true rfl) ?_
 unfold J8 at h
 refine LoopQ.o [4, 3, 1] (Nh a0) (Uy a0) h (fun s o h => Aei s o h) (by rfl) (fun _ => rfl) ?_
 rintro q5_3 h
 try dsimp only at h
 refine Br.oe h (fun p6 h => ?_) (fun p6 h => ?_)
 ·cases h; exact (by rfl)
 refine Br.oe h (fun p7 h => ?_) (fun p7 h => ?_)
 ·cases h; exact (by rfl)
 cases h; exact (by rfl)
end Go.Proofs.Ytjcekpmojnnmbaa.Ax
