/-
 What the functions compute, as functions on plain data, and that the program does compute it; written by program.
-/
import Derived.Test.YtjcekpmojnnmbaaCode
import Derived.Test.YtjcekpmojnnmbaaG1
import Derived.Test.YtjcekpmojnnmbaaG2
import Derived.Test.YtjcekpmojnnmbaaG3
import Derived.Test.YtjcekpmojnnmbaaG4
namespace Go.Proofs.Ytjcekpmojnnmbaa.Ax
open Go
set_option maxRecDepth 100000
set_option maxHeartbeats 4000000
noncomputable def G7 (n0 : Int) : (Int × (List Int)) → Option ((Int × (List Int)) ⊕ ((List Int) ⊕ (List Int))) := fun (x7, x6) =>
 if x7 ≥ (0 : Int) then
 ask ((0 : Int) ≤ x7 ∧ x7 < (↑x6.length : Int)) <|
 ask (InI (n0 - (1 : Int))) <|
 if nth x6 x7.toNat < n0 - (1 : Int) then
 ask ((0 : Int) ≤ x7 ∧ x7 < (↑x6.length : Int)) <|
 ask (InI (nth x6 x7.toNat + (1 : Int))) <|
 ask ((0 : Int) ≤ x7 ∧ x7 < (↑x6.length : Int)) <|
 some (.inr (.inl (x6.set x7.toNat (nth x6 x7.toNat + (1 : Int)))))
 else
 ask ((0 : Int) ≤ x7 ∧ x7 < (↑x6.length : Int)) <|
 ask (InI (x7 - (1 : Int))) <|
 some (.inl (x7 - (1 : Int), x6.set x7.toNat (0 : Int)))
 else
 some (.inr (.inr x6))
def Nj (n0 : Int) : (Int × (List Int)) → St := fun s => [(7, A.val (Ae s.1)), (6, A.val ((slr true 1 Ae) s.2)), (1, A.val (Ae (n0)))]
def T9 (_n0 : Int) : ((List Int) ⊕ (List Int)) → Tgt
 | (.inl s) => (Ex.ret, [5, 4], [(5, A.val (V.bool (true))), (4, A.val ((slr true 1 Ae) s))])
 | (.inr s) => ((Ex.exit 0), [6], [(6, A.val ((slr true 1 Ae) s))])
theorem Afa {n0 : Int} (s : (Int × (List Int))) (o : (Int × (List Int)) ⊕ ((List Int) ⊕ (List Int))) (h : G7 n0 s = some o) : vc Try.prog Ug (C6 [7, 6, 1] (Nj n0) (T9 n0) o) (Nj n0 s) := by
 obtain ⟨x7, x6⟩ := s
 unfold G7 at h
 try dsimp only at h
 refine Br.od h (fun p3 h => ?_) (fun p3 h => ?_)
 ·refine Len.map <| Ask.o h fun p4 h => Cells.one (fun _ => ⟨rfl, rfl⟩) (by first | omega | (simp [A4] at * <;> omega)) <| Ask.o h fun p5 h => Br.od h (fun p6 h => ?_) (fun p6 h => ?_)
  ·refine Len.map <| Ask.o h fun p7 h => Cells.one (fun _ => ⟨rfl, rfl⟩) (by first | omega | (simp [A4] at * <;> omega)) <| Ask.o h fun p8 h => Len.map <| Ask.o h fun p9 h => SetKids.one (fun _ => ⟨rfl, rfl⟩) (nth x6 x7.toNat + (1 : Int)) (by rfl) (by first | omega | (simp [A4] at * <;> omega)) ?_
   cases h; exact ⟨rfl, rfl⟩
  refine Len.map <| Ask.o h fun p10 h => SetKids.one (fun _ => ⟨rfl, rfl⟩) ((0 : Int)) (by rfl) (by first | omega | (simp [A4] at * <;> omega)) <| Ask.o h fun p11 h => ?_
  cases h; exact ⟨rfl, rfl⟩
 cases h; exact ⟨rfl, rfl⟩
noncomputable def H4 (list0 : (List Int)) (n0 : Int) : Option ((List Int) × Bool) :=
 (F8 (list0)).bind fun r1 =>
 ask (InI ((↑r1.length : Int) - (1 : Int))) <|
 (Al (G7 n0) ((↑r1.length : Int) - (1 : Int), r1)).bind fun t => match t with
 | (.inl q12_4) => (some (q12_4, true))
 | (.inr q12_6) => (some (q12_6, false))
theorem Aj5 {list0 : (List Int)} {n0 : Int} {v : ((List Int) × Bool)} (h : H4 list0 n0 = some v) : Ret Try.prog Ts [(slr false 1 Ae) list0, Ae n0] ((fun r => V.tup [(slr true 1 Ae) r.1, V.bool r.2]) v) := by
 refine A7 Als (Nat.le_of_ble_eq_true rfl) ?_
 unfold H4 at h
 refine CallQ.o (slr true 1 Ae) (by rfl) h (fun r h => Qc h) (fun r1 h => ?_)
 refine Len.map <| Ask.o h fun p2 h => LoopQ.o [7, 6, 1] (Nj n0) (T9 n0) h (fun s o h => Afa s o h) (by rfl) (by rintro (_ | _) <;> rfl) ?_
 rintro (q12_4 | q12_6) h
 ·try dsimp only at h
  cases h; exact (by rfl)
 try dsimp only at h
 cases h; exact (by rfl)
noncomputable def Dy (s0 : (List Int)) (t0 : (List Int)) : Option Int :=
 if (↑s0.length : Int) < (↑t0.length : Int) then
 some (-1 : Int)
 else
 if (↑s0.length : Int) > (↑t0.length : Int) then
 some (1 : Int)
 else
 (Dx (s0) (t0)).bind fun r3 =>
 some r3
theorem Zc {s0 : (List Int)} {t0 : (List Int)} {v : Int} (h : Dy s0 t0 = some v) : Ret Try.prog Gw [(slr false 1 Ae) s0, (slr false 1 Ae) t0] (Ae v) := by
 refine A7 Y2 (Nat.le_of_ble_eq_true rfl) ?_
 unfold Dy at h
 refine Len.map <| Len.map <| Br.od h (fun p1 h => ?_) (fun p1 h => ?_)
 ·cases h; exact (by rfl)
 refine Len.map <| Len.map <| Br.od h (fun p2 h => ?_) (fun p2 h => ?_)
 ·cases h; exact (by rfl)
 refine CallQ.o Ae (by rfl) h (fun r h => Pt h) (fun r3 h => ?_)
 cases h; exact (by rfl)
noncomputable def Cy (n0 : Int) (list0 : List Int) : Int → Option (Int ⊕ (Unit ⊕ Unit)) := fun x5 =>
 if x5 < (↑list0.length : Int) then
 ask ((0 : Int) ≤ x5 ∧ x5 < (↑list0.length : Int)) <|
 ask (InI (n0 - (1 : Int))) <|
 (Fh (nth list0 x5.toNat) ((0 : Int)) (n0 - (1 : Int))).bind fun r4 =>
 if (r4) = true then
 ask (InI (x5 + (1 : Int))) <|
 some (.inl (x5 + (1 : Int)))
 else
 some (.inr (.inl ()))
 else
 some (.inr (.inr ()))
def Jc (n0 : Int) (list0 : List Int) : Int → St := fun s => [(5, A.val (Ae s)), (0, A.val (Ae (n0))), (1, A.val ((slr false 1 Ae) (list0)))]
def Og (_n0 : Int) (_list0 : List Int) : (Unit ⊕ Unit) → Tgt
 | (.inl _s) => (Ex.ret, [4], [(4, A.val (V.bool (false)))])
 | (.inr _s) => ((Ex.exit 0), [], [])
theorem Yi {n0 : Int} {list0 : List Int} (x5 : Int) (o : Int ⊕ (Unit ⊕ Unit)) (h : Cy n0 list0 x5 = some o) : vc Try.prog N8 (C6 [5, 0, 1] (Jc n0 list0) (Og n0 list0) o) (Jc n0 list0 x5) := by
 unfold Cy at h
 try dsimp only at h
 refine Len.map <| Br.od h (fun p1 h => ?_) (fun p1 h => ?_)
 ·refine Len.map <| Ask.o h fun p2 h => Elem.o (by first | omega | (simp [A4] at * <;> omega)) <| Ask.o h fun p3 h => CallQ.o V.bool (by rfl) h (fun r h => K1 h) (fun r4 h => ?_)
  refine Br.flip <| Br.ob h (fun p5 h => ?_) (fun p5 h => ?_)
  ·refine Ask.o h fun p6 h => ?_
   cases h; exact ⟨rfl, rfl⟩
  cases h; exact ⟨rfl, rfl⟩
 cases h; exact ⟨rfl, rfl⟩
noncomputable def Ge (n0 : Int) (list0 : (List Int)) : Option Bool :=
 (Al (Cy n0 list0) (0 : Int)).bind fun t => match t with
 | (.inl _) => (some false)
 | (.inr _) => (some true)
theorem Ab2 {n0 : Int} {list0 : (List Int)} {v : Bool} (h : Ge n0 list0 = some v) : Ret Try.prog K9 [Ae n0, (slr false 1 Ae) list0] (V.bool v) := by
 refine A7 Acd (Nat.le_of_ble_eq_true rfl) ?_
 unfold Ge at h
 refine LoopQ.o [5, 0, 1] (Jc n0 list0) (Og n0 list0) h (fun s o h => Yi s o h) (by rfl) (by rintro (_ | _) <;> rfl) ?_
 rintro (⟨⟩ | ⟨⟩) h
 ·try dsimp only at h
  cases h; exact (by rfl)
 try dsimp only at h
 cases h; exact (by rfl)
noncomputable def Be (arity0 : Int) (clauses0 : List (List Int)) (_r1 : SRelation × Bool) : Int → Option (Int ⊕ (Unit ⊕ Unit)) := fun x33 =>
 if x33 < (↑clauses0.length : Int) then
 ask ((0 : Int) ≤ x33 ∧ x33 < (↑clauses0.length : Int)) <|
 (Hp (arity0) (nth clauses0 x33.toNat)).bind fun r7 =>
 if (r7) = true then
 ask (InI (x33 + (1 : Int))) <|
 some (.inl (x33 + (1 : Int)))
 else
 some (.inr (.inl ()))
 else
 some (.inr (.inr ()))
def Fa (arity0 : Int) (clauses0 : List (List Int)) (r1 : SRelation × Bool) : Int → St := fun s => [(33, A.val (Ae s)), (32, A.val (Ae ((↑clauses0.length : Int)))), (31, A.val ((slr false 1 (slr false 1 Ae)) (clauses0))), (8, A.val ((rP true (Aj)) ({ Arity := arity0, Tuples := Ap (List Int) }))), (6, A.val ((rP true (Ah false)) (r1.fst))), (4, A.val ((rP true (Aj)) ({ Arity := (0 : Int), Tuples := Ap (List Int) }))), (0, A.val (Ae (arity0))), (1, A.val ((slr false 1 (slr false 1 Ae)) (clauses0)))]
def Ix (arity0 : Int) (clauses0 : List (List Int)) (r1 : SRelation × Bool) : (Unit ⊕ Unit) → Tgt
 | (.inl _s) => (Ex.ret, [5, 4], [(5, A.val (V.bool (false))), (4, A.val ((rP true (Aj)) ({ Arity := (0 : Int), Tuples := Ap (List Int) })))])
 | (.inr _s) => ((Ex.exit 0), [8, 6, 4, 1], [(8, A.val ((rP true (Aj)) ({ Arity := arity0, Tuples := Ap (List Int) }))), (6, A.val ((rP true (Ah false)) (r1.fst))), (4, A.val ((rP true (Aj)) ({ Arity := (0 : Int), Tuples := Ap (List Int) }))), (1, A.val ((slr false 1 (slr false 1 Ae)) (clauses0)))])
theorem P3 {arity0 : Int} {clauses0 : List (List Int)} {r1 : SRelation × Bool} (x33 : Int) (o : Int ⊕ (Unit ⊕ Unit)) (h : Be arity0 clauses0 r1 x33 = some o) : vc Try.prog Iu (C6 [33, 32, 31, 8, 6, 4, 0, 1] (Fa arity0 clauses0 r1) (Ix arity0 clauses0 r1) o) (Fa arity0 clauses0 r1 x33) := by
 unfold Be at h
 try dsimp only at h
 refine Br.od h (fun p5 h => ?_) (fun p5 h => ?_)
 ·refine Len.map <| Ask.o h fun p6 h => Elem.o (by first | omega | (simp [A4] at * <;> omega)) <| CallQ.o V.bool (by rfl) h (fun r h => Agl h) (fun r7 h => ?_)
  refine Br.flip <| Br.ob h (fun p8 h => ?_) (fun p8 h => ?_)
  ·refine Ask.o h fun p9 h => ?_
   cases h; exact ⟨rfl, rfl⟩
  refine SetKids.lit rfl ?_
  cases h; exact ⟨rfl, rfl⟩
 cases h; exact ⟨rfl, rfl⟩
noncomputable def Bo (clauses0 : List (List Int)) (r1 : SRelation × Bool) (x46 : Int) (_x8 : SRelation) : (Int × Bool) → Option ((Int × Bool) ⊕ Bool) := fun (x52, x13) =>
 if x52 < (↑clauses0.length : Int) then
 ask ((0 : Int) ≤ x52 ∧ x52 < (↑clauses0.length : Int)) <|
 if (x13) = true then
 (D9 (nth r1.fst.Tuples x46.toNat) (nth clauses0 x52.toNat)).bind fun r16 =>
 ask (InI (x52 + (1 : Int))) <|
 some (.inl (x52 + (1 : Int), r16))
 else
 ask (InI (x52 + (1 : Int))) <|
 some (.inl (x52 + (1 : Int), false))
 else
 some (.inr x13)
def E7 (clauses0 : List (List Int)) (r1 : SRelation × Bool) (x46 : Int) (x8 : SRelation) : (Int × Bool) → St := fun s => [(52, A.val (Ae s.1)), (51, A.val (Ae ((↑clauses0.length : Int)))), (50, A.val ((slr false 1 (slr false 1 Ae)) (clauses0))), (13, A.val (V.bool s.2)), (12, A.val ((slr false 1 Ae) (nth r1.fst.Tuples x46.toNat))), (46, A.val (Ae (x46))), (45, A.val (Ae ((↑r1.fst.Tuples.length : Int)))), (44, A.val ((slr false 1 (slr false 1 Ae)) (r1.fst.Tuples))), (8, A.val ((rP true (Aj)) (x8))), (4, A.val ((rP true (Aj)) ({ Arity := (0 : Int), Tuples := Ap (List Int) }))), (1, A.val ((slr false 1 (slr false 1 Ae)) (clauses0)))]
def Ip (clauses0 : List (List Int)) (r1 : SRelation × Bool) (x46 : Int) (x8 : SRelation) : Bool → Tgt
 | s => ((Ex.exit 4), [13, 12, 46, 45, 44, 8, 4, 1], [(13, A.val (V.bool s)), (12, A.val ((slr false 1 Ae) (nth r1.fst.Tuples x46.toNat))), (46, A.val (Ae (x46))), (45, A.val (Ae ((↑r1.fst.Tuples.length : Int)))), (44, A.val ((slr false 1 (slr false 1 Ae)) (r1.fst.Tuples))), (8, A.val ((rP true (Aj)) (x8))), (4, A.val ((rP true (Aj)) ({ Arity := (0 : Int), Tuples := Ap (List Int) }))), (1, A.val ((slr false 1 (slr false 1 Ae)) (clauses0)))])
theorem P8 {clauses0 : List (List Int)} {r1 : SRelation × Bool} {x46 : Int} {x8 : SRelation} (s : (Int × Bool)) (o : (Int × Bool) ⊕ Bool) (h : Bo clauses0 r1 x46 x8 s = some o) : vc Try.prog Is (C6 [52, 51, 50, 13, 12, 46, 45, 44, 8, 4, 1] (E7 clauses0 r1 x46 x8) (Ip clauses0 r1 x46 x8) o) (E7 clauses0 r1 x46 x8 s) := by
 obtain ⟨x52, x13⟩ := s
 unfold Bo at h
 try dsimp only at h
 refine Br.od h (fun p13 h => ?_) (fun p13 h => ?_)
 ·refine Len.map <| Ask.o h fun p14 h => Elem.o (by first | omega | (simp [A4] at * <;> omega)) <| Br.ob h (fun p15 h => ?_) (fun p15 h => ?_)
  ·refine Br.yes <| Br.yes <| CallQ.o V.bool (by rfl) h (fun r h => Qt h) (fun r16 h => ?_)
   refine Br.yes <| Ask.o h fun p17 h => ?_
   cases h; exact ⟨rfl, rfl⟩
  refine Br.no <| Br.no <| Br.no <| Ask.o h fun p18 h => ?_
  cases h; exact ⟨rfl, rfl⟩
 cases h; exact ⟨rfl, rfl⟩
noncomputable def Bn (clauses0 : List (List Int)) (r1 : SRelation × Bool) : (Int × SRelation) → Option ((Int × SRelation) ⊕ SRelation) := fun (x46, x8) =>
 if x46 < (↑r1.fst.Tuples.length : Int) then
 ask ((0 : Int) ≤ x46 ∧ x46 < (↑r1.fst.Tuples.length : Int)) <|
 (Al (Bo clauses0 r1 x46 x8) ((0 : Int), true)).bind fun q19_13 =>
 if (q19_13) = true then
 ask ((x8.Tuples).length + ([nth r1.fst.Tuples x46.toNat]).length ≤ LIM) <|
 ask (InI (x46 + (1 : Int))) <|
 some (.inl (x46 + (1 : Int), { Arity := x8.Arity, Tuples := x8.Tuples ++ [nth r1.fst.Tuples x46.toNat] }))
 else
 ask (InI (x46 + (1 : Int))) <|
 some (.inl (x46 + (1 : Int), x8))
 else
 some (.inr x8)
def E8 (clauses0 : List (List Int)) (r1 : SRelation × Bool) : (Int × SRelation) → St := fun s => [(46, A.val (Ae s.1)), (45, A.val (Ae ((↑r1.fst.Tuples.length : Int)))), (44, A.val ((slr false 1 (slr false 1 Ae)) (r1.fst.Tuples))), (8, A.val ((rP true (Aj)) s.2)), (4, A.val ((rP true (Aj)) ({ Arity := (0 : Int), Tuples := Ap (List Int) }))), (1, A.val ((slr false 1 (slr false 1 Ae)) (clauses0)))]
def Iv (_clauses0 : List (List Int)) (_r1 : SRelation × Bool) : SRelation → Tgt
 | s => ((Ex.exit 2), [8, 4], [(8, A.val ((rP true (Aj)) s)), (4, A.val ((rP true (Aj)) ({ Arity := (0 : Int), Tuples := Ap (List Int) })))])
theorem Qe {clauses0 : List (List Int)} {r1 : SRelation × Bool} (s : (Int × SRelation)) (o : (Int × SRelation) ⊕ SRelation) (h : Bn clauses0 r1 s = some o) : vc Try.prog Ik (C6 [46, 45, 44, 8, 4, 1] (E8 clauses0 r1) (Iv clauses0 r1) o) (E8 clauses0 r1 s) := by
 obtain ⟨x46, x8⟩ := s
 unfold Bn at h
 try dsimp only at h
 refine Br.od h (fun p11 h => ?_) (fun p11 h => ?_)
 ·refine Len.map <| Ask.o h fun p12 h => Elem.o (by first | omega | (simp [A4] at * <;> omega)) <| Len.map <| LoopQ.o [52, 51, 50, 13, 12, 46, 45, 44, 8, 4, 1] (E7 clauses0 r1 x46 x8) (Ip clauses0 r1 x46 x8) h (fun s o h => P8 s o h) (by rfl) (fun _ => rfl) ?_
  rintro q19_13 h
  try dsimp only at h
  refine Br.ob h (fun p20 h => ?_) (fun p20 h => ?_)
  ·refine Cells.lit rfl rfl <| BslQ.o (slr false 1 Ae) ([nth r1.fst.Tuples x46.toNat]) (by exact fun _ => ⟨rfl, rfl⟩) (by first | rfl | (simp only [Aa, V.fz, fzL, V.up, upL, Ab, Ac, Ad, slr, List.cons_append, List.nil_append]; done) | simp [Aa, V.fz, fzL, V.up, upL, Ab, Ac, Ad, slr]) <| NoOwn.o (fun _ => rfl) <| Kid.lit rfl rfl <| Kid.lit rfl rfl <| SetKids.lit rfl <| AppQ.o (m := 1) (slr false 1 Ae) (by exact fun _ => ⟨rfl, rfl⟩) (x8.Tuples) ([nth r1.fst.Tuples x46.toNat]) (by rfl) (by rfl) h fun h => SetKids.lit rfl <| Ask.o h fun p21 h => ?_
   cases h; exact ⟨rfl, rfl⟩
  refine Ask.o h fun p22 h => ?_
  cases h; exact ⟨rfl, rfl⟩
 cases h; exact ⟨rfl, rfl⟩
noncomputable def Bp (arity0 : Int) (clauses0 : (List (List Int))) : Option (SRelation × Bool) :=
 (C8 ((2 : Int)) (arity0)).bind fun r1 =>
 ((if (r1.snd) = true then
 if (↑clauses0.length : Int) > (30 : Int) then
 some (.inl ())
 else
 some (.inr ())
 else
 some (.inl ()) : Option (Unit ⊕ Unit))).bind fun t => match t with
 | (.inl _) => (some ({ Arity := (0 : Int), Tuples := Ap (List Int) }, false))
 | (.inr _) => ((Al (Be arity0 clauses0 r1) (0 : Int)).bind fun t => match t with
 | (.inl _) => (some ({ Arity := (0 : Int), Tuples := Ap (List Int) }, false))
 | (.inr _) => ((Al (Bn clauses0 r1) ((0 : Int), { Arity := arity0, Tuples := Ap (List Int) })).bind fun q23_8 =>
 some (q23_8, true)))
theorem Gp {arity0 : Int} {clauses0 : (List (List Int))} {v : (SRelation × Bool)} (h : Bp arity0 clauses0 = some v) : Ret Try.prog De [Ae arity0, (slr false 1 (slr false 1 Ae)) clauses0] ((fun r => V.tup [(Aj) r.1, V.bool r.2]) v) := by
 refine A7 Tr (Nat.le_of_ble_eq_true rfl) ?_
 unfold Bp at h
 refine CallQ.o (fun r => V.tup [(Ah false) r.1, V.bool r.2]) (by rfl) h (fun r h => Ret.frz (Zf h) (by first | rfl | simp only [V.fz, fzL, Ab] | simp [Aa, V.fz, fzL, V.up, upL, Ab, Ac, Ad, slr])) (fun r1 h => ?_)
 refine SetKids.lit rfl <| CutQ.o (fun t : (Unit ⊕ Unit) => match t with | (.inl s) => (Ex.ret, [5, 4], [(5, A.val (V.bool (false))), (4, A.val ((rP true (Aj)) ({ Arity := (0 : Int), Tuples := Ap (List Int) })))]) | (.inr s) => (Ex.normal, [6, 4, 0, 1], [(6, A.val ((rP true (Ah false)) (r1.fst))), (4, A.val ((rP true (Aj)) ({ Arity := (0 : Int), Tuples := Ap (List Int) }))), (0, A.val (Ae (arity0))), (1, A.val ((slr false 1 (slr false 1 Ae)) (clauses0)))])) h ?_ ?_
 ·intro t h
  refine Br.flip <| Br.ob h (fun p2 h => ?_) (fun p2 h => ?_)
  ·refine Br.no <| Len.map <| Br.no <| Br.no <| Br.od h (fun p3 h => ?_) (fun p3 h => ?_)
   ·refine SetKids.lit rfl ?_
    cases h; exact ⟨rfl, rfl⟩
   cases h; exact ⟨rfl, rfl⟩
  refine Br.yes <| Br.yes <| Br.yes <| Br.yes <| SetKids.lit rfl ?_
  cases h; exact ⟨rfl, rfl⟩
 rintro (⟨⟩ | ⟨⟩) h
 ·try dsimp only at h
  cases h; exact (by rfl)
 try dsimp only at h
 refine SetKids.lit rfl <| Len.map <| LoopQ.o [33, 32, 31, 8, 6, 4, 0, 1] (Fa arity0 clauses0 r1) (Ix arity0 clauses0 r1) h (fun s o h => P3 s o h) (by rfl) (by rintro (_ | _) <;> rfl) ?_
 rintro (⟨⟩ | ⟨⟩) h
 ·try dsimp only at h
  cases h; exact (by rfl)
 try dsimp only at h
 refine Cells.lit rfl rfl <| Len.map <| LoopQ.o [46, 45, 44, 8, 4, 1] (E8 clauses0 r1) (Iv clauses0 r1) h (fun s o h => Qe s o h) (by rfl) (fun _ => rfl) ?_
 rintro q23_8 h
 try dsimp only at h
 refine Cells.lit rfl rfl <| SetKids.lit rfl ?_
 cases h; exact (by rfl)
noncomputable def Fl (r0 : SRelation) (s0 : SRelation) : Option Bool :=
 if r0.Arity = s0.Arity then
 (Hy (r0.Tuples) (s0.Tuples)).bind fun r2 =>
 some r2
 else
 some false
theorem Uo {r0 : SRelation} {s0 : SRelation} {v : Bool} (h : Fl r0 s0 = some v) : Ret Try.prog Jr [(Ah false) r0, (Ah false) s0] (V.bool v) := by
 refine A7 Aeb (Nat.le_of_ble_eq_true rfl) ?_
 unfold Fl at h
 refine Cells.lit rfl rfl <| Cells.lit rfl rfl <| Br.oe h (fun p1 h => ?_) (fun p1 h => ?_)
 ·refine Br.yes <| Cells.lit rfl rfl <| Br.yes <| Br.yes <| Cells.lit rfl rfl <| Br.yes <| CallQ.o V.bool (by rfl) h (fun r h => Zz h) (fun r2 h => ?_)
  refine Br.yes ?_
  cases h; exact (by rfl)
 refine Br.no <| Br.no <| Br.no <| Br.no <| Br.no ?_
 cases h; exact (by rfl)
noncomputable def Bf (arity0 : Int) (clauses0 : List (List Int)) : Int → Option (Int ⊕ (Unit ⊕ Unit)) := fun x6 =>
 if x6 < (↑clauses0.length : Int) then
 ask ((0 : Int) ≤ x6 ∧ x6 < (↑clauses0.length : Int)) <|
 (G2 (arity0) (nth clauses0 x6.toNat)).bind fun r7 =>
 if (r7) = true then
 ask (InI (x6 + (1 : Int))) <|
 some (.inl (x6 + (1 : Int)))
 else
 some (.inr (.inl ()))
 else
 some (.inr (.inr ()))
def Fd (arity0 : Int) (clauses0 : List (List Int)) : Int → St := fun s => [(6, A.val (Ae s)), (4, A.val ((rP true (Ah true)) ({ Arity := (0 : Int), Tuples := Ap (List Int) }))), (0, A.val (Ae (arity0))), (1, A.val ((slr false 1 (slr false 1 Ae)) (clauses0)))]
def Iq (arity0 : Int) (clauses0 : List (List Int)) : (Unit ⊕ Unit) → Tgt
 | (.inl _s) => (Ex.ret, [5, 4], [(5, A.val (V.bool (false))), (4, A.val ((rP true (Ah true)) ({ Arity := (0 : Int), Tuples := Ap (List Int) })))])
 | (.inr _s) => ((Ex.exit 0), [4, 0, 1], [(4, A.val ((rP true (Ah true)) ({ Arity := (0 : Int), Tuples := Ap (List Int) }))), (0, A.val (Ae (arity0))), (1, A.val ((slr false 1 (slr false 1 Ae)) (clauses0)))])
theorem P7 {arity0 : Int} {clauses0 : List (List Int)} (x6 : Int) (o : Int ⊕ (Unit ⊕ Unit)) (h : Bf arity0 clauses0 x6 = some o) : vc Try.prog It (C6 [6, 4, 0, 1] (Fd arity0 clauses0) (Iq arity0 clauses0) o) (Fd arity0 clauses0 x6) := by
 unfold Bf at h
 try dsimp only at h
 refine Len.map <| Br.od h (fun p5 h => ?_) (fun p5 h => ?_)
 ·refine Len.map <| Ask.o h fun p6 h => Elem.o (by first | omega | (simp [A4] at * <;> omega)) <| CallQ.o V.bool (by rfl) h (fun r h => Ae6 h) (fun r7 h => ?_)
  refine Br.flip <| Br.ob h (fun p8 h => ?_) (fun p8 h => ?_)
  ·refine Ask.o h fun p9 h => ?_
   cases h; exact ⟨rfl, rfl⟩
  refine SetKids.lit rfl ?_
  cases h; exact ⟨rfl, rfl⟩
 cases h; exact ⟨rfl, rfl⟩
noncomputable def B6 (_arity0 : Int) (clauses0 : List (List Int)) (_x8 : Int) (_x7 : SRelation) (r13 : List Int) : (Int × Bool) → Option ((Int × Bool) ⊕ Bool) := fun (x11, x10) =>
 if x11 < (↑clauses0.length : Int) then
 if (x10) = true then
 ask ((0 : Int) ≤ x11 ∧ x11 < (↑clauses0.length : Int)) <|
 (F3 (r13) (nth clauses0 x11.toNat)).bind fun r17 =>
 ask (InI (x11 + (1 : Int))) <|
 some (.inl (x11 + (1 : Int), r17))
 else
 ask (InI (x11 + (1 : Int))) <|
 some (.inl (x11 + (1 : Int), false))
 else
 some (.inr x10)
def Fb (arity0 : Int) (clauses0 : List (List Int)) (x8 : Int) (x7 : SRelation) (r13 : List Int) : (Int × Bool) → St := fun s => [(11, A.val (Ae s.1)), (10, A.val (V.bool s.2)), (9, A.val ((slr true 1 Ae) (r13))), (8, A.val (Ae (x8))), (7, A.val ((rP true (Ah true)) (x7))), (4, A.val ((rP true (Ah true)) ({ Arity := (0 : Int), Tuples := Ap (List Int) }))), (0, A.val (Ae (arity0))), (1, A.val ((slr false 1 (slr false 1 Ae)) (clauses0)))]
def Ii (arity0 : Int) (clauses0 : List (List Int)) (x8 : Int) (x7 : SRelation) (r13 : List Int) : Bool → Tgt
 | s => ((Ex.exit 4), [10, 9, 8, 7, 4, 0, 1], [(10, A.val (V.bool s)), (9, A.val ((slr true 1 Ae) (r13))), (8, A.val (Ae (x8))), (7, A.val ((rP true (Ah true)) (x7))), (4, A.val ((rP true (Ah true)) ({ Arity := (0 : Int), Tuples := Ap (List Int) }))), (0, A.val (Ae (arity0))), (1, A.val ((slr false 1 (slr false 1 Ae)) (clauses0)))])
theorem P4 {arity0 : Int} {clauses0 : List (List Int)} {x8 : Int} {x7 : SRelation} {r13 : List Int} (s : (Int × Bool)) (o : (Int × Bool) ⊕ Bool) (h : B6 arity0 clauses0 x8 x7 r13 s = some o) : vc Try.prog Iz (C6 [11, 10, 9, 8, 7, 4, 0, 1] (Fb arity0 clauses0 x8 x7 r13) (Ii arity0 clauses0 x8 x7 r13) o) (Fb arity0 clauses0 x8 x7 r13 s) := by
 obtain ⟨x11, x10⟩ := s
 unfold B6 at h
 try dsimp only at h
 refine Len.map <| Br.od h (fun p14 h => ?_) (fun p14 h => ?_)
 ·refine Br.ob h (fun p15 h => ?_) (fun p15 h => ?_)
  ·refine Br.yes <| Br.yes <| Br.yes <| Len.map <| Ask.o h fun p16 h => Elem.o (by first | omega | (simp [A4] at * <;> omega)) <| Br.yes <| Br.yes <| CallQ.rd V.bool (by first | rfl | simp only [V.fz, Ab, slr] | simp [Aa, V.fz, fzL, V.up, upL, Ab, Ac, Ad, slr]) (fun _ => rfl) h (fun r h => Wd h) (fun r17 h => ?_)
   refine Br.yes <| Ask.o h fun p18 h => ?_
   cases h; exact ⟨rfl, rfl⟩
  refine Br.no <| Br.no <| Br.no <| Br.no <| Br.no <| Br.no <| Ask.o h fun p19 h => ?_
  cases h; exact ⟨rfl, rfl⟩
 cases h; exact ⟨rfl, rfl⟩
noncomputable def Bm (arity0 : Int) (clauses0 : List (List Int)) : (Int × SRelation) → Option ((Int × SRelation) ⊕ SRelation) := fun (x8, x7) =>
 (Gd ((2 : Int)) (arity0)).bind fun r11 =>
 if x8 < r11 then
 (Fi ((2 : Int)) (arity0) (x8)).bind fun r13 =>
 (Al (B6 arity0 clauses0 x8 x7 r13) ((0 : Int), true)).bind fun q20_10 =>
 if (q20_10) = true then
 ask ((x7.Tuples).length + ([r13]).length ≤ LIM) <|
 ask (InI (x8 + (1 : Int))) <|
 some (.inl (x8 + (1 : Int), { Arity := x7.Arity, Tuples := x7.Tuples ++ [r13] }))
 else
 ask (InI (x8 + (1 : Int))) <|
 some (.inl (x8 + (1 : Int), x7))
 else
 some (.inr x7)
def E9 (arity0 : Int) (clauses0 : List (List Int)) : (Int × SRelation) → St := fun s => [(8, A.val (Ae s.1)), (7, A.val ((rP true (Ah true)) s.2)), (4, A.val ((rP true (Ah true)) ({ Arity := (0 : Int), Tuples := Ap (List Int) }))), (0, A.val (Ae (arity0))), (1, A.val ((slr false 1 (slr false 1 Ae)) (clauses0)))]
def Iy (_arity0 : Int) (_clauses0 : List (List Int)) : SRelation → Tgt
 | s => ((Ex.exit 2), [7, 4], [(7, A.val ((rP true (Ah true)) s)), (4, A.val ((rP true (Ah true)) ({ Arity := (0 : Int), Tuples := Ap (List Int) })))])
theorem Pz {arity0 : Int} {clauses0 : List (List Int)} (s : (Int × SRelation)) (o : (Int × SRelation) ⊕ SRelation) (h : Bm arity0 clauses0 s = some o) : vc Try.prog In (C6 [8, 7, 4, 0, 1] (E9 arity0 clauses0) (Iy arity0 clauses0) o) (E9 arity0 clauses0 s) := by
 obtain ⟨x8, x7⟩ := s
 unfold Bm at h
 try dsimp only at h
 refine CallQ.o Ae (by rfl) h (fun r h => P6 h) (fun r11 h => ?_)
 refine Br.od h (fun p12 h => ?_) (fun p12 h => ?_)
 ·refine CallQ.o (slr true 1 Ae) (by rfl) h (fun r h => Tu h) (fun r13 h => ?_)
  refine LoopQ.o [11, 10, 9, 8, 7, 4, 0, 1] (Fb arity0 clauses0 x8 x7 r13) (Ii arity0 clauses0 x8 x7 r13) h (fun s o h => P4 s o h) (by rfl) (fun _ => rfl) ?_
  rintro q20_10 h
  try dsimp only at h
  refine Br.ob h (fun p21 h => ?_) (fun p21 h => ?_)
  ·refine Cells.lit rfl rfl <| BslQ.o (slr true 1 Ae) [r13] (by exact fun _ => ⟨rfl, rfl⟩) (by first | rfl | (simp only [Aa, V.fz, fzL, V.up, upL, Ab, Ac, Ad, slr, List.cons_append, List.nil_append]; done) | simp [Aa, V.fz, fzL, V.up, upL, Ab, Ac, Ad, slr]) <| NoOwn.own rfl <| Kid.lit rfl rfl <| Kid.lit rfl rfl <| SetKids.lit rfl <| AppQ.o (m := 1) (slr true 1 Ae) (by exact fun _ => ⟨rfl, rfl⟩) (x7.Tuples) ([r13]) (by rfl) (by rfl) h fun h => SetKids.lit rfl <| Ask.o h fun p22 h => ?_
   cases h; exact ⟨rfl, rfl⟩
  refine Ask.o h fun p23 h => ?_
  cases h; exact ⟨rfl, rfl⟩
 cases h; exact ⟨rfl, rfl⟩
noncomputable def Df (arity0 : Int) (clauses0 : (List (List Int))) : Option (SRelation × Bool) :=
 (((Fh (arity0) ((1 : Int)) ((3 : Int))).bind fun r1 =>
 if (r1) = true then
 if (↑clauses0.length : Int) > (30 : Int) then
 some (.inl ())
 else
 some (.inr ())
 else
 some (.inl ()) : Option (Unit ⊕ Unit))).bind fun t => match t with
 | (.inl _) => (some ({ Arity := (0 : Int), Tuples := Ap (List Int) }, false))
 | (.inr _) => ((Al (Bf arity0 clauses0) (0 : Int)).bind fun t => match t with
 | (.inl _) => (some ({ Arity := (0 : Int), Tuples := Ap (List Int) }, false))
 | (.inr _) => ((Al (Bm arity0 clauses0) ((0 : Int), { Arity := arity0, Tuples := Ap (List Int) })).bind fun q24_7 =>
 some (q24_7, true)))
theorem Tp {arity0 : Int} {clauses0 : (List (List Int))} {v : (SRelation × Bool)} (h : Df arity0 clauses0 = some v) : Ret Try.prog Gr [Ae arity0, (slr false 1 (slr false 1 Ae)) clauses0] ((fun r => V.tup [(Ah true) r.1, V.bool r.2]) v) := by
 refine A7 Tk (Nat.le_of_ble_eq_true rfl) ?_
 unfold Df at h
 refine CutQ.o (fun t : (Unit ⊕ Unit) => match t with | (.inl s) => (Ex.ret, [5, 4], [(5, A.val (V.bool (false))), (4, A.val ((rP true (Ah true)) ({ Arity := (0 : Int), Tuples := Ap (List Int) })))]) | (.inr s) => (Ex.normal, [4, 0, 1], [(4, A.val ((rP true (Ah true)) ({ Arity := (0 : Int), Tuples := Ap (List Int) }))), (0, A.val (Ae (arity0))), (1, A.val ((slr false 1 (slr false 1 Ae)) (clauses0)))])) h ?_ ?_
 ·intro t h
  refine CallQ.o V.bool (by rfl) h (fun r h => K1 h) (fun r1 h => ?_)
  refine Br.flip <| Br.ob h (fun p2 h => ?_) (fun p2 h => ?_)
  ·refine Br.no <| Len.map <| Br.no <| Br.no <| Br.od h (fun p3 h => ?_) (fun p3 h => ?_)
   ·refine SetKids.lit rfl ?_
    cases h; exact ⟨rfl, rfl⟩
   cases h; exact ⟨rfl, rfl⟩
  refine Br.yes <| Br.yes <| Br.yes <| Br.yes <| SetKids.lit rfl ?_
  cases h; exact ⟨rfl, rfl⟩
 rintro (⟨⟩ | ⟨⟩) h
 ·try dsimp only at h
  cases h; exact (by rfl)
 try dsimp only at h
 refine LoopQ.o [6, 4, 0, 1] (Fd arity0 clauses0) (Iq arity0 clauses0) h (fun s o h => P7 s o h) (by rfl) (by rintro (_ | _) <;> rfl) ?_
 rintro (⟨⟩ | ⟨⟩) h
 ·try dsimp only at h
  cases h; exact (by rfl)
 try dsimp only at h
 refine BslQ.o (slr true 1 Ae) (Ap (List Int)) (by exact fun _ => ⟨rfl, rfl⟩) (by first | rfl | (simp only [Aa, V.fz, fzL, V.up, upL, Ab, Ac, Ad, slr, List.cons_append, List.nil_append]; done) | simp [Aa, V.fz, fzL, V.up, upL, Ab, Ac, Ad, slr]) <| SetKids.lit rfl <| LoopQ.o [8, 7, 4, 0, 1] (E9 arity0 clauses0) (Iy arity0 clauses0) h (fun s o h => Pz s o h) (by rfl) (fun _ => rfl) ?_
 rintro q24_7 h
 try dsimp only at h
 refine Cells.lit rfl rfl <| SetKids.lit rfl ?_
 cases h; exact (by rfl)
noncomputable def C5 (c0 : Sl1Cur) (n0 : Int) : Option (Bool × Sl1Cur) :=
 (Bb (c0) (n0)).bind fun (r1, u2) =>
 some (r1 == (0 : Int), u2)
theorem M4 {c0 : Sl1Cur} {n0 : Int} {v : (Bool × Sl1Cur)} (h : C5 c0 n0 = some v) : Sr Try.prog Hb [(rP true (Am false)) c0, Ae n0] (V.bool v.1) 0 ((rP true (Am false)) v.2) := by
 refine Yv Afc (Nat.le_of_ble_eq_true rfl) ?_
 unfold C5 at h
 refine CallQ.io Ae (rP true (Am false)) (by rfl) rfl (fun _ => rfl) (fun _ => ⟨rfl, rfl⟩) rfl h (fun r h => Bz h) (fun r1 u2 h => ?_)
 cases h; exact ⟨(by rfl), (by rfl)⟩
end Go.Proofs.Ytjcekpmojnnmbaa.Ax
