/-
 What the functions compute, as functions on plain data, and that the program does compute it; written by program.
-/
import Derived.Test.YtjcekpmojnnmbaaCode
import Derived.Test.YtjcekpmojnnmbaaG1
import Derived.Test.YtjcekpmojnnmbaaG2
import Derived.Test.YtjcekpmojnnmbaaG4
import Derived.Test.YtjcekpmojnnmbaaG6
import Derived.Test.YtjcekpmojnnmbaaG7
namespace Go.Proofs.Ytjcekpmojnnmbaa.Ax
open Go
set_option maxRecDepth 100000
set_option maxHeartbeats 4000000
noncomputable def F5 (n0 : Int) (r0 : SRelation) : Int → Option (Int ⊕ (Unit ⊕ Unit)) := fun x5 =>
 if x5 < (↑r0.Tuples.length : Int) then
 ask ((0 : Int) ≤ x5 ∧ x5 < (↑r0.Tuples.length : Int)) <|
 (Lj (n0) (r0.Arity) (nth r0.Tuples x5.toNat)).bind fun r8 =>
 if (r8) = true then
 if x5 > (0 : Int) then
 ask (InI (x5 - (1 : Int))) <|
 ask ((0 : Int) ≤ x5 - (1 : Int) ∧ x5 - (1 : Int) < (↑r0.Tuples.length : Int)) <|
 ask ((0 : Int) ≤ x5 ∧ x5 < (↑r0.Tuples.length : Int)) <|
 (Gi (nth r0.Tuples (x5 - (1 : Int)).toNat) (nth r0.Tuples x5.toNat)).bind fun r14 =>
 if (r14) = true then
 ask (InI (x5 + (1 : Int))) <|
 some (.inl (x5 + (1 : Int)))
 else
 some (.inr (.inl ()))
 else
 ask (InI (x5 + (1 : Int))) <|
 some (.inl (x5 + (1 : Int)))
 else
 some (.inr (.inl ()))
 else
 some (.inr (.inr ()))
def La (n0 : Int) (r0 : SRelation) : Int → St := fun s => [(5, A.val (Ae s)), (3, A.val ((rP true (Ah false)) (r0))), (0, A.val (Ae (n0)))]
def Rl (_n0 : Int) (_r0 : SRelation) : (Unit ⊕ Unit) → Tgt
 | (.inl _s) => (Ex.ret, [4], [(4, A.val (V.bool (false)))])
 | (.inr _s) => ((Ex.exit 0), [], [])
theorem Abs {n0 : Int} {r0 : SRelation} (x5 : Int) (o : Int ⊕ (Unit ⊕ Unit)) (h : F5 n0 r0 x5 = some o) : vc Try.prog R4 (C6 [5, 3, 0] (La n0 r0) (Rl n0 r0) o) (La n0 r0 x5) := by
 unfold F5 at h
 try dsimp only at h
 refine Cells.lit rfl rfl <| Len.map <| Br.od h (fun p6 h => ?_) (fun p6 h => ?_)
 ·refine Cells.lit rfl rfl <| Cells.lit rfl rfl <| Len.map <| Ask.o h fun p7 h => Elem.o (by first | omega | (simp [A4] at * <;> omega)) <| CallP.o V.bool (by rfl) h (fun r h => Ais h) (fun r8 h => ?_)
  refine Br.flip <| Br.ob h (fun p9 h => ?_) (fun p9 h => ?_)
  ·refine Br.no <| Br.no <| Br.od h (fun p10 h => ?_) (fun p10 h => ?_)
   ·refine Br.yes <| Cells.lit rfl rfl <| Br.yes <| Br.yes <| Ask.o h fun p11 h => Br.yes <| Len.map <| Ask.o h fun p12 h => Elem.o (by first | omega | (simp [A4] at * <;> omega)) <| Br.yes <| Br.yes <| Br.yes <| Cells.lit rfl rfl <| Br.yes <| Br.yes <| Len.map <| Ask.o h fun p13 h => Elem.o (by first | omega | (simp [A4] at * <;> omega)) <| Br.yes <| Br.yes <| CallQ.o V.bool (by rfl) h (fun r h => Ti h) (fun r14 h => ?_)
    refine Br.yes <| Br.no <| Br.yes <| Br.no <| Br.flip <| Br.ob h (fun p15 h => ?_) (fun p15 h => ?_)
    ·refine Ask.o h fun p16 h => ?_
     cases h; exact ⟨rfl, rfl⟩
    cases h; exact ⟨rfl, rfl⟩
   refine Br.no <| Br.no <| Br.no <| Br.no <| Br.no <| Br.no <| Br.no <| Br.no <| Br.no <| Br.no <| Br.no <| Br.no <| Br.no <| Br.no <| Br.no <| Br.no <| Ask.o h fun p17 h => ?_
   cases h; exact ⟨rfl, rfl⟩
  refine Br.yes <| Br.yes <| Br.yes <| Br.yes <| Br.yes ?_
  cases h; exact ⟨rfl, rfl⟩
 cases h; exact ⟨rfl, rfl⟩
noncomputable def Fw (n0 : Int) (r0 : SRelation) : Option Bool :=
 (((Fh (r0.Arity) ((1 : Int)) ((3 : Int))).bind fun r1 =>
 if (r1) = true then
 (Gd (n0) (r0.Arity)).bind fun r3 =>
 if (↑r0.Tuples.length : Int) > r3 then
 some (.inl ())
 else
 some (.inr ())
 else
 some (.inl ()) : Option (Unit ⊕ Unit))).bind fun t => match t with
 | (.inl _) => (some false)
 | (.inr _) => ((Al (F5 n0 r0) (0 : Int)).bind fun t => match t with
 | (.inl _) => (some false)
 | (.inr _) => (some true))
theorem Q4 {n0 : Int} {r0 : SRelation} {v : Bool} (h : Fw n0 r0 = some v) : Ret Try.prog I8 [Ae n0, (Ah false) r0] (V.bool v) := by
 refine A7 Aih (Nat.le_of_ble_eq_true rfl) ?_
 unfold Fw at h
 refine CutQ.o (fun t : (Unit ⊕ Unit) => match t with | (.inl s) => (Ex.ret, [4], [(4, A.val (V.bool (false)))]) | (.inr s) => (Ex.normal, [3, 0], [(3, A.val ((rP true (Ah false)) (r0))), (0, A.val (Ae (n0)))])) h ?_ ?_
 ·intro t h
  refine Cells.lit rfl rfl <| CallP.o V.bool (by rfl) h (fun r h => K1 h) (fun r1 h => ?_)
  refine Br.flip <| Br.ob h (fun p2 h => ?_) (fun p2 h => ?_)
  ·refine Br.no <| Cells.lit rfl rfl <| Br.no <| Len.map <| Br.no <| Br.no <| Br.no <| Cells.lit rfl rfl <| Br.no <| CallP.o Ae (by rfl) h (fun r h => P6 h) (fun r3 h => ?_)
   refine Br.no <| Br.no <| Br.od h (fun p4 h => ?_) (fun p4 h => ?_)
   ·cases h; exact ⟨rfl, rfl⟩
   cases h; exact ⟨rfl, rfl⟩
  refine Br.yes <| Br.yes <| Br.yes <| Br.yes <| Br.yes <| Br.yes <| Br.yes <| Br.yes <| Br.yes ?_
  cases h; exact ⟨rfl, rfl⟩
 rintro (⟨⟩ | ⟨⟩) h
 ·try dsimp only at h
  cases h; exact (by rfl)
 try dsimp only at h
 refine LoopQ.o [5, 3, 0] (La n0 r0) (Rl n0 r0) h (fun s o h => Abs s o h) (by rfl) (by rintro (_ | _) <;> rfl) ?_
 rintro (⟨⟩ | ⟨⟩) h
 ·try dsimp only at h
  cases h; exact (by rfl)
 try dsimp only at h
 cases h; exact (by rfl)
noncomputable def Ed (r0 : SRelation) (r1 : List (List Int)) (x5 : Int) (_x3 : List (List Int)) : (Int × Bool) → Option ((Int × Bool) ⊕ Bool) := fun (x7, x6) =>
 ((ask ((0 : Int) ≤ x5 ∧ x5 < (↑r1.length : Int)) <|
 if x7 < (↑(nth r1 x5.toNat).length : Int) then
 if (x6) = true then
 some (.inl ())
 else
 some (.inr ())
 else
 some (.inr ()) : Option (Unit ⊕ Unit))).bind fun t => match t with
 | (.inl _) => (ask ((0 : Int) ≤ x5 ∧ x5 < (↑r1.length : Int)) <|
 ask (0 ≤ (0 : Int) ∧ (0 : Int) ≤ x7 ∧ x7 ≤ (((nth r1 x5.toNat).length : Nat) : Int)) <|
 (F8 (List.take (x7.toNat - Int.toNat (0 : Int)) (List.drop (Int.toNat (0 : Int)) (nth r1 x5.toNat)))).bind fun r10 =>
 ask ((0 : Int) ≤ x5 ∧ x5 < (↑r1.length : Int)) <|
 ask (InI (x7 + (1 : Int))) <|
 ask (0 ≤ x7 + (1 : Int) ∧ x7 + (1 : Int) ≤ (↑(nth r1 x5.toNat).length : Int) ∧ (↑(nth r1 x5.toNat).length : Int) ≤ (((nth r1 x5.toNat).length : Nat) : Int)) <|
 ask ((r10).length + (List.take ((↑(nth r1 x5.toNat).length : Int).toNat - (x7 + (1 : Int)).toNat) (List.drop (x7 + (1 : Int)).toNat (nth r1 x5.toNat))).length ≤ LIM) <|
 (Gk (r0) (r10 ++ List.take ((↑(nth r1 x5.toNat).length : Int).toNat - (x7 + (1 : Int)).toNat) (List.drop (x7 + (1 : Int)).toNat (nth r1 x5.toNat)))).bind fun r13 =>
 ask (InI (x7 + (1 : Int))) <|
 some (.inl (x7 + (1 : Int), !r13)))
 | (.inr _) => (some (.inr x6))
def Kn (r0 : SRelation) (r1 : List (List Int)) (x5 : Int) (x3 : List (List Int)) : (Int × Bool) → St := fun s => [(7, A.val (Ae s.1)), (6, A.val (V.bool s.2)), (5, A.val (Ae (x5))), (4, A.val ((slr false 1 (slr false 1 Ae)) (r1))), (3, A.val ((slr true 1 (slr false 1 Ae)) (x3))), (1, A.val ((rP true (Ah false)) (r0)))]
def Qp (r0 : SRelation) (r1 : List (List Int)) (x5 : Int) (x3 : List (List Int)) : Bool → Tgt
 | s => ((Ex.exit 2), [6, 5, 4, 3, 1], [(6, A.val (V.bool s)), (5, A.val (Ae (x5))), (4, A.val ((slr false 1 (slr false 1 Ae)) (r1))), (3, A.val ((slr true 1 (slr false 1 Ae)) (x3))), (1, A.val ((rP true (Ah false)) (r0)))])
theorem Abh {r0 : SRelation} {r1 : List (List Int)} {x5 : Int} {x3 : List (List Int)} (s : (Int × Bool)) (o : (Int × Bool) ⊕ Bool) (h : Ed r0 r1 x5 x3 s = some o) : vc Try.prog Rd (C6 [7, 6, 5, 4, 3, 1] (Kn r0 r1 x5 x3) (Qp r0 r1 x5 x3) o) (Kn r0 r1 x5 x3 s) := by
 obtain ⟨x7, x6⟩ := s
 unfold Ed at h
 try dsimp only at h
 refine CutQ.o (fun t : (Unit ⊕ Unit) => match t with | (.inl s) => (Ex.normal, [7, 5, 4, 3, 1], [(7, A.val (Ae (x7))), (5, A.val (Ae (x5))), (4, A.val ((slr false 1 (slr false 1 Ae)) (r1))), (3, A.val ((slr true 1 (slr false 1 Ae)) (x3))), (1, A.val ((rP true (Ah false)) (r0)))]) | (.inr s) => ((Ex.exit 2), [6, 5, 4, 3, 1], [(6, A.val (V.bool (x6))), (5, A.val (Ae (x5))), (4, A.val ((slr false 1 (slr false 1 Ae)) (r1))), (3, A.val ((slr true 1 (slr false 1 Ae)) (x3))), (1, A.val ((rP true (Ah false)) (r0)))])) h ?_ ?_
 ·intro t h
  refine Len.map <| Ask.o h fun p5 h => Elem.o (by first | omega | (simp [A4] at * <;> omega)) <| Len.map <| Br.od h (fun p6 h => ?_) (fun p6 h => ?_)
  ·refine Br.yes <| Br.ob h (fun p7 h => ?_) (fun p7 h => ?_)
   ·cases h; exact ⟨rfl, rfl⟩
   cases h; exact ⟨rfl, rfl⟩
  refine Br.no <| Br.no ?_
  cases h; exact ⟨rfl, rfl⟩
 rintro (⟨⟩ | ⟨⟩) h
 ·try dsimp only at h
  refine Cells.lit rfl rfl <| Len.map <| Ask.o h fun p9 h => Elem.o (by first | omega | (simp [A4] at * <;> omega)) <| SlcQ.o Ae h fun h => CallP.o (slr true 1 Ae) (by rfl) h (fun r h => Qc h) (fun r10 h => ?_)
  refine Len.map <| Ask.o h fun p11 h => Elem.o (by first | omega | (simp [A4] at * <;> omega)) <| Ask.o h fun p12 h => Len.map <| SlcQ.o Ae h fun h => AppQ.o (m := 1) Ae (by exact fun _ => ⟨rfl, rfl⟩) (r10) (List.take ((↑(nth r1 x5.toNat).length : Int).toNat - (x7 + (1 : Int)).toNat) (List.drop (x7 + (1 : Int)).toNat (nth r1 x5.toNat))) (by rfl) (by rfl) h fun h => CallQ.rd V.bool (by first | rfl | simp only [V.fz, fzL, Ab, slr] | simp [Aa, V.fz, fzL, V.up, upL, Ab, Ac, Ad, slr]) (fun _ => rfl) h (fun r h => Zw h) (fun r13 h => ?_)
  refine Ask.o h fun p14 h => ?_
  cases h; exact ⟨rfl, rfl⟩
 try dsimp only at h
 cases h; exact ⟨rfl, rfl⟩
noncomputable def Dj (r0 : SRelation) (r1 : List (List Int)) : (Int × (List (List Int))) → Option ((Int × (List (List Int))) ⊕ (List (List Int))) := fun (x5, x3) =>
 if x5 < (↑r1.length : Int) then
 ask ((0 : Int) ≤ x5 ∧ x5 < (↑r1.length : Int)) <|
 (Gk (r0) (nth r1 x5.toNat)).bind fun r4 =>
 (Al (Ed r0 r1 x5 x3) ((0 : Int), r4)).bind fun q15_6 =>
 if (q15_6) = true then
 ask ((0 : Int) ≤ x5 ∧ x5 < (↑r1.length : Int)) <|
 ask ((x3).length + ([nth r1 x5.toNat]).length ≤ LIM) <|
 ask (InI (x5 + (1 : Int))) <|
 some (.inl (x5 + (1 : Int), x3 ++ [nth r1 x5.toNat]))
 else
 ask (InI (x5 + (1 : Int))) <|
 some (.inl (x5 + (1 : Int), x3))
 else
 some (.inr x3)
def Kw (r0 : SRelation) (r1 : List (List Int)) : (Int × (List (List Int))) → St := fun s => [(5, A.val (Ae s.1)), (4, A.val ((slr false 1 (slr false 1 Ae)) (r1))), (3, A.val ((slr true 1 (slr false 1 Ae)) s.2)), (1, A.val ((rP true (Ah false)) (r0)))]
def Rc (_r0 : SRelation) (_r1 : List (List Int)) : (List (List Int)) → Tgt
 | s => ((Ex.exit 0), [3], [(3, A.val ((slr true 1 (slr false 1 Ae)) s))])
theorem Aa6 {r0 : SRelation} {r1 : List (List Int)} (s : (Int × (List (List Int)))) (o : (Int × (List (List Int))) ⊕ (List (List Int))) (h : Dj r0 r1 s = some o) : vc Try.prog Qj (C6 [5, 4, 3, 1] (Kw r0 r1) (Rc r0 r1) o) (Kw r0 r1 s) := by
 obtain ⟨x5, x3⟩ := s
 unfold Dj at h
 try dsimp only at h
 refine Len.map <| Br.od h (fun p2 h => ?_) (fun p2 h => ?_)
 ·refine Cells.lit rfl rfl <| Len.map <| Ask.o h fun p3 h => Elem.o (by first | omega | (simp [A4] at * <;> omega)) <| CallQ.o V.bool (by rfl) h (fun r h => Zw h) (fun r4 h => ?_)
  refine LoopQ.o [7, 6, 5, 4, 3, 1] (Kn r0 r1 x5 x3) (Qp r0 r1 x5 x3) h (fun s o h => Abh s o h) (by rfl) (fun _ => rfl) ?_
  rintro q15_6 h
  try dsimp only at h
  refine Br.ob h (fun p16 h => ?_) (fun p16 h => ?_)
  ·refine Len.map <| Ask.o h fun p17 h => Elem.o (by first | omega | (simp [A4] at * <;> omega)) <| BslQ.o (slr false 1 Ae) ([nth r1 x5.toNat]) (by exact fun _ => ⟨rfl, rfl⟩) (by first | rfl | (simp only [Aa, V.fz, fzL, V.up, upL, Ab, Ac, Ad, slr, List.cons_append, List.nil_append]; done) | simp [Aa, V.fz, fzL, V.up, upL, Ab, Ac, Ad, slr]) <| NoOwn.o (fun _ => rfl) <| AppQ.o (m := 1) (slr false 1 Ae) (by exact fun _ => ⟨rfl, rfl⟩) (x3) ([nth r1 x5.toNat]) (by rfl) (by rfl) h fun h => Ask.o h fun p18 h => ?_
   cases h; exact ⟨rfl, rfl⟩
  refine Ask.o h fun p19 h => ?_
  cases h; exact ⟨rfl, rfl⟩
 cases h; exact ⟨rfl, rfl⟩
noncomputable def F4 (r0 : SRelation) : Option (List (List Int)) :=
 (Em (r0.Arity)).bind fun r1 =>
 (Al (Dj r0 r1) ((0 : Int), Ap (List Int))).bind fun q20_3 =>
 some q20_3
theorem V5 {r0 : SRelation} {v : (List (List Int))} (h : F4 r0 = some v) : Ret Try.prog Kk [(Ah false) r0] ((slr true 1 (slr false 1 Ae)) v) := by
 refine A7 Afx (Nat.le_of_ble_eq_true rfl) ?_
 unfold F4 at h
 refine BslQ.o (slr true 1 Ae) (Ap (List Int)) (by exact fun _ => ⟨rfl, rfl⟩) (by first | rfl | (simp only [Aa, V.fz, fzL, V.up, upL, Ab, Ac, Ad, slr, List.cons_append, List.nil_append]; done) | simp [Aa, V.fz, fzL, V.up, upL, Ab, Ac, Ad, slr]) <| Cells.lit rfl rfl <| CallQ.o (slr false 1 (slr false 1 Ae)) (by rfl) h (fun r h => Ret.frz (Ru h) (by first | rfl | simp only [V.fz, Ab, slr] | simp [Aa, V.fz, fzL, V.up, upL, Ab, Ac, Ad, slr])) (fun r1 h => ?_)
 refine LoopQ.o [5, 4, 3, 1] (Kw r0 r1) (Rc r0 r1) h (fun s o h => Aa6 s o h) (by rfl) (fun _ => rfl) ?_
 rintro q20_3 h
 try dsimp only at h
 cases h; exact (by rfl)
noncomputable def Lo (n0 : Int) (op0 : SOp) (r0 : SRelation) : Option Bool :=
 (Hg (n0) (r0)).bind fun r1 =>
 if (r1) = true then
 (N5 (op0) (n0)).bind fun r3 =>
 if (r3) = true then
 (Dh ((↑r0.Tuples.length : Int)) (op0.Arity)).bind fun r5 =>
 some (decide (r5 ≤ (70000 : Int)))
 else
 some false
 else
 some false
theorem Ajj {n0 : Int} {op0 : SOp} {r0 : SRelation} {v : Bool} (h : Lo n0 op0 r0 = some v) : Ret Try.prog Rb [Ae n0, (Ho false) op0, (Ah false) r0] (V.bool v) := by
 refine A7 Aid (Nat.le_of_ble_eq_true rfl) ?_
 unfold Lo at h
 refine Cells.lit rfl rfl <| CallQ.o V.bool (by rfl) h (fun r h => Aa7 h) (fun r1 h => ?_)
 refine Br.ob h (fun p2 h => ?_) (fun p2 h => ?_)
 ·refine Cells.lit rfl rfl <| Br.yes <| Br.yes <| CallQ.o V.bool (by rfl) h (fun r h => Aq9 h) (fun r3 h => ?_)
  refine Br.yes <| Br.ob h (fun p4 h => ?_) (fun p4 h => ?_)
  ·refine Br.yes <| Cells.lit rfl rfl <| Br.yes <| Len.map <| Br.yes <| Br.yes <| Cells.lit rfl rfl <| Br.yes <| CallQ.o Ae (by rfl) h (fun r h => Lc h) (fun r5 h => ?_)
   refine Br.yes <| Br.yes ?_
   cases h; exact (by rfl)
  refine Br.no <| Br.no <| Br.no <| Br.no <| Br.no <| Br.no <| Br.no ?_
  cases h; exact (by rfl)
 refine Br.no <| Br.no <| Br.no <| Br.no <| Br.no <| Br.no <| Br.no <| Br.no <| Br.no <| Br.no <| Br.no ?_
 cases h; exact (by rfl)
end Go.Proofs.Ytjcekpmojnnmbaa.Ax
