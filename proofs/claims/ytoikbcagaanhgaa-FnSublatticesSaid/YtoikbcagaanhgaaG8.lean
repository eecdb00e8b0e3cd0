/-
 What the functions compute, as functions on plain data, and that the program does compute it; written by program.
-/
import Derived.Test.YtoikbcagaanhgaaCode
import Derived.Test.YtoikbcagaanhgaaG3
import Derived.Test.YtoikbcagaanhgaaG4
import Derived.Test.YtoikbcagaanhgaaG6
namespace Go.Proofs.Ytoikbcagaanhgaa.Ax
open Go
set_option maxRecDepth 100000
set_option maxHeartbeats 4000000
noncomputable def G2 (a0 : List SOp) (b0 : List SOp) : Int → Option (Int ⊕ (Unit ⊕ Unit)) := fun x5 =>
 if x5 < (↑a0.length : Int) then
 ask ((0 : Int) ≤ x5 ∧ x5 < (↑a0.length : Int)) <|
 ask ((0 : Int) ≤ x5 ∧ x5 < (↑b0.length : Int)) <|
 (T3 (nth a0 x5.toNat) (nth b0 x5.toNat)).bind fun r5 =>
 if (r5) = true then
 ask (InI (x5 + (1 : Int))) <|
 some (.inl (x5 + (1 : Int)))
 else
 some (.inr (.inl ()))
 else
 some (.inr (.inr ()))
def Tv (a0 : List SOp) (b0 : List SOp) : Int → St := fun s => [(5, A.val (Ab s)), (0, A.val ((slr false 2 (Dh false)) (a0))), (1, A.val ((slr false 2 (Dh false)) (b0)))]
def Ab8 (_a0 : List SOp) (_b0 : List SOp) : (Unit ⊕ Unit) → Tgt
 | (.inl _s) => (Ex.ret, [4], [(4, A.val (V.bool (false)))])
 | (.inr _s) => ((Ex.exit 0), [], [])
theorem Ao2 {a0 : List SOp} {b0 : List SOp} (x5 : Int) (o : Int ⊕ (Unit ⊕ Unit)) (h : G2 a0 b0 x5 = some o) : vc Try.prog Adg (Bp [5, 0, 1] (Tv a0 b0) (Ab8 a0 b0) o) (Tv a0 b0 x5) := by
 unfold G2 at h
 try dsimp only at h
 refine Len.map ?_
 refine Br.od h (fun p2 h => ?_) (fun p2 h => ?_)
 ·refine Len.map ?_
  refine Ask.o h fun p3 h => ?_
  refine Elem.o (by first | omega | (simp [Am] at *; omega)) ?_
  refine Len.map ?_
  refine Ask.o h fun p4 h => ?_
  refine Elem.o (by first | omega | (simp [Am] at *; omega)) ?_
  refine CallQ.o V.bool (by rfl) h (fun r h => Ax9 h) (fun r5 h => ?_)
  refine Br.flip ?_
  refine Br.ob h (fun p6 h => ?_) (fun p6 h => ?_)
  ·refine Ask.o h fun p7 h => ?_
   cases h; exact ⟨rfl, rfl⟩
  cases h; exact ⟨rfl, rfl⟩
 cases h; exact ⟨rfl, rfl⟩
noncomputable def Rt (a0 : (List SOp)) (b0 : (List SOp)) : Option Bool :=
 if (↑a0.length : Int) ≠ (↑b0.length : Int) then
 some false
 else
 (Ai (G2 a0 b0) (0 : Int)).bind fun t => match t with
 | (.inl _) => (some false)
 | (.inr _) => (some true)
theorem Aw0 {a0 : (List SOp)} {b0 : (List SOp)} {v : Bool} (h : Rt a0 b0 = some v) : Ret Try.prog Adm [(slr false 2 (Dh false)) a0, (slr false 2 (Dh false)) b0] (V.bool v) := by
 refine Av Avi (Nat.le_of_ble_eq_true rfl) ?_
 unfold Rt at h
 iterate 2 refine Len.map ?_
 refine Br.on h (fun p1 h => ?_) (fun p1 h => ?_)
 ·cases h; exact (by rfl)
 refine LoopQ.o [5, 0, 1] (Tv a0 b0) (Ab8 a0 b0) h (fun s o h => Ao2 s o h) (by first | rfl | simp [restrict, look, Ad, V.fz, fzL, V.up, upL, Ae, Af, Ah, slr]) (by rintro (_ | _) <;> rfl) ?_
 rintro (⟨⟩ | ⟨⟩) h
 ·try dsimp only at h
  cases h; exact (by rfl)
 try dsimp only at h
 cases h; exact (by rfl)
noncomputable def C3 (a0 : SAlgebra) : Int → Option (Int ⊕ (Unit ⊕ Unit)) := fun x22 =>
 if x22 < (↑a0.Ops.length : Int) then
 ask ((0 : Int) ≤ x22 ∧ x22 < (↑a0.Ops.length : Int)) <|
 (Ri (nth a0.Ops x22.toNat) (a0.Size)).bind fun r7 =>
 if (r7) = true then
 ask (InI (x22 + (1 : Int))) <|
 some (.inl (x22 + (1 : Int)))
 else
 some (.inr (.inl ()))
 else
 some (.inr (.inr ()))
def Ly (a0 : SAlgebra) : Int → St := fun s => [(22, A.val (Ab s)), (21, A.val (Ab ((↑a0.Ops.length : Int)))), (20, A.val ((slr false 2 (Dh false)) (a0.Ops))), (1, A.val ((rP true (Ap false)) (a0)))]
def So (_a0 : SAlgebra) : (Unit ⊕ Unit) → Tgt
 | (.inl _s) => (Ex.ret, [2], [(2, A.val (V.bool (false)))])
 | (.inr _s) => ((Ex.exit 0), [], [])
theorem Aem {a0 : SAlgebra} (x22 : Int) (o : Int ⊕ (Unit ⊕ Unit)) (h : C3 a0 x22 = some o) : vc Try.prog Ss (Bp [22, 21, 20, 1] (Ly a0) (So a0) o) (Ly a0 x22) := by
 unfold C3 at h
 try dsimp only at h
 refine Br.od h (fun p5 h => ?_) (fun p5 h => ?_)
 ·refine Len.map ?_
  refine Ask.o h fun p6 h => ?_
  refine Elem.o (by first | omega | (simp [Am] at *; omega)) ?_
  refine SetKids.lit rfl ?_
  iterate 2 refine Cells.lit rfl rfl ?_
  refine CallQ.o V.bool (by rfl) h (fun r h => Aw5 h) (fun r7 h => ?_)
  refine Br.flip ?_
  refine Br.ob h (fun p8 h => ?_) (fun p8 h => ?_)
  ·refine Ask.o h fun p9 h => ?_
   cases h; exact ⟨rfl, rfl⟩
  cases h; exact ⟨rfl, rfl⟩
 cases h; exact ⟨rfl, rfl⟩
noncomputable def Ik (a0 : SAlgebra) : Option Bool :=
 ((if a0.Size < (1 : Int) then
 some (.inl ())
 else
 if a0.Size > (8 : Int) then
 some (.inl ())
 else
 if (↑a0.Ops.length : Int) > (4 : Int) then
 some (.inl ())
 else
 some (.inr ()) : Option (Unit ⊕ Unit))).bind fun t => match t with
 | (.inl _) => (some false)
 | (.inr _) => ((Ai (C3 a0) (0 : Int)).bind fun t => match t with
 | (.inl _) => (some false)
 | (.inr _) => (some true))
theorem Akb {a0 : SAlgebra} {v : Bool} (h : Ik a0 = some v) : Ret Try.prog P5 [(Ap false) a0] (V.bool v) := by
 refine Av Ajr (Nat.le_of_ble_eq_true rfl) ?_
 unfold Ik at h
 refine CutQ.o (fun t : (Unit ⊕ Unit) => match t with | (.inl s) => (Ex.ret, [2], [(2, A.val (V.bool (false)))]) | (.inr s) => (Ex.normal, [1], [(1, A.val ((rP true (Ap false)) (a0)))])) h ?_ ?_
 ·intro t h
  refine Cells.lit rfl rfl ?_
  refine Br.od h (fun p1 h => ?_) (fun p1 h => ?_)
  ·refine Br.yes ?_
   iterate 8 refine Br.yes ?_
   cases h; exact ⟨rfl, rfl⟩
  refine Br.no ?_
  refine Cells.lit rfl rfl ?_
  iterate 2 refine Br.no ?_
  refine Br.od h (fun p2 h => ?_) (fun p2 h => ?_)
  ·refine Br.yes ?_
   iterate 4 refine Br.yes ?_
   cases h; exact ⟨rfl, rfl⟩
  refine Br.no ?_
  refine Cells.lit rfl rfl ?_
  refine Br.no ?_
  refine Len.map ?_
  iterate 2 refine Br.no ?_
  refine Br.od h (fun p3 h => ?_) (fun p3 h => ?_)
  ·cases h; exact ⟨rfl, rfl⟩
  cases h; exact ⟨rfl, rfl⟩
 rintro (⟨⟩ | ⟨⟩) h
 ·try dsimp only at h
  cases h; exact (by rfl)
 try dsimp only at h
 refine Cells.lit rfl rfl ?_
 refine Len.map ?_
 refine LoopQ.o [22, 21, 20, 1] (Ly a0) (So a0) h (fun s o h => Aem s o h) (by first | rfl | simp [restrict, look, Ad, V.fz, fzL, V.up, upL, Ae, Af, Ah, slr]) (by rintro (_ | _) <;> rfl) ?_
 rintro (⟨⟩ | ⟨⟩) h
 ·try dsimp only at h
  cases h; exact (by rfl)
 try dsimp only at h
 cases h; exact (by rfl)
noncomputable def Ft (p0 : SPoset) (x4 : Int) (_x3 : SPoset) : (Int × (List Int)) → Option ((Int × (List Int)) ⊕ (List Int)) := fun (x6, x5) =>
 if x6 < (↑p0.Below.length : Int) then
 (Gk (p0) (x4) (x6)).bind fun r3 =>
 if (r3) = true then
 ask ((x5).length + ([x6]).length ≤ LIM) <|
 ask (InI (x6 + (1 : Int))) <|
 some (.inl (x6 + (1 : Int), x5 ++ [x6]))
 else
 ask (InI (x6 + (1 : Int))) <|
 some (.inl (x6 + (1 : Int), x5))
 else
 some (.inr x5)
def N2 (p0 : SPoset) (x4 : Int) (x3 : SPoset) : (Int × (List Int)) → St := fun s => [(6, A.val (Ab s.1)), (5, A.val ((slr true 1 Ab) s.2)), (4, A.val (Ab (x4))), (3, A.val ((rP true (Ac true)) (x3))), (2, A.val ((rP true (Ac true)) ({ Below := Ao (List Int) }))), (1, A.val ((rP true (Ac false)) (p0)))]
def Wq (p0 : SPoset) (x4 : Int) (x3 : SPoset) : (List Int) → Tgt
 | s => ((Ex.exit 2), [5, 4, 3, 2, 1], [(5, A.val ((slr true 1 Ab) s)), (4, A.val (Ab (x4))), (3, A.val ((rP true (Ac true)) (x3))), (2, A.val ((rP true (Ac true)) ({ Below := Ao (List Int) }))), (1, A.val ((rP true (Ac false)) (p0)))])
theorem Aio {p0 : SPoset} {x4 : Int} {x3 : SPoset} (s : (Int × (List Int))) (o : (Int × (List Int)) ⊕ (List Int)) (h : Ft p0 x4 x3 s = some o) : vc Try.prog Vb (Bp [6, 5, 4, 3, 2, 1] (N2 p0 x4 x3) (Wq p0 x4 x3) o) (N2 p0 x4 x3 s) := by
 obtain ⟨x6, x5⟩ := s
 unfold Ft at h
 try dsimp only at h
 refine Cells.lit rfl rfl ?_
 refine Len.map ?_
 refine Br.od h (fun p2 h => ?_) (fun p2 h => ?_)
 ·refine Cells.lit rfl rfl ?_
  refine CallQ.o V.bool (by rfl) h (fun r h => Qo h) (fun r3 h => ?_)
  refine Br.ob h (fun p4 h => ?_) (fun p4 h => ?_)
  ·refine BslQ.o Ab [x6] (by exact fun _ => ⟨rfl, rfl⟩) (by rfl) ?_
   refine NoOwn.o (fun _ => rfl) ?_
   refine AppQ.o (m := 1) Ab (by exact fun _ => ⟨rfl, rfl⟩) (x5) ([x6]) (by rfl) (by rfl) h fun h => ?_
   refine Ask.o h fun p5 h => ?_
   cases h; exact ⟨rfl, rfl⟩
  refine Ask.o h fun p6 h => ?_
  cases h; exact ⟨rfl, rfl⟩
 cases h; exact ⟨rfl, rfl⟩
noncomputable def Fr (p0 : SPoset) : (Int × SPoset) → Option ((Int × SPoset) ⊕ SPoset) := fun (x4, x3) =>
 if x4 < (↑p0.Below.length : Int) then
 (Ai (Ft p0 x4 x3) ((0 : Int), Ao Int)).bind fun q7_5 =>
 ask ((x3.Below).length + ([q7_5]).length ≤ LIM) <|
 ask (InI (x4 + (1 : Int))) <|
 some (.inl (x4 + (1 : Int), { Below := x3.Below ++ [q7_5] }))
 else
 some (.inr x3)
def Nu (p0 : SPoset) : (Int × SPoset) → St := fun s => [(4, A.val (Ab s.1)), (3, A.val ((rP true (Ac true)) s.2)), (2, A.val ((rP true (Ac true)) ({ Below := Ao (List Int) }))), (1, A.val ((rP true (Ac false)) (p0)))]
def Wm (_p0 : SPoset) : SPoset → Tgt
 | s => ((Ex.exit 0), [3, 2], [(3, A.val ((rP true (Ac true)) s)), (2, A.val ((rP true (Ac true)) ({ Below := Ao (List Int) })))])
theorem Aig {p0 : SPoset} (s : (Int × SPoset)) (o : (Int × SPoset) ⊕ SPoset) (h : Fr p0 s = some o) : vc Try.prog Vp (Bp [4, 3, 2, 1] (Nu p0) (Wm p0) o) (Nu p0 s) := by
 obtain ⟨x4, x3⟩ := s
 unfold Fr at h
 try dsimp only at h
 refine Cells.lit rfl rfl ?_
 refine Len.map ?_
 refine Br.od h (fun p1 h => ?_) (fun p1 h => ?_)
 ·refine BslQ.o Ab (Ao Int) (by exact fun _ => ⟨rfl, rfl⟩) (by rfl) ?_
  refine LoopQ.o [6, 5, 4, 3, 2, 1] (N2 p0 x4 x3) (Wq p0 x4 x3) h (fun s o h => Aio s o h) (by first | rfl | simp [restrict, look, Ad, V.fz, fzL, V.up, upL, Ae, Af, Ah, slr]) (fun _ => rfl) ?_
  rintro q7_5 h
  try dsimp only at h
  refine Cells.lit rfl rfl ?_
  refine BslQ.o (slr true 1 Ab) [q7_5] (by exact fun _ => ⟨rfl, rfl⟩) (by rfl) ?_
  refine NoOwn.own rfl ?_
  iterate 2 refine Kid.lit rfl rfl ?_
  refine SetKids.lit rfl ?_
  refine AppQ.o (m := 1) (slr true 1 Ab) (by exact fun _ => ⟨rfl, rfl⟩) (x3.Below) ([q7_5]) (by rfl) (by rfl) h fun h => ?_
  refine SetKids.lit rfl ?_
  refine Ask.o h fun p8 h => ?_
  cases h; exact ⟨rfl, rfl⟩
 cases h; exact ⟨rfl, rfl⟩
noncomputable def Gq (p0 : SPoset) : Option SPoset :=
 (Ai (Fr p0) ((0 : Int), { Below := Ao (List Int) })).bind fun q9_3 =>
 some q9_3
theorem Uq {p0 : SPoset} {v : SPoset} (h : Gq p0 = some v) : Ret Try.prog K2 [(Ac false) p0] ((Ac true) v) := by
 refine Av Anr (Nat.le_of_ble_eq_true rfl) ?_
 unfold Gq at h
 refine BslQ.o (slr true 1 Ab) (Ao (List Int)) (by exact fun _ => ⟨rfl, rfl⟩) (by rfl) ?_
 refine SetKids.lit rfl ?_
 refine LoopQ.o [4, 3, 2, 1] (Nu p0) (Wm p0) h (fun s o h => Aig s o h) (by first | rfl | simp [restrict, look, Ad, V.fz, fzL, V.up, upL, Ae, Af, Ah, slr]) (fun _ => rfl) ?_
 rintro q9_3 h
 try dsimp only at h
 refine Cells.lit rfl rfl ?_
 refine SetKids.lit rfl ?_
 cases h; exact (by rfl)
noncomputable def B4 (l0 : Slattice) (list0 : (List Int)) : Option Bool :=
 if (↑list0.length : Int) > (0 : Int) then
 (Dt (l0.order) (list0)).bind fun r2 =>
 if (r2) = true then
 (I5 (list0)).bind fun r4 =>
 if (r4) = true then
 (Cg (l0) (list0)).bind fun r6 =>
 some ((↑r6.length : Int) == (↑list0.length : Int))
 else
 some false
 else
 some false
 else
 some false
theorem J6 {l0 : Slattice} {list0 : (List Int)} {v : Bool} (h : B4 l0 list0 = some v) : Ret Try.prog D2 [(rP false (Bb false)) l0, (slr false 1 Ab) list0] (V.bool v) := by
 refine Av S5 (Nat.le_of_ble_eq_true rfl) ?_
 unfold B4 at h
 refine Len.map ?_
 refine Br.od h (fun p1 h => ?_) (fun p1 h => ?_)
 ·refine Br.yes ?_
  iterate 4 refine Br.yes ?_
  refine CallQ.o V.bool (by rfl) h (fun r h => P1 h) (fun r2 h => ?_)
  refine Br.yes ?_
  refine Br.ob h (fun p3 h => ?_) (fun p3 h => ?_)
  ·refine Br.yes ?_
   refine CallQ.o V.bool (by rfl) h (fun r h => Zs h) (fun r4 h => ?_)
   refine Br.yes ?_
   refine Br.ob h (fun p5 h => ?_) (fun p5 h => ?_)
   ·refine Br.yes ?_
    refine Br.yes ?_
    refine CallQ.o (slr true 1 Ab) (by rfl) h (fun r h => L4 h) (fun r6 h => ?_)
    refine Br.yes ?_
    refine Len.map ?_
    iterate 2 refine Br.yes ?_
    refine Len.map ?_
    iterate 2 refine Br.yes ?_
    cases h; exact (by rfl)
   iterate 7 refine Br.no ?_
   cases h; exact (by rfl)
  iterate 10 refine Br.no ?_
  cases h; exact (by rfl)
 iterate 17 refine Br.no ?_
 cases h; exact (by rfl)
noncomputable def Fc (l0 : List Int) (n0 : Int) : (Int × (List Bool)) → Option ((Int × (List Bool)) ⊕ (Unit ⊕ Unit)) := fun (x6, x5) =>
 if x6 < n0 then
 ask ((0 : Int) ≤ x6 ∧ x6 < (↑l0.length : Int)) <|
 ask ((0 : Int) ≤ nth l0 x6.toNat ∧ nth l0 x6.toNat < (↑x5.length : Int)) <|
 if (nth x5 (nth l0 x6.toNat).toNat) = true then
 some (.inr (.inl ()))
 else
 ask ((0 : Int) ≤ x6 ∧ x6 < (↑l0.length : Int)) <|
 ask ((0 : Int) ≤ nth l0 x6.toNat ∧ nth l0 x6.toNat < (↑x5.length : Int)) <|
 ask (InI (x6 + (1 : Int))) <|
 some (.inl (x6 + (1 : Int), x5.set (nth l0 x6.toNat).toNat true))
 else
 some (.inr (.inr ()))
def P4 (l0 : List Int) (n0 : Int) : (Int × (List Bool)) → St := fun s => [(6, A.val (Ab s.1)), (5, A.val ((slr true 1 V.bool) s.2)), (0, A.val ((slr false 1 Ab) (l0))), (1, A.val (Ab (n0)))]
def Xx (_l0 : List Int) (_n0 : Int) : (Unit ⊕ Unit) → Tgt
 | (.inl _s) => (Ex.ret, [4], [(4, A.val (V.bool (false)))])
 | (.inr _s) => ((Ex.exit 0), [], [])
theorem Aj5 {l0 : List Int} {n0 : Int} (s : (Int × (List Bool))) (o : (Int × (List Bool)) ⊕ (Unit ⊕ Unit)) (h : Fc l0 n0 s = some o) : vc Try.prog Yp (Bp [6, 5, 0, 1] (P4 l0 n0) (Xx l0 n0) o) (P4 l0 n0 s) := by
 obtain ⟨x6, x5⟩ := s
 unfold Fc at h
 try dsimp only at h
 refine Br.od h (fun p6 h => ?_) (fun p6 h => ?_)
 ·refine Len.map ?_
  refine Ask.o h fun p7 h => ?_
  refine Elem.o (by first | omega | (simp [Am] at *; omega)) ?_
  refine Len.map ?_
  refine Ask.o h fun p8 h => ?_
  refine Cells.one (fun _ => ⟨rfl, rfl⟩) (by first | omega | (simp [Am] at *; omega)) ?_
  refine Br.ob h (fun p9 h => ?_) (fun p9 h => ?_)
  ·cases h; exact ⟨rfl, rfl⟩
  refine Len.map ?_
  refine Ask.o h fun p10 h => ?_
  refine Elem.o (by first | omega | (simp [Am] at *; omega)) ?_
  refine Len.map ?_
  refine Ask.o h fun p11 h => ?_
  refine SetKids.one (fun _ => ⟨rfl, rfl⟩) (true) (by rfl) (by first | omega | (simp [Am] at *; omega)) ?_
  refine Ask.o h fun p12 h => ?_
  cases h; exact ⟨rfl, rfl⟩
 cases h; exact ⟨rfl, rfl⟩
noncomputable def H8 (l0 : (List Int)) (n0 : Int) : Option Bool :=
 ((if (↑l0.length : Int) ≠ n0 then
 some (.inl ())
 else
 (Fs (n0) (l0)).bind fun r2 =>
 if (r2) = true then
 some (.inr ())
 else
 some (.inl ()) : Option (Unit ⊕ Unit))).bind fun t => match t with
 | (.inl _) => (some false)
 | (.inr _) => (ask ((0 : Int) ≤ n0 ∧ n0 ≤ (↑LIM : Int)) <|
 (Ai (Fc l0 n0) ((0 : Int), List.replicate n0.toNat false)).bind fun t => match t with
 | (.inl _) => (some false)
 | (.inr _) => (some true))
theorem Ae7 {l0 : (List Int)} {n0 : Int} {v : Bool} (h : H8 l0 n0 = some v) : Ret Try.prog Qi [(slr false 1 Ab) l0, Ab n0] (V.bool v) := by
 refine Av Arq (Nat.le_of_ble_eq_true rfl) ?_
 unfold H8 at h
 refine CutQ.o (fun t : (Unit ⊕ Unit) => match t with | (.inl s) => (Ex.ret, [4], [(4, A.val (V.bool (false)))]) | (.inr s) => (Ex.normal, [0, 1], [(0, A.val ((slr false 1 Ab) (l0))), (1, A.val (Ab (n0)))])) h ?_ ?_
 ·intro t h
  refine Len.map ?_
  refine Br.on h (fun p1 h => ?_) (fun p1 h => ?_)
  ·refine Br.yes ?_
   iterate 4 refine Br.yes ?_
   cases h; exact ⟨rfl, rfl⟩
  iterate 2 refine Br.no ?_
  refine CallQ.o V.bool (by rfl) h (fun r h => We h) (fun r2 h => ?_)
  iterate 2 refine Br.no ?_
  refine Br.flip ?_
  refine Br.ob h (fun p3 h => ?_) (fun p3 h => ?_)
  ·cases h; exact ⟨rfl, rfl⟩
  cases h; exact ⟨rfl, rfl⟩
 rintro (⟨⟩ | ⟨⟩) h
 ·try dsimp only at h
  cases h; exact (by rfl)
 try dsimp only at h
 refine Ask.o h fun p5 h => ?_
 refine MkQ.o V.bool (false) rfl ?_
 refine LoopQ.o [6, 5, 0, 1] (P4 l0 n0) (Xx l0 n0) h (fun s o h => Aj5 s o h) (by first | rfl | simp [restrict, look, Ad, V.fz, fzL, V.up, upL, Ae, Af, Ah, slr]) (by rintro (_ | _) <;> rfl) ?_
 rintro (⟨⟩ | ⟨⟩) h
 ·try dsimp only at h
  cases h; exact (by rfl)
 try dsimp only at h
 cases h; exact (by rfl)
end Go.Proofs.Ytoikbcagaanhgaa.Ax
