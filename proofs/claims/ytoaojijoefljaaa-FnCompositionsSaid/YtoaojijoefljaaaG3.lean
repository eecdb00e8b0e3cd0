/-
 What the functions compute, as functions on plain data, and that the program does compute it; written by program.
-/
import Derived.Test.YtoaojijoefljaaaCode
import Derived.Test.YtoaojijoefljaaaG1
import Derived.Test.YtoaojijoefljaaaG2
namespace Go.Proofs.Ytoaojijoefljaaa.Ax
open Go
set_option maxRecDepth 100000
set_option maxHeartbeats 4000000
noncomputable def E8 (k0 : Int) (tables0 : List (List Int)) : (Int × (List SOp)) → Option ((Int × (List SOp)) ⊕ (List SOp)) := fun (x11, x5) =>
 if x11 < (↑tables0.length : Int) then
 ask ((0 : Int) ≤ x11 ∧ x11 < (↑tables0.length : Int)) <|
 (Jp (nth tables0 x11.toNat)).bind fun r3 =>
 ask ((x5).length + (([{ Arity := k0, Table := r3 }] : List SOp)).length ≤ LIM) <|
 ask (InI (x11 + (1 : Int))) <|
 some (.inl (x11 + (1 : Int), x5 ++ [{ Arity := k0, Table := r3 }]))
 else
 some (.inr x5)
def Oi (k0 : Int) (tables0 : List (List Int)) : (Int × (List SOp)) → St := fun s => [(11, A.val (Ae s.1)), (10, A.val (Ae ((↑tables0.length : Int)))), (9, A.val ((slr false 1 (slr false 1 Ae)) (tables0))), (5, A.val ((slr true 2 (Ai true)) s.2)), (0, A.val (Ae (k0)))]
def Vd (_k0 : Int) (_tables0 : List (List Int)) : (List SOp) → Tgt
 | s => ((Ex.exit 0), [5], [(5, A.val ((slr true 2 (Ai true)) s))])
theorem Aev {k0 : Int} {tables0 : List (List Int)} (s : (Int × (List SOp))) (o : (Int × (List SOp)) ⊕ (List SOp)) (h : E8 k0 tables0 s = some o) : vc Try.prog Vn (Dy [11, 10, 9, 5, 0] (Oi k0 tables0) (Vd k0 tables0) o) (Oi k0 tables0 s) := by
 obtain ⟨x11, x5⟩ := s
 unfold E8 at h
 try dsimp only at h
 conv => whnf
 refine Br.od h (fun p1 h => ?_) (fun p1 h => ?_)
 ·conv => whnf
  refine Len.map ?_
  conv => whnf
  refine Ask.o h fun p2 h => ?_
  conv => whnf
  refine Elem.o (by first | omega | (simp [Bh] at * <;> omega)) ?_
  conv => whnf
  refine CallQ.o (slr true 1 Ae) (by rfl) h (fun r h => Ls h) (fun r3 h => ?_)
  conv => whnf
  refine BslQ.o (Ai true) ([{ Arity := k0, Table := r3 }]) (by exact fun _ => ⟨rfl, rfl⟩) (by rfl) ?_
  conv => whnf
  refine NoOwn.own rfl ?_
  conv => whnf
  refine AppQ.o (m := 2) (Ai true) (by exact fun _ => ⟨rfl, rfl⟩) (x5) ([{ Arity := k0, Table := r3 }]) (by rfl) (by rfl) h fun h => ?_
  conv => whnf
  refine Ask.o h fun p4 h => ?_
  conv => whnf
  cases h; exact ⟨rfl, rfl⟩
 conv => whnf
 cases h; exact ⟨rfl, rfl⟩
noncomputable def Lv (k0 : Int) (tables0 : (List (List Int))) : Option (List SOp) :=
 (Ar (E8 k0 tables0) ((0 : Int), Ao SOp)).bind fun q5_5 =>
 some q5_5
theorem Ak5 {k0 : Int} {tables0 : (List (List Int))} {v : (List SOp)} (h : Lv k0 tables0 = some v) : Ret Try.prog Ug [Ae k0, (slr false 1 (slr false 1 Ae)) tables0] ((slr true 2 (Ai true)) v) := by
 refine Bg Amj (Nat.le_of_ble_eq_true rfl) ?_
 unfold Lv at h
 conv => whnf
 refine BslQ.o (Ai true) (Ao SOp) (by exact fun _ => ⟨rfl, rfl⟩) (by rfl) ?_
 conv => whnf
 refine Len.map ?_
 conv => whnf
 refine LoopQ.o [11, 10, 9, 5, 0] (Oi k0 tables0) (Vd k0 tables0) h (fun s o h => Aev s o h) (by rfl) (fun _ => rfl) ?_
 rintro q5_5 h
 try dsimp only at h
 conv => whnf
 cases h; exact (by rfl)
noncomputable def Ej (n0 : Int) (k0 : Int) : Option Bool :=
 (Ey (k0) ((1 : Int)) ((3 : Int))).bind fun r1 =>
 if (r1) = true then
 (Cj (n0) (k0)).bind fun r3 =>
 some (decide (r3 ≤ (27 : Int)))
 else
 some false
theorem M0 {n0 : Int} {k0 : Int} {v : Bool} (h : Ej n0 k0 = some v) : Ret Try.prog He [Ae n0, Ae k0] (V.bool v) := by
 refine Bg Adn (Nat.le_of_ble_eq_true rfl) ?_
 unfold Ej at h
 conv => whnf
 refine CallQ.o V.bool (by rfl) h (fun r h => I0 h) (fun r1 h => ?_)
 conv => whnf
 refine Br.ob h (fun p2 h => ?_) (fun p2 h => ?_)
 ·conv => whnf
  refine Br.yes ?_
  conv => whnf
  refine Br.yes ?_
  conv => whnf
  refine CallQ.o Ae (by rfl) h (fun r h => Gm h) (fun r3 h => ?_)
  conv => whnf
  refine Br.yes ?_
  conv => whnf
  refine Br.yes ?_
  conv => whnf
  cases h; exact (by rfl)
 conv => whnf
 refine Br.no ?_
 conv => whnf
 refine Br.no ?_
 conv => whnf
 refine Br.no ?_
 conv => whnf
 refine Br.no ?_
 conv => whnf
 cases h; exact (by rfl)
noncomputable def Eg (k0 : Int) (tables0 : List (List Int)) : (Int × (List SOp)) → Option ((Int × (List SOp)) ⊕ (List SOp)) := fun (x6, x5) =>
 if x6 < (↑tables0.length : Int) then
 ask ((0 : Int) ≤ x6 ∧ x6 < (↑tables0.length : Int)) <|
 (Jq (nth tables0 x6.toNat)).bind fun r3 =>
 ask ((x5).length + (([{ Arity := k0, Table := r3 }] : List SOp)).length ≤ LIM) <|
 ask (InI (x6 + (1 : Int))) <|
 some (.inl (x6 + (1 : Int), x5 ++ [{ Arity := k0, Table := r3 }]))
 else
 some (.inr x5)
def Mt (k0 : Int) (tables0 : List (List Int)) : (Int × (List SOp)) → St := fun s => [(6, A.val (Ae s.1)), (5, A.val ((slr true 2 (Ai true)) s.2)), (0, A.val (Ae (k0))), (1, A.val ((slr false 1 (slr false 1 Ae)) (tables0)))]
def T9 (_k0 : Int) (_tables0 : List (List Int)) : (List SOp) → Tgt
 | s => ((Ex.exit 0), [5], [(5, A.val ((slr true 2 (Ai true)) s))])
theorem Ac5 {k0 : Int} {tables0 : List (List Int)} (s : (Int × (List SOp))) (o : (Int × (List SOp)) ⊕ (List SOp)) (h : Eg k0 tables0 s = some o) : vc Try.prog Tl (Dy [6, 5, 0, 1] (Mt k0 tables0) (T9 k0 tables0) o) (Mt k0 tables0 s) := by
 obtain ⟨x6, x5⟩ := s
 unfold Eg at h
 try dsimp only at h
 conv => whnf
 refine Len.map ?_
 conv => whnf
 refine Br.od h (fun p1 h => ?_) (fun p1 h => ?_)
 ·conv => whnf
  refine Len.map ?_
  conv => whnf
  refine Ask.o h fun p2 h => ?_
  conv => whnf
  refine Elem.o (by first | omega | (simp [Bh] at * <;> omega)) ?_
  conv => whnf
  refine CallQ.o (slr true 1 Ae) (by rfl) h (fun r h => Aa5 h) (fun r3 h => ?_)
  conv => whnf
  refine BslQ.o (Ai true) ([{ Arity := k0, Table := r3 }]) (by exact fun _ => ⟨rfl, rfl⟩) (by rfl) ?_
  conv => whnf
  refine NoOwn.own rfl ?_
  conv => whnf
  refine AppQ.o (m := 2) (Ai true) (by exact fun _ => ⟨rfl, rfl⟩) (x5) ([{ Arity := k0, Table := r3 }]) (by rfl) (by rfl) h fun h => ?_
  conv => whnf
  refine Ask.o h fun p4 h => ?_
  conv => whnf
  cases h; exact ⟨rfl, rfl⟩
 conv => whnf
 cases h; exact ⟨rfl, rfl⟩
noncomputable def Kf (k0 : Int) (tables0 : (List (List Int))) : Option (List SOp) :=
 (Ar (Eg k0 tables0) ((0 : Int), Ao SOp)).bind fun q5_5 =>
 some q5_5
theorem Ai5 {k0 : Int} {tables0 : (List (List Int))} {v : (List SOp)} (h : Kf k0 tables0 = some v) : Ret Try.prog Sd [Ae k0, (slr false 1 (slr false 1 Ae)) tables0] ((slr true 2 (Ai true)) v) := by
 refine Bg Aiz (Nat.le_of_ble_eq_true rfl) ?_
 unfold Kf at h
 conv => whnf
 refine BslQ.o (Ai true) (Ao SOp) (by exact fun _ => ⟨rfl, rfl⟩) (by rfl) ?_
 conv => whnf
 refine LoopQ.o [6, 5, 0, 1] (Mt k0 tables0) (T9 k0 tables0) h (fun s o h => Ac5 s o h) (by rfl) (fun _ => rfl) ?_
 rintro q5_5 h
 try dsimp only at h
 conv => whnf
 cases h; exact (by rfl)
noncomputable def Cq (n0 : Int) (k0 : Int) (place0 : Int) (r1 : Int) : (Int × (List Int)) → Option ((Int × (List Int)) ⊕ (List Int)) := fun (x15, x7) =>
 if x15 < (↑r1.toNat : Int) then
 (Gw (x15) (k0) (n0)).bind fun r4 =>
 ask ((0 : Int) ≤ place0 ∧ place0 < (↑r4.length : Int)) <|
 ask ((0 : Int) ≤ x15 ∧ x15 < (↑x7.length : Int)) <|
 ask (InI (x15 + (1 : Int))) <|
 some (.inl (x15 + (1 : Int), x7.set x15.toNat (nth r4 place0.toNat)))
 else
 some (.inr x7)
def Ji (n0 : Int) (k0 : Int) (place0 : Int) (r1 : Int) : (Int × (List Int)) → St := fun s => [(15, A.val (Ae s.1)), (14, A.val (Ae ((↑r1.toNat : Int)))), (7, A.val ((slr true 1 Ae) s.2)), (0, A.val (Ae (n0))), (1, A.val (Ae (k0))), (2, A.val (Ae (place0)))]
def Nj (_n0 : Int) (_k0 : Int) (_place0 : Int) (_r1 : Int) : (List Int) → Tgt
 | s => ((Ex.exit 0), [7], [(7, A.val ((slr true 1 Ae) s))])
theorem Wo {n0 : Int} {k0 : Int} {place0 : Int} {r1 : Int} (s : (Int × (List Int))) (o : (Int × (List Int)) ⊕ (List Int)) (h : Cq n0 k0 place0 r1 s = some o) : vc Try.prog Nt (Dy [15, 14, 7, 0, 1, 2] (Ji n0 k0 place0 r1) (Nj n0 k0 place0 r1) o) (Ji n0 k0 place0 r1 s) := by
 obtain ⟨x15, x7⟩ := s
 unfold Cq at h
 try dsimp only at h
 conv => whnf
 refine Br.od h (fun p3 h => ?_) (fun p3 h => ?_)
 ·conv => whnf
  refine CallQ.o (slr true 1 Ae) (by rfl) h (fun r h => Sx h) (fun r4 h => ?_)
  conv => whnf
  refine Len.map ?_
  conv => whnf
  refine Ask.o h fun p5 h => ?_
  conv => whnf
  refine Cells.one (fun _ => ⟨rfl, rfl⟩) (by first | omega | (simp [Bh] at * <;> omega)) ?_
  conv => whnf
  refine Len.map ?_
  conv => whnf
  refine Ask.o h fun p6 h => ?_
  conv => whnf
  refine SetKids.one (fun _ => ⟨rfl, rfl⟩) (nth r4 place0.toNat) (by rfl) (by first | omega | (simp [Bh] at * <;> omega)) ?_
  conv => whnf
  refine Ask.o h fun p7 h => ?_
  conv => whnf
  cases h; exact ⟨rfl, rfl⟩
 conv => whnf
 cases h; exact ⟨rfl, rfl⟩
noncomputable def E1 (n0 : Int) (k0 : Int) (place0 : Int) : Option (List Int) :=
 (Ck (n0) (k0)).bind fun r1 =>
 ask ((0 : Int) ≤ r1 ∧ r1 ≤ (↑LIM : Int)) <|
 (Ar (Cq n0 k0 place0 r1) ((0 : Int), List.replicate r1.toNat (0 : Int))).bind fun q8_7 =>
 some q8_7
theorem Rg {n0 : Int} {k0 : Int} {place0 : Int} {v : (List Int)} (h : E1 n0 k0 place0 = some v) : Ret Try.prog Io [Ae n0, Ae k0, Ae place0] ((slr true 1 Ae) v) := by
 refine Bg Ab4 (Nat.le_of_ble_eq_true rfl) ?_
 unfold E1 at h
 conv => whnf
 refine CallQ.o Ae (by rfl) h (fun r h => Gq h) (fun r1 h => ?_)
 conv => whnf
 refine Ask.o h fun p2 h => ?_
 conv => whnf
 refine MkQ.o Ae ((0 : Int)) rfl ?_
 conv => whnf
 refine Len.mrep ?_
 conv => whnf
 refine LoopQ.o [15, 14, 7, 0, 1, 2] (Ji n0 k0 place0 r1) (Nj n0 k0 place0 r1) h (fun s o h => Wo s o h) (by rfl) (fun _ => rfl) ?_
 rintro q8_7 h
 try dsimp only at h
 conv => whnf
 cases h; exact (by rfl)
noncomputable def C8 (n0 : Int) : Option Bool :=
 (Ey (n0) ((1 : Int)) ((8 : Int))).bind fun r1 =>
 some r1
theorem I3 {n0 : Int} {v : Bool} (h : C8 n0 = some v) : Ret Try.prog Fp [Ae n0] (V.bool v) := by
 refine Bg Ahs (Nat.le_of_ble_eq_true rfl) ?_
 unfold C8 at h
 conv => whnf
 refine CallQ.o V.bool (by rfl) h (fun r h => I0 h) (fun r1 h => ?_)
 conv => whnf
 cases h; exact (by rfl)
noncomputable def F1 (n0 : Int) (op0 : SOp) : Int → Option (Int ⊕ (Unit ⊕ Unit)) := fun x5 =>
 if x5 < (↑op0.Table.length : Int) then
 ask ((0 : Int) ≤ x5 ∧ x5 < (↑op0.Table.length : Int)) <|
 ask (InI (n0 - (1 : Int))) <|
 (Ey (nth op0.Table x5.toNat) ((0 : Int)) (n0 - (1 : Int))).bind fun r9 =>
 if (r9) = true then
 ask (InI (x5 + (1 : Int))) <|
 some (.inl (x5 + (1 : Int)))
 else
 some (.inr (.inl ()))
 else
 some (.inr (.inr ()))
def Qu (n0 : Int) (op0 : SOp) : Int → St := fun s => [(5, A.val (Ae s)), (3, A.val ((rP true (Ai false)) (op0))), (0, A.val (Ae (n0)))]
def Xq (_n0 : Int) (_op0 : SOp) : (Unit ⊕ Unit) → Tgt
 | (.inl _s) => (Ex.ret, [4], [(4, A.val (V.bool (false)))])
 | (.inr _s) => ((Ex.exit 0), [], [])
theorem Ahp {n0 : Int} {op0 : SOp} (x5 : Int) (o : Int ⊕ (Unit ⊕ Unit)) (h : F1 n0 op0 x5 = some o) : vc Try.prog Xn (Dy [5, 3, 0] (Qu n0 op0) (Xq n0 op0) o) (Qu n0 op0 x5) := by
 unfold F1 at h
 try dsimp only at h
 conv => whnf
 refine Cells.lit rfl rfl ?_
 conv => whnf
 refine Len.map ?_
 conv => whnf
 refine Br.od h (fun p6 h => ?_) (fun p6 h => ?_)
 ·conv => whnf
  refine Cells.lit rfl rfl ?_
  conv => whnf
  refine Len.map ?_
  conv => whnf
  refine Ask.o h fun p7 h => ?_
  conv => whnf
  refine Elem.o (by first | omega | (simp [Bh] at * <;> omega)) ?_
  conv => whnf
  refine Ask.o h fun p8 h => ?_
  conv => whnf
  refine CallQ.o V.bool (by rfl) h (fun r h => I0 h) (fun r9 h => ?_)
  conv => whnf
  refine Br.flip ?_
  conv => whnf
  refine Br.ob h (fun p10 h => ?_) (fun p10 h => ?_)
  ·conv => whnf
   refine Ask.o h fun p11 h => ?_
   conv => whnf
   cases h; exact ⟨rfl, rfl⟩
  conv => whnf
  cases h; exact ⟨rfl, rfl⟩
 conv => whnf
 cases h; exact ⟨rfl, rfl⟩
noncomputable def C5 (n0 : Int) (op0 : SOp) : Option Bool :=
 (((Ey (op0.Arity) ((0 : Int)) ((3 : Int))).bind fun r1 =>
 if (r1) = true then
 (Cj (n0) (op0.Arity)).bind fun r3 =>
 if (↑op0.Table.length : Int) ≠ r3 then
 some (.inl ())
 else
 some (.inr ())
 else
 some (.inl ()) : Option (Unit ⊕ Unit))).bind fun t => match t with
 | (.inl _) => (some false)
 | (.inr _) => ((Ar (F1 n0 op0) (0 : Int)).bind fun t => match t with
 | (.inl _) => (some false)
 | (.inr _) => (some true))
theorem Hn {n0 : Int} {op0 : SOp} {v : Bool} (h : C5 n0 op0 = some v) : Ret Try.prog Fk [Ae n0, (Ai false) op0] (V.bool v) := by
 refine Bg Any (Nat.le_of_ble_eq_true rfl) ?_
 unfold C5 at h
 conv => whnf
 refine CutQ.o (fun t : (Unit ⊕ Unit) => match t with | (.inl s) => (Ex.ret, [4], [(4, A.val (V.bool (false)))]) | (.inr s) => (Ex.normal, [3, 0], [(3, A.val ((rP true (Ai false)) (op0))), (0, A.val (Ae (n0)))])) h ?_ ?_
 ·intro t h
  conv => whnf
  refine Cells.lit rfl rfl ?_
  conv => whnf
  refine CallP.o V.bool (by rfl) h (fun r h => I0 h) (fun r1 h => ?_)
  conv => whnf
  refine Br.flip ?_
  conv => whnf
  refine Br.ob h (fun p2 h => ?_) (fun p2 h => ?_)
  ·conv => whnf
   refine Br.no ?_
   conv => whnf
   refine Cells.lit rfl rfl ?_
   conv => whnf
   refine Br.no ?_
   conv => whnf
   refine Len.map ?_
   conv => whnf
   refine Br.no ?_
   conv => whnf
   refine Br.no ?_
   conv => whnf
   refine Br.no ?_
   conv => whnf
   refine Cells.lit rfl rfl ?_
   conv => whnf
   refine Br.no ?_
   conv => whnf
   refine CallP.o Ae (by rfl) h (fun r h => Gm h) (fun r3 h => ?_)
   conv => whnf
   refine Br.no ?_
   conv => whnf
   refine Br.no ?_
   conv => whnf
   refine Br.on h (fun p4 h => ?_) (fun p4 h => ?_)
   ·conv => whnf
    cases h; exact ⟨rfl, rfl⟩
   conv => whnf
   cases h; exact ⟨rfl, rfl⟩
  conv => whnf
  refine Br.yes ?_
  conv => whnf
  refine Br.yes ?_
  conv => whnf
  refine Br.yes ?_
  conv => whnf
  refine Br.yes ?_
  conv => whnf
  refine Br.yes ?_
  conv => whnf
  refine Br.yes ?_
  conv => whnf
  refine Br.yes ?_
  conv => whnf
  refine Br.yes ?_
  conv => whnf
  refine Br.yes ?_
  conv => whnf
  cases h; exact ⟨rfl, rfl⟩
 rintro (⟨⟩ | ⟨⟩) h
 ·try dsimp only at h
  conv => whnf
  cases h; exact (by rfl)
 try dsimp only at h
 conv => whnf
 refine LoopQ.o [5, 3, 0] (Qu n0 op0) (Xq n0 op0) h (fun s o h => Ahp s o h) (by rfl) (by rintro (_ | _) <;> rfl) ?_
 rintro (⟨⟩ | ⟨⟩) h
 ·try dsimp only at h
  conv => whnf
  cases h; exact (by rfl)
 try dsimp only at h
 conv => whnf
 cases h; exact (by rfl)
noncomputable def Ap (c0 : Sl1Cur) (n0 : Int) : Option (Int × Sl1Cur) :=
 if n0 ≤ (1 : Int) then
 some ((0 : Int), c0)
 else
 (E2 (c0)).bind fun (r2, u3) =>
 if n0 > (200 : Int) then
 ask (InI (r2 * (256 : Int))) <|
 (E2 (u3)).bind fun (r6, u7) =>
 ask (InI (r2 * (256 : Int) + r6)) <|
 ask (n0 ≠ (0 : Int)) <|
 some ((r2 * (256 : Int) + r6).tmod n0, u7)
 else
 ask (n0 ≠ (0 : Int)) <|
 some (r2.tmod n0, u3)
theorem Aw {c0 : Sl1Cur} {n0 : Int} {v : (Int × Sl1Cur)} (h : Ap c0 n0 = some v) : Sm Try.prog As [(rP true (Ak false)) c0, Ae n0] (Ae v.1) 0 ((rP true (Ak false)) v.2) := by
 refine Oz Aa7 (Nat.le_of_ble_eq_true rfl) ?_
 unfold Ap at h
 conv => whnf
 refine Br.od h (fun p1 h => ?_) (fun p1 h => ?_)
 ·conv => whnf
  cases h; exact ⟨(by rfl), (by rfl)⟩
 conv => whnf
 refine CallQ.io Ae (rP true (Ak false)) (by rfl) rfl (fun _ => rfl) (fun _ => ⟨rfl, rfl⟩) rfl h (fun r h => Q8 h) (fun r2 u3 h => ?_)
 conv => whnf
 refine Br.od h (fun p4 h => ?_) (fun p4 h => ?_)
 ·conv => whnf
  refine Ask.o h fun p5 h => ?_
  conv => whnf
  refine CallQ.io Ae (rP true (Ak false)) (by rfl) rfl (fun _ => rfl) (fun _ => ⟨rfl, rfl⟩) rfl h (fun r h => Q8 h) (fun r6 u7 h => ?_)
  conv => whnf
  refine Ask.o h fun p8 h => ?_
  conv => whnf
  refine Ask.o h fun p9 h => ?_
  conv => whnf
  cases h; exact ⟨(by rfl), (by rfl)⟩
 conv => whnf
 refine Ask.o h fun p10 h => ?_
 conv => whnf
 cases h; exact ⟨(by rfl), (by rfl)⟩
noncomputable def E9 (n0 : Int) (f0 : SOp) (places0 : List Int) (k0 : Int) : (Int × SOp) → Option ((Int × SOp) ⊕ SOp) := fun (x10, x9) =>
 (Ck (n0) (k0)).bind fun r1 =>
 if x10 < r1 then
 (Gw (x10) (k0) (n0)).bind fun r3 =>
 (I2 (places0) (r3)).bind fun r4 =>
 (Jh (r4) (n0)).bind fun r5 =>
 ask ((0 : Int) ≤ r5 ∧ r5 < (↑f0.Table.length : Int)) <|
 ask ((x9.Table).length + ([nth f0.Table r5.toNat]).length ≤ LIM) <|
 ask (InI (x10 + (1 : Int))) <|
 some (.inl (x10 + (1 : Int), { Arity := x9.Arity, Table := x9.Table ++ [nth f0.Table r5.toNat] }))
 else
 some (.inr x9)
def Of (n0 : Int) (f0 : SOp) (places0 : List Int) (k0 : Int) : (Int × SOp) → St := fun s => [(10, A.val (Ae s.1)), (9, A.val ((rP true (Ai true)) s.2)), (8, A.val ((rP true (Ai true)) ({ Arity := (0 : Int), Table := Ao Int }))), (5, A.val ((rP true (Ai false)) (f0))), (0, A.val (Ae (n0))), (2, A.val ((slr false 1 Ae) (places0))), (3, A.val (Ae (k0)))]
def Vf (_n0 : Int) (_f0 : SOp) (_places0 : List Int) (_k0 : Int) : SOp → Tgt
 | s => ((Ex.exit 0), [9, 8], [(9, A.val ((rP true (Ai true)) s)), (8, A.val ((rP true (Ai true)) ({ Arity := (0 : Int), Table := Ao Int })))])
theorem Aey {n0 : Int} {f0 : SOp} {places0 : List Int} {k0 : Int} (s : (Int × SOp)) (o : (Int × SOp) ⊕ SOp) (h : E9 n0 f0 places0 k0 s = some o) : vc Try.prog Vh (Dy [10, 9, 8, 5, 0, 2, 3] (Of n0 f0 places0 k0) (Vf n0 f0 places0 k0) o) (Of n0 f0 places0 k0 s) := by
 obtain ⟨x10, x9⟩ := s
 unfold E9 at h
 try dsimp only at h
 conv => whnf
 refine CallQ.o Ae (by rfl) h (fun r h => Gq h) (fun r1 h => ?_)
 conv => whnf
 refine Br.od h (fun p2 h => ?_) (fun p2 h => ?_)
 ·conv => whnf
  refine Cells.lit rfl rfl ?_
  conv => whnf
  refine Cells.lit rfl rfl ?_
  conv => whnf
  refine CallP.o (slr true 1 Ae) (by rfl) h (fun r h => Sx h) (fun r3 h => ?_)
  conv => whnf
  refine CallP.rd (slr true 1 Ae) (by first | rfl | simp only [V.fz, V.up, Ab, slr] | simp [Aa, V.fz, fzL, V.up, upL, Ab, Ac, Ad, slr]) (fun _ => by simp [V.noFz, Be]) h (fun r h => Agt h) (fun r4 h => ?_)
  conv => whnf
  refine CallP.rd Ae (by first | rfl | simp only [V.fz, V.up, Ab, Ad, slr] | simp [Aa, V.fz, fzL, V.up, upL, Ab, Ac, Ad, slr]) (fun _ => rfl) h (fun r h => Ago h) (fun r5 h => ?_)
  conv => whnf
  refine Len.map ?_
  conv => whnf
  refine Ask.o h fun p6 h => ?_
  conv => whnf
  refine Elem.o (by first | omega | (simp [Bh] at * <;> omega)) ?_
  conv => whnf
  refine BslQ.o Ae ([nth f0.Table r5.toNat]) (by exact fun _ => ⟨rfl, rfl⟩) (by rfl) ?_
  conv => whnf
  refine NoOwn.o (fun _ => rfl) ?_
  conv => whnf
  refine Kid.lit rfl rfl ?_
  conv => whnf
  refine Kid.lit rfl rfl ?_
  conv => whnf
  refine SetKids.lit rfl ?_
  conv => whnf
  refine AppQ.o (m := 1) Ae (by exact fun _ => ⟨rfl, rfl⟩) (x9.Table) ([nth f0.Table r5.toNat]) (by rfl) (by rfl) h fun h => ?_
  conv => whnf
  refine SetKids.lit rfl ?_
  conv => whnf
  refine Ask.o h fun p7 h => ?_
  conv => whnf
  cases h; exact ⟨rfl, rfl⟩
 conv => whnf
 cases h; exact ⟨rfl, rfl⟩
noncomputable def L2 (n0 : Int) (f0 : SOp) (places0 : (List Int)) (k0 : Int) : Option SOp :=
 (Ar (E9 n0 f0 places0 k0) ((0 : Int), { Arity := k0, Table := Ao Int })).bind fun q8_9 =>
 some q8_9
theorem Akt {n0 : Int} {f0 : SOp} {places0 : (List Int)} {k0 : Int} {v : SOp} (h : L2 n0 f0 places0 k0 = some v) : Ret Try.prog Uc [Ae n0, (Ai false) f0, (slr false 1 Ae) places0, Ae k0] ((Ai true) v) := by
 refine Bg Alm (Nat.le_of_ble_eq_true rfl) ?_
 unfold L2 at h
 conv => whnf
 refine SetKids.lit rfl ?_
 conv => whnf
 refine LoopQ.o [10, 9, 8, 5, 0, 2, 3] (Of n0 f0 places0 k0) (Vf n0 f0 places0 k0) h (fun s o h => Aey s o h) (by rfl) (fun _ => rfl) ?_
 rintro q8_9 h
 try dsimp only at h
 conv => whnf
 refine Cells.lit rfl rfl ?_
 conv => whnf
 refine SetKids.lit rfl ?_
 conv => whnf
 cases h; exact (by rfl)
noncomputable def Cr (n0 : Int) (list0 : List Int) : Int → Option (Int ⊕ (Unit ⊕ Unit)) := fun x5 =>
 if x5 < (↑list0.length : Int) then
 ask ((0 : Int) ≤ x5 ∧ x5 < (↑list0.length : Int)) <|
 ask (InI (n0 - (1 : Int))) <|
 (Ey (nth list0 x5.toNat) ((0 : Int)) (n0 - (1 : Int))).bind fun r4 =>
 if (r4) = true then
 ask (InI (x5 + (1 : Int))) <|
 some (.inl (x5 + (1 : Int)))
 else
 some (.inr (.inl ()))
 else
 some (.inr (.inr ()))
def I1 (n0 : Int) (list0 : List Int) : Int → St := fun s => [(5, A.val (Ae s)), (0, A.val (Ae (n0))), (1, A.val ((slr false 1 Ae) (list0)))]
def Nz (_n0 : Int) (_list0 : List Int) : (Unit ⊕ Unit) → Tgt
 | (.inl _s) => (Ex.ret, [4], [(4, A.val (V.bool (false)))])
 | (.inr _s) => ((Ex.exit 0), [], [])
theorem Xl {n0 : Int} {list0 : List Int} (x5 : Int) (o : Int ⊕ (Unit ⊕ Unit)) (h : Cr n0 list0 x5 = some o) : vc Try.prog Nf (Dy [5, 0, 1] (I1 n0 list0) (Nz n0 list0) o) (I1 n0 list0 x5) := by
 unfold Cr at h
 try dsimp only at h
 conv => whnf
 refine Len.map ?_
 conv => whnf
 refine Br.od h (fun p1 h => ?_) (fun p1 h => ?_)
 ·conv => whnf
  refine Len.map ?_
  conv => whnf
  refine Ask.o h fun p2 h => ?_
  conv => whnf
  refine Elem.o (by first | omega | (simp [Bh] at * <;> omega)) ?_
  conv => whnf
  refine Ask.o h fun p3 h => ?_
  conv => whnf
  refine CallQ.o V.bool (by rfl) h (fun r h => I0 h) (fun r4 h => ?_)
  conv => whnf
  refine Br.flip ?_
  conv => whnf
  refine Br.ob h (fun p5 h => ?_) (fun p5 h => ?_)
  ·conv => whnf
   refine Ask.o h fun p6 h => ?_
   conv => whnf
   cases h; exact ⟨rfl, rfl⟩
  conv => whnf
  cases h; exact ⟨rfl, rfl⟩
 conv => whnf
 cases h; exact ⟨rfl, rfl⟩
noncomputable def Gr (n0 : Int) (list0 : (List Int)) : Option Bool :=
 (Ar (Cr n0 list0) (0 : Int)).bind fun t => match t with
 | (.inl _) => (some false)
 | (.inr _) => (some true)
theorem Abx {n0 : Int} {list0 : (List Int)} {v : Bool} (h : Gr n0 list0 = some v) : Ret Try.prog L7 [Ae n0, (slr false 1 Ae) list0] (V.bool v) := by
 refine Bg Ab1 (Nat.le_of_ble_eq_true rfl) ?_
 unfold Gr at h
 conv => whnf
 refine LoopQ.o [5, 0, 1] (I1 n0 list0) (Nz n0 list0) h (fun s o h => Xl s o h) (by rfl) (by rintro (_ | _) <;> rfl) ?_
 rintro (⟨⟩ | ⟨⟩) h
 ·try dsimp only at h
  conv => whnf
  cases h; exact (by rfl)
 try dsimp only at h
 conv => whnf
 cases h; exact (by rfl)
noncomputable def Cg (n0 : Int) (k0 : Int) (place0 : Int) : (Int × (List Int)) → Option ((Int × (List Int)) ⊕ (List Int)) := fun (x8, x7) =>
 (Cj (n0) (k0)).bind fun r1 =>
 if x8 < r1 then
 (Gx (n0) (k0) (x8)).bind fun r3 =>
 ask ((0 : Int) ≤ place0 ∧ place0 < (↑r3.length : Int)) <|
 ask ((x7).length + ([nth r3 place0.toNat]).length ≤ LIM) <|
 ask (InI (x8 + (1 : Int))) <|
 some (.inl (x8 + (1 : Int), x7 ++ [nth r3 place0.toNat]))
 else
 some (.inr x7)
def Hj (n0 : Int) (k0 : Int) (place0 : Int) : (Int × (List Int)) → St := fun s => [(8, A.val (Ae s.1)), (7, A.val ((slr true 1 Ae) s.2)), (0, A.val (Ae (n0))), (1, A.val (Ae (k0))), (2, A.val (Ae (place0)))]
def Ld (_n0 : Int) (_k0 : Int) (_place0 : Int) : (List Int) → Tgt
 | s => ((Ex.exit 0), [7], [(7, A.val ((slr true 1 Ae) s))])
theorem S5 {n0 : Int} {k0 : Int} {place0 : Int} (s : (Int × (List Int))) (o : (Int × (List Int)) ⊕ (List Int)) (h : Cg n0 k0 place0 s = some o) : vc Try.prog Lj (Dy [8, 7, 0, 1, 2] (Hj n0 k0 place0) (Ld n0 k0 place0) o) (Hj n0 k0 place0 s) := by
 obtain ⟨x8, x7⟩ := s
 unfold Cg at h
 try dsimp only at h
 conv => whnf
 refine CallQ.o Ae (by rfl) h (fun r h => Gm h) (fun r1 h => ?_)
 conv => whnf
 refine Br.od h (fun p2 h => ?_) (fun p2 h => ?_)
 ·conv => whnf
  refine CallQ.o (slr true 1 Ae) (by rfl) h (fun r h => Zg h) (fun r3 h => ?_)
  conv => whnf
  refine Len.map ?_
  conv => whnf
  refine Ask.o h fun p4 h => ?_
  conv => whnf
  refine Cells.one (fun _ => ⟨rfl, rfl⟩) (by first | omega | (simp [Bh] at * <;> omega)) ?_
  conv => whnf
  refine BslQ.o Ae ([nth r3 place0.toNat]) (by exact fun _ => ⟨rfl, rfl⟩) (by rfl) ?_
  conv => whnf
  refine NoOwn.o (fun _ => rfl) ?_
  conv => whnf
  refine AppQ.o (m := 1) Ae (by exact fun _ => ⟨rfl, rfl⟩) (x7) ([nth r3 place0.toNat]) (by rfl) (by rfl) h fun h => ?_
  conv => whnf
  refine Ask.o h fun p5 h => ?_
  conv => whnf
  cases h; exact ⟨rfl, rfl⟩
 conv => whnf
 cases h; exact ⟨rfl, rfl⟩
noncomputable def Ci (n0 : Int) (k0 : Int) (place0 : Int) : Option (List Int) :=
 (Ar (Cg n0 k0 place0) ((0 : Int), Ao Int)).bind fun q6_7 =>
 some q6_7
theorem Gi {n0 : Int} {k0 : Int} {place0 : Int} {v : (List Int)} (h : Ci n0 k0 place0 = some v) : Ret Try.prog Di [Ae n0, Ae k0, Ae place0] ((slr true 1 Ae) v) := by
 refine Bg Wn (Nat.le_of_ble_eq_true rfl) ?_
 unfold Ci at h
 conv => whnf
 refine BslQ.o Ae (Ao Int) (by exact fun _ => ⟨rfl, rfl⟩) (by rfl) ?_
 conv => whnf
 refine LoopQ.o [8, 7, 0, 1, 2] (Hj n0 k0 place0) (Ld n0 k0 place0) h (fun s o h => S5 s o h) (by rfl) (fun _ => rfl) ?_
 rintro q6_7 h
 try dsimp only at h
 conv => whnf
 cases h; exact (by rfl)
end Go.Proofs.Ytoaojijoefljaaa.Ax
