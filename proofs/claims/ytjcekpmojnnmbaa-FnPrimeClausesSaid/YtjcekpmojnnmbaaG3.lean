/-
 What the functions compute, as functions on plain data, and that the program does compute it; written by program.
-/
import Derived.Test.YtjcekpmojnnmbaaCode
import Derived.Test.YtjcekpmojnnmbaaG1
import Derived.Test.YtjcekpmojnnmbaaG2
namespace Go.Proofs.Ytjcekpmojnnmbaa.Ax
open Go
set_option maxRecDepth 100000
set_option maxHeartbeats 4000000
noncomputable def Er (a0 : SAlgebra) (_op0 : Int) (tuples0 : List (List Int)) (_k0 : Int) (x10 : Int) (_x9 : List Int) : (Int × Int) → Option ((Int × Int) ⊕ Int) := fun (x12, x11) =>
 if x12 < (↑tuples0.length : Int) then
 ask (InI (x11 * a0.Size)) <|
 ask ((0 : Int) ≤ x12 ∧ x12 < (↑tuples0.length : Int)) <|
 ask ((0 : Int) ≤ x10 ∧ x10 < (↑(nth tuples0 x12.toNat).length : Int)) <|
 ask (InI (x11 * a0.Size + nth (nth tuples0 x12.toNat) x10.toNat)) <|
 ask (InI (x12 + (1 : Int))) <|
 some (.inl (x12 + (1 : Int), x11 * a0.Size + nth (nth tuples0 x12.toNat) x10.toNat))
 else
 some (.inr x11)
def Lq (a0 : SAlgebra) (op0 : Int) (tuples0 : List (List Int)) (k0 : Int) (x10 : Int) (x9 : List Int) : (Int × Int) → St := fun s => [(12, A.val (Ae s.1)), (11, A.val (Ae s.2)), (10, A.val (Ae (x10))), (9, A.val ((slr true 1 Ae) (x9))), (4, A.val ((rP true (A5 false)) (a0))), (1, A.val (Ae (op0))), (2, A.val ((slr false 1 (slr false 1 Ae)) (tuples0))), (3, A.val (Ae (k0)))]
def Rt (a0 : SAlgebra) (op0 : Int) (tuples0 : List (List Int)) (k0 : Int) (x10 : Int) (x9 : List Int) : Int → Tgt
 | s => ((Ex.exit 2), [11, 10, 9, 4, 1, 2, 3], [(11, A.val (Ae s)), (10, A.val (Ae (x10))), (9, A.val ((slr true 1 Ae) (x9))), (4, A.val ((rP true (A5 false)) (a0))), (1, A.val (Ae (op0))), (2, A.val ((slr false 1 (slr false 1 Ae)) (tuples0))), (3, A.val (Ae (k0)))])
theorem Aci {a0 : SAlgebra} {op0 : Int} {tuples0 : List (List Int)} {k0 : Int} {x10 : Int} {x9 : List Int} (s : (Int × Int)) (o : (Int × Int) ⊕ Int) (h : Er a0 op0 tuples0 k0 x10 x9 s = some o) : vc Try.prog Ro (C6 [12, 11, 10, 9, 4, 1, 2, 3] (Lq a0 op0 tuples0 k0 x10 x9) (Rt a0 op0 tuples0 k0 x10 x9) o) (Lq a0 op0 tuples0 k0 x10 x9 s) := by
 obtain ⟨x12, x11⟩ := s
 unfold Er at h
 try dsimp only at h
 refine Len.map <| Br.od h (fun p2 h => ?_) (fun p2 h => ?_)
 ·refine Cells.lit rfl rfl <| Ask.o h fun p3 h => Len.map <| Ask.o h fun p4 h => Elem.o (by first | omega | (simp [A4] at * <;> omega)) <| Len.map <| Ask.o h fun p5 h => Elem.o (by first | omega | (simp [A4] at * <;> omega)) <| Ask.o h fun p6 h => Ask.o h fun p7 h => ?_
  cases h; exact ⟨rfl, rfl⟩
 cases h; exact ⟨rfl, rfl⟩
noncomputable def Dv (a0 : SAlgebra) (op0 : Int) (tuples0 : List (List Int)) (k0 : Int) : (Int × (List Int)) → Option ((Int × (List Int)) ⊕ (List Int)) := fun (x10, x9) =>
 if x10 < k0 then
 (Al (Er a0 op0 tuples0 k0 x10 x9) ((0 : Int), (0 : Int))).bind fun q8_11 =>
 ask ((0 : Int) ≤ op0 ∧ op0 < (↑a0.Ops.length : Int)) <|
 ask ((0 : Int) ≤ q8_11 ∧ q8_11 < (↑(nth a0.Ops op0.toNat).Table.length : Int)) <|
 ask ((x9).length + ([nth (nth a0.Ops op0.toNat).Table q8_11.toNat]).length ≤ LIM) <|
 ask (InI (x10 + (1 : Int))) <|
 some (.inl (x10 + (1 : Int), x9 ++ [nth (nth a0.Ops op0.toNat).Table q8_11.toNat]))
 else
 some (.inr x9)
def Mc (a0 : SAlgebra) (op0 : Int) (tuples0 : List (List Int)) (k0 : Int) : (Int × (List Int)) → St := fun s => [(10, A.val (Ae s.1)), (9, A.val ((slr true 1 Ae) s.2)), (4, A.val ((rP true (A5 false)) (a0))), (1, A.val (Ae (op0))), (2, A.val ((slr false 1 (slr false 1 Ae)) (tuples0))), (3, A.val (Ae (k0)))]
def R7 (_a0 : SAlgebra) (_op0 : Int) (_tuples0 : List (List Int)) (_k0 : Int) : (List Int) → Tgt
 | s => ((Ex.exit 0), [9], [(9, A.val ((slr true 1 Ae) s))])
theorem Adw {a0 : SAlgebra} {op0 : Int} {tuples0 : List (List Int)} {k0 : Int} (s : (Int × (List Int))) (o : (Int × (List Int)) ⊕ (List Int)) (h : Dv a0 op0 tuples0 k0 s = some o) : vc Try.prog Se (C6 [10, 9, 4, 1, 2, 3] (Mc a0 op0 tuples0 k0) (R7 a0 op0 tuples0 k0) o) (Mc a0 op0 tuples0 k0 s) := by
 obtain ⟨x10, x9⟩ := s
 unfold Dv at h
 try dsimp only at h
 refine Br.od h (fun p1 h => ?_) (fun p1 h => ?_)
 ·refine LoopQ.o [12, 11, 10, 9, 4, 1, 2, 3] (Lq a0 op0 tuples0 k0 x10 x9) (Rt a0 op0 tuples0 k0 x10 x9) h (fun s o h => Aci s o h) (by rfl) (fun _ => rfl) ?_
  rintro q8_11 h
  try dsimp only at h
  refine Cells.lit rfl rfl <| Len.map <| Ask.o h fun p9 h => Elem.o (by first | omega | (simp [A4] at * <;> omega)) <| Len.map <| Ask.o h fun p10 h => Elem.o (by first | omega | (simp [A4] at * <;> omega)) <| BslQ.o Ae ([nth (nth a0.Ops op0.toNat).Table q8_11.toNat]) (by exact fun _ => ⟨rfl, rfl⟩) (by first | rfl | (simp only [Aa, V.fz, fzL, V.up, upL, Ab, Ac, Ad, slr, List.cons_append, List.nil_append]; done) | simp [Aa, V.fz, fzL, V.up, upL, Ab, Ac, Ad, slr]) <| NoOwn.o (fun _ => rfl) <| AppQ.o (m := 1) Ae (by exact fun _ => ⟨rfl, rfl⟩) (x9) ([nth (nth a0.Ops op0.toNat).Table q8_11.toNat]) (by rfl) (by rfl) h fun h => Ask.o h fun p11 h => ?_
  cases h; exact ⟨rfl, rfl⟩
 cases h; exact ⟨rfl, rfl⟩
noncomputable def Ha (a0 : SAlgebra) (op0 : Int) (tuples0 : (List (List Int))) (k0 : Int) : Option (List Int) :=
 (Al (Dv a0 op0 tuples0 k0) ((0 : Int), Ap Int)).bind fun q12_9 =>
 some q12_9
theorem Xp {a0 : SAlgebra} {op0 : Int} {tuples0 : (List (List Int))} {k0 : Int} {v : (List Int)} (h : Ha a0 op0 tuples0 k0 = some v) : Ret Try.prog Lx [(A5 false) a0, Ae op0, (slr false 1 (slr false 1 Ae)) tuples0, Ae k0] ((slr true 1 Ae) v) := by
 refine A7 Ai2 (Nat.le_of_ble_eq_true rfl) ?_
 unfold Ha at h
 refine BslQ.o Ae (Ap Int) (by exact fun _ => ⟨rfl, rfl⟩) (by first | rfl | (simp only [Aa, V.fz, fzL, V.up, upL, Ab, Ac, Ad, slr, List.cons_append, List.nil_append]; done) | simp [Aa, V.fz, fzL, V.up, upL, Ab, Ac, Ad, slr]) <| LoopQ.o [10, 9, 4, 1, 2, 3] (Mc a0 op0 tuples0 k0) (R7 a0 op0 tuples0 k0) h (fun s o h => Adw s o h) (by rfl) (fun _ => rfl) ?_
 rintro q12_9 h
 try dsimp only at h
 cases h; exact (by rfl)
noncomputable def Et (l0 : List Int) (n0 : Int) : Int → Option (Int ⊕ (Unit ⊕ Unit)) := fun x5 =>
 if x5 < (↑l0.length : Int) then
 ask ((0 : Int) ≤ x5 ∧ x5 < (↑l0.length : Int)) <|
 if nth l0 x5.toNat = n0 then
 some (.inr (.inl ()))
 else
 ask (InI (x5 + (1 : Int))) <|
 some (.inl (x5 + (1 : Int)))
 else
 some (.inr (.inr ()))
def Pf (l0 : List Int) (n0 : Int) : Int → St := fun s => [(5, A.val (Ae s)), (0, A.val ((slr false 1 Ae) (l0))), (1, A.val (Ae (n0)))]
def Wj (_l0 : List Int) (_n0 : Int) : (Unit ⊕ Unit) → Tgt
 | (.inl _s) => (Ex.ret, [4], [(4, A.val (V.bool (true)))])
 | (.inr _s) => ((Ex.exit 0), [], [])
theorem Agj {l0 : List Int} {n0 : Int} (x5 : Int) (o : Int ⊕ (Unit ⊕ Unit)) (h : Et l0 n0 x5 = some o) : vc Try.prog Wf (C6 [5, 0, 1] (Pf l0 n0) (Wj l0 n0) o) (Pf l0 n0 x5) := by
 unfold Et at h
 try dsimp only at h
 refine Len.map <| Br.od h (fun p1 h => ?_) (fun p1 h => ?_)
 ·refine Len.map <| Ask.o h fun p2 h => Elem.o (by first | omega | (simp [A4] at * <;> omega)) <| Br.oe h (fun p3 h => ?_) (fun p3 h => ?_)
  ·cases h; exact ⟨rfl, rfl⟩
  refine Ask.o h fun p4 h => ?_
  cases h; exact ⟨rfl, rfl⟩
 cases h; exact ⟨rfl, rfl⟩
noncomputable def Lt (l0 : (List Int)) (n0 : Int) : Option Bool :=
 (Al (Et l0 n0) (0 : Int)).bind fun t => match t with
 | (.inl _) => (some true)
 | (.inr _) => (some false)
theorem Aos {l0 : (List Int)} {n0 : Int} {v : Bool} (h : Lt l0 n0 = some v) : Ret Try.prog Vi [(slr false 1 Ae) l0, Ae n0] (V.bool v) := by
 refine A7 Anz (Nat.le_of_ble_eq_true rfl) ?_
 unfold Lt at h
 refine LoopQ.o [5, 0, 1] (Pf l0 n0) (Wj l0 n0) h (fun s o h => Agj s o h) (by rfl) (by rintro (_ | _) <;> rfl) ?_
 rintro (⟨⟩ | ⟨⟩) h
 ·try dsimp only at h
  cases h; exact (by rfl)
 try dsimp only at h
 cases h; exact (by rfl)
noncomputable def Dl (line0 : List (List Int)) (numbers0 : List Int) : (Int × (List (List Int))) → Option ((Int × (List (List Int))) ⊕ (List (List Int))) := fun (x6, x5) =>
 if x6 < (↑numbers0.length : Int) then
 ask ((0 : Int) ≤ x6 ∧ x6 < (↑numbers0.length : Int)) <|
 ask ((0 : Int) ≤ nth numbers0 x6.toNat ∧ nth numbers0 x6.toNat < (↑line0.length : Int)) <|
 ask ((x5).length + ([nth line0 (nth numbers0 x6.toNat).toNat]).length ≤ LIM) <|
 ask (InI (x6 + (1 : Int))) <|
 some (.inl (x6 + (1 : Int), x5 ++ [nth line0 (nth numbers0 x6.toNat).toNat]))
 else
 some (.inr x5)
def Kz (line0 : List (List Int)) (numbers0 : List Int) : (Int × (List (List Int))) → St := fun s => [(6, A.val (Ae s.1)), (5, A.val ((slr true 1 (slr false 1 Ae)) s.2)), (0, A.ref 25 []), (25, A.val ((slr true 1 (slr false 1 Ae)) (line0))), (1, A.val ((slr false 1 Ae) (numbers0)))]
def Qy (line0 : List (List Int)) (_numbers0 : List Int) : (List (List Int)) → Tgt
 | s => ((Ex.exit 0), [5, 25], [(5, A.val ((slr true 1 (slr false 1 Ae)) s)), (25, A.val ((slr true 1 (slr false 1 Ae)) (line0)))])
theorem Abf {line0 : List (List Int)} {numbers0 : List Int} (s : (Int × (List (List Int)))) (o : (Int × (List (List Int))) ⊕ (List (List Int))) (h : Dl line0 numbers0 s = some o) : vc Try.prog Q2 (C6 [6, 5, 0, 25, 1] (Kz line0 numbers0) (Qy line0 numbers0) o) (Kz line0 numbers0 s) := by
 obtain ⟨x6, x5⟩ := s
 unfold Dl at h
 try dsimp only at h
 refine Len.map <| Br.od h (fun p1 h => ?_) (fun p1 h => ?_)
 ·refine Len.map <| Ask.o h fun p2 h => Elem.o (by first | omega | (simp [A4] at * <;> omega)) <| Len.map <| Ask.o h fun p3 h => Cells.one (fun _ => ⟨rfl, rfl⟩) (by first | omega | (simp [A4] at * <;> omega)) <| BslQ.o (slr false 1 Ae) ([nth line0 (nth numbers0 x6.toNat).toNat]) (by exact fun _ => ⟨rfl, rfl⟩) (by first | rfl | (simp only [Aa, V.fz, fzL, V.up, upL, Ab, Ac, Ad, slr, List.cons_append, List.nil_append]; done) | simp [Aa, V.fz, fzL, V.up, upL, Ab, Ac, Ad, slr]) <| NoOwn.o (fun _ => rfl) <| AppQ.o (m := 1) (slr false 1 Ae) (by exact fun _ => ⟨rfl, rfl⟩) (x5) ([nth line0 (nth numbers0 x6.toNat).toNat]) (by rfl) (by rfl) h fun h => Ask.o h fun p4 h => ?_
  cases h; exact ⟨rfl, rfl⟩
 cases h; exact ⟨rfl, rfl⟩
noncomputable def Ht (line0 : (List (List Int))) (numbers0 : (List Int)) : Option ((List (List Int)) × (List (List Int))) :=
 (Al (Dl line0 numbers0) ((0 : Int), Ap (List Int))).bind fun q5_5 =>
 some (q5_5, line0)
theorem Agk {line0 : (List (List Int))} {numbers0 : (List Int)} {v : ((List (List Int)) × (List (List Int)))} (h : Ht line0 numbers0 = some v) : Sr Try.prog Pa [(slr true 1 (slr false 1 Ae)) line0, (slr false 1 Ae) numbers0] ((slr false 1 (slr false 1 Ae)) v.1) 0 ((slr true 1 (slr false 1 Ae)) v.2) := by
 refine Amq Agf (Nat.le_of_ble_eq_true rfl) ?_
 unfold Ht at h
 refine BslQ.o (slr true 1 Ae) (Ap (List Int)) (by exact fun _ => ⟨rfl, rfl⟩) (by first | rfl | (simp only [Aa, V.fz, fzL, V.up, upL, Ab, Ac, Ad, slr, List.cons_append, List.nil_append]; done) | simp [Aa, V.fz, fzL, V.up, upL, Ab, Ac, Ad, slr]) <| LoopQ.o [6, 5, 0, 25, 1] (Kz line0 numbers0) (Qy line0 numbers0) h (fun s o h => Abf s o h) (by rfl) (fun _ => rfl) ?_
 rintro q5_5 h
 try dsimp only at h
 cases h; exact ⟨(by first | rfl | simp only [Ai, Ac, slr] | simp [Ai, Aa, V.fz, fzL, V.up, upL, Ab, Ac, Ad, slr]), (by rfl)⟩
noncomputable def Lu (list0 : (List Int)) : Option (List Int) :=
 ask ((Ap Int).length + (list0).length ≤ LIM) <|
 some (Ap Int ++ list0)
theorem Anc {list0 : (List Int)} {v : (List Int)} (h : Lu list0 = some v) : Ret Try.prog Vd [(slr false 1 Ae) list0] ((slr true 1 Ae) v) := by
 refine A7 Anf (Nat.le_of_ble_eq_true rfl) ?_
 unfold Lu at h
 refine BslQ.o Ae (Ap Int) (by exact fun _ => ⟨rfl, rfl⟩) (by first | rfl | (simp only [Aa, V.fz, fzL, V.up, upL, Ab, Ac, Ad, slr, List.cons_append, List.nil_append]; done) | simp [Aa, V.fz, fzL, V.up, upL, Ab, Ac, Ad, slr]) <| AppQ.o (m := 1) Ae (by exact fun _ => ⟨rfl, rfl⟩) (Ap Int) (list0) (by rfl) (by rfl) h fun h => ?_
 cases h; exact (by rfl)
noncomputable def D6 (a0 : List Int) (b0 : List Int) : Int → Option (Int ⊕ (Unit ⊕ Unit)) := fun x5 =>
 if x5 < (↑a0.length : Int) then
 ask ((0 : Int) ≤ x5 ∧ x5 < (↑a0.length : Int)) <|
 ask ((0 : Int) ≤ x5 ∧ x5 < (↑b0.length : Int)) <|
 if nth a0 x5.toNat ≠ nth b0 x5.toNat then
 some (.inr (.inl ()))
 else
 ask (InI (x5 + (1 : Int))) <|
 some (.inl (x5 + (1 : Int)))
 else
 some (.inr (.inr ()))
def Nm (a0 : List Int) (b0 : List Int) : Int → St := fun s => [(5, A.val (Ae s)), (0, A.val ((slr false 1 Ae) (a0))), (1, A.val ((slr false 1 Ae) (b0)))]
def U6 (_a0 : List Int) (_b0 : List Int) : (Unit ⊕ Unit) → Tgt
 | (.inl _s) => (Ex.ret, [4], [(4, A.val (V.bool (false)))])
 | (.inr _s) => ((Ex.exit 0), [], [])
theorem Aeu {a0 : List Int} {b0 : List Int} (x5 : Int) (o : Int ⊕ (Unit ⊕ Unit)) (h : D6 a0 b0 x5 = some o) : vc Try.prog U5 (C6 [5, 0, 1] (Nm a0 b0) (U6 a0 b0) o) (Nm a0 b0 x5) := by
 unfold D6 at h
 try dsimp only at h
 refine Len.map <| Br.od h (fun p2 h => ?_) (fun p2 h => ?_)
 ·refine Len.map <| Ask.o h fun p3 h => Elem.o (by first | omega | (simp [A4] at * <;> omega)) <| Len.map <| Ask.o h fun p4 h => Elem.o (by first | omega | (simp [A4] at * <;> omega)) <| Br.on h (fun p5 h => ?_) (fun p5 h => ?_)
  ·cases h; exact ⟨rfl, rfl⟩
  refine Ask.o h fun p6 h => ?_
  cases h; exact ⟨rfl, rfl⟩
 cases h; exact ⟨rfl, rfl⟩
noncomputable def Kd (a0 : (List Int)) (b0 : (List Int)) : Option Bool :=
 if (↑a0.length : Int) ≠ (↑b0.length : Int) then
 some false
 else
 (Al (D6 a0 b0) (0 : Int)).bind fun t => match t with
 | (.inl _) => (some false)
 | (.inr _) => (some true)
theorem Alv {a0 : (List Int)} {b0 : (List Int)} {v : Bool} (h : Kd a0 b0 = some v) : Ret Try.prog Td [(slr false 1 Ae) a0, (slr false 1 Ae) b0] (V.bool v) := by
 refine A7 Aln (Nat.le_of_ble_eq_true rfl) ?_
 unfold Kd at h
 refine Len.map <| Len.map <| Br.on h (fun p1 h => ?_) (fun p1 h => ?_)
 ·cases h; exact (by rfl)
 refine LoopQ.o [5, 0, 1] (Nm a0 b0) (U6 a0 b0) h (fun s o h => Aeu s o h) (by rfl) (by rintro (_ | _) <;> rfl) ?_
 rintro (⟨⟩ | ⟨⟩) h
 ·try dsimp only at h
  cases h; exact (by rfl)
 try dsimp only at h
 cases h; exact (by rfl)
noncomputable def Ec (a0 : List (List Int)) (b0 : List (List Int)) : Int → Option (Int ⊕ (Unit ⊕ Unit)) := fun x5 =>
 if x5 < (↑a0.length : Int) then
 ask ((0 : Int) ≤ x5 ∧ x5 < (↑a0.length : Int)) <|
 ask ((0 : Int) ≤ x5 ∧ x5 < (↑b0.length : Int)) <|
 (Ln (nth a0 x5.toNat) (nth b0 x5.toNat)).bind fun r5 =>
 if (r5) = true then
 ask (InI (x5 + (1 : Int))) <|
 some (.inl (x5 + (1 : Int)))
 else
 some (.inr (.inl ()))
 else
 some (.inr (.inr ()))
def M7 (a0 : List (List Int)) (b0 : List (List Int)) : Int → St := fun s => [(5, A.val (Ae s)), (0, A.val ((slr false 1 (slr false 1 Ae)) (a0))), (1, A.val ((slr false 1 (slr false 1 Ae)) (b0)))]
def Uw (_a0 : List (List Int)) (_b0 : List (List Int)) : (Unit ⊕ Unit) → Tgt
 | (.inl _s) => (Ex.ret, [4], [(4, A.val (V.bool (false)))])
 | (.inr _s) => ((Ex.exit 0), [], [])
theorem Ae2 {a0 : List (List Int)} {b0 : List (List Int)} (x5 : Int) (o : Int ⊕ (Unit ⊕ Unit)) (h : Ec a0 b0 x5 = some o) : vc Try.prog Up (C6 [5, 0, 1] (M7 a0 b0) (Uw a0 b0) o) (M7 a0 b0 x5) := by
 unfold Ec at h
 try dsimp only at h
 refine Len.map <| Br.od h (fun p2 h => ?_) (fun p2 h => ?_)
 ·refine Len.map <| Ask.o h fun p3 h => Elem.o (by first | omega | (simp [A4] at * <;> omega)) <| Len.map <| Ask.o h fun p4 h => Elem.o (by first | omega | (simp [A4] at * <;> omega)) <| CallQ.o V.bool (by rfl) h (fun r h => Ao6 h) (fun r5 h => ?_)
  refine Br.flip <| Br.ob h (fun p6 h => ?_) (fun p6 h => ?_)
  ·refine Ask.o h fun p7 h => ?_
   cases h; exact ⟨rfl, rfl⟩
  cases h; exact ⟨rfl, rfl⟩
 cases h; exact ⟨rfl, rfl⟩
noncomputable def Hy (a0 : (List (List Int))) (b0 : (List (List Int))) : Option Bool :=
 if (↑a0.length : Int) ≠ (↑b0.length : Int) then
 some false
 else
 (Al (Ec a0 b0) (0 : Int)).bind fun t => match t with
 | (.inl _) => (some false)
 | (.inr _) => (some true)
theorem Zz {a0 : (List (List Int))} {b0 : (List (List Int))} {v : Bool} (h : Hy a0 b0 = some v) : Ret Try.prog N2 [(slr false 1 (slr false 1 Ae)) a0, (slr false 1 (slr false 1 Ae)) b0] (V.bool v) := by
 refine A7 Akr (Nat.le_of_ble_eq_true rfl) ?_
 unfold Hy at h
 refine Len.map <| Len.map <| Br.on h (fun p1 h => ?_) (fun p1 h => ?_)
 ·cases h; exact (by rfl)
 refine LoopQ.o [5, 0, 1] (M7 a0 b0) (Uw a0 b0) h (fun s o h => Ae2 s o h) (by rfl) (by rintro (_ | _) <;> rfl) ?_
 rintro (⟨⟩ | ⟨⟩) h
 ·try dsimp only at h
  cases h; exact (by rfl)
 try dsimp only at h
 cases h; exact (by rfl)
noncomputable def Bb (c0 : Sl1Cur) (n0 : Int) : Option (Int × Sl1Cur) :=
 if n0 ≤ (1 : Int) then
 some ((0 : Int), c0)
 else
 (Eo (c0)).bind fun (r2, u3) =>
 if n0 > (200 : Int) then
 ask (InI (r2 * (256 : Int))) <|
 (Eo (u3)).bind fun (r6, u7) =>
 ask (InI (r2 * (256 : Int) + r6)) <|
 ask (n0 ≠ (0 : Int)) <|
 some ((r2 * (256 : Int) + r6).tmod n0, u7)
 else
 ask (n0 ≠ (0 : Int)) <|
 some (r2.tmod n0, u3)
theorem Bz {c0 : Sl1Cur} {n0 : Int} {v : (Int × Sl1Cur)} (h : Bb c0 n0 = some v) : Sr Try.prog Bi [(rP true (Am false)) c0, Ae n0] (Ae v.1) 0 ((rP true (Am false)) v.2) := by
 refine Yv Acz (Nat.le_of_ble_eq_true rfl) ?_
 unfold Bb at h
 refine Br.od h (fun p1 h => ?_) (fun p1 h => ?_)
 ·cases h; exact ⟨(by rfl), (by rfl)⟩
 refine CallQ.io Ae (rP true (Am false)) (by rfl) rfl (fun _ => rfl) (fun _ => ⟨rfl, rfl⟩) rfl h (fun r h => Sm h) (fun r2 u3 h => ?_)
 refine Br.od h (fun p4 h => ?_) (fun p4 h => ?_)
 ·refine Ask.o h fun p5 h => CallQ.io Ae (rP true (Am false)) (by rfl) rfl (fun _ => rfl) (fun _ => ⟨rfl, rfl⟩) rfl h (fun r h => Sm h) (fun r6 u7 h => ?_)
  refine Ask.o h fun p8 h => Ask.o h fun p9 h => ?_
  cases h; exact ⟨(by rfl), (by rfl)⟩
 refine Ask.o h fun p10 h => ?_
 cases h; exact ⟨(by rfl), (by rfl)⟩
noncomputable def Ei (n0 : Int) (r0 : SRelation) : Int → Option (Int ⊕ (Unit ⊕ Unit)) := fun x18 =>
 if x18 < (↑r0.Tuples.length : Int) then
 ask ((0 : Int) ≤ x18 ∧ x18 < (↑r0.Tuples.length : Int)) <|
 if (↑(nth r0.Tuples x18.toNat).length : Int) ≠ r0.Arity then
 some (.inr (.inl ()))
 else
 (Hw (nth r0.Tuples x18.toNat) (n0)).bind fun r7 =>
 if (r7) = true then
 if x18 > (0 : Int) then
 ask (InI (x18 - (1 : Int))) <|
 ask ((0 : Int) ≤ x18 - (1 : Int) ∧ x18 - (1 : Int) < (↑r0.Tuples.length : Int)) <|
 (Dx (nth r0.Tuples (x18 - (1 : Int)).toNat) (nth r0.Tuples x18.toNat)).bind fun r12 =>
 if r12 ≥ (0 : Int) then
 some (.inr (.inl ()))
 else
 ask (InI (x18 + (1 : Int))) <|
 some (.inl (x18 + (1 : Int)))
 else
 ask (InI (x18 + (1 : Int))) <|
 some (.inl (x18 + (1 : Int)))
 else
 some (.inr (.inl ()))
 else
 some (.inr (.inr ()))
def I1 (n0 : Int) (r0 : SRelation) : Int → St := fun s => [(18, A.val (Ae s)), (17, A.val (Ae ((↑r0.Tuples.length : Int)))), (16, A.val ((slr false 1 (slr false 1 Ae)) (r0.Tuples))), (3, A.val ((rP true (Ah false)) (r0))), (0, A.val (Ae (n0)))]
def Ox (_n0 : Int) (_r0 : SRelation) : (Unit ⊕ Unit) → Tgt
 | (.inl _s) => (Ex.ret, [4], [(4, A.val (V.bool (false)))])
 | (.inr _s) => ((Ex.exit 0), [], [])
theorem Xr {n0 : Int} {r0 : SRelation} (x18 : Int) (o : Int ⊕ (Unit ⊕ Unit)) (h : Ei n0 r0 x18 = some o) : vc Try.prog Od (C6 [18, 17, 16, 3, 0] (I1 n0 r0) (Ox n0 r0) o) (I1 n0 r0 x18) := by
 unfold Ei at h
 try dsimp only at h
 refine Br.od h (fun p4 h => ?_) (fun p4 h => ?_)
 ·refine Len.map <| Ask.o h fun p5 h => Elem.o (by first | omega | (simp [A4] at * <;> omega)) <| Len.map <| Cells.lit rfl rfl <| Br.on h (fun p6 h => ?_) (fun p6 h => ?_)
  ·refine Br.yes <| Br.yes <| Br.yes <| Br.yes <| Br.yes <| Br.yes <| Br.yes <| Br.yes <| Br.yes <| Br.yes ?_
   cases h; exact ⟨rfl, rfl⟩
  refine Br.no <| Br.no <| CallQ.o V.bool (by rfl) h (fun r h => Zo h) (fun r7 h => ?_)
  refine Br.no <| Br.no <| Br.flip <| Br.ob h (fun p8 h => ?_) (fun p8 h => ?_)
  ·refine Br.no <| Br.no <| Br.od h (fun p9 h => ?_) (fun p9 h => ?_)
   ·refine Br.yes <| Cells.lit rfl rfl <| Br.yes <| Br.yes <| Ask.o h fun p10 h => Br.yes <| Len.map <| Ask.o h fun p11 h => Elem.o (by first | omega | (simp [A4] at * <;> omega)) <| Br.yes <| Br.yes <| Br.yes <| CallQ.o Ae (by rfl) h (fun r h => Pt h) (fun r12 h => ?_)
    refine Br.yes <| Br.no <| Br.yes <| Br.no <| Br.od h (fun p13 h => ?_) (fun p13 h => ?_)
    ·cases h; exact ⟨rfl, rfl⟩
    refine Ask.o h fun p14 h => ?_
    cases h; exact ⟨rfl, rfl⟩
   refine Br.no <| Br.no <| Br.no <| Br.no <| Br.no <| Br.no <| Br.no <| Br.no <| Br.no <| Br.no <| Br.no <| Br.no <| Ask.o h fun p15 h => ?_
   cases h; exact ⟨rfl, rfl⟩
  refine Br.yes <| Br.yes <| Br.yes <| Br.yes <| Br.yes ?_
  cases h; exact ⟨rfl, rfl⟩
 cases h; exact ⟨rfl, rfl⟩
noncomputable def Ds (n0 : Int) (r0 : SRelation) : Option Bool :=
 ((if r0.Arity < (1 : Int) then
 some (.inl ())
 else
 if r0.Arity > (3 : Int) then
 some (.inl ())
 else
 some (.inr ()) : Option (Unit ⊕ Unit))).bind fun t => match t with
 | (.inl _) => (some false)
 | (.inr _) => ((Al (Ei n0 r0) (0 : Int)).bind fun t => match t with
 | (.inl _) => (some false)
 | (.inr _) => (some true))
theorem L7 {n0 : Int} {r0 : SRelation} {v : Bool} (h : Ds n0 r0 = some v) : Ret Try.prog Ga [Ae n0, (Ah false) r0] (V.bool v) := by
 refine A7 Ac9 (Nat.le_of_ble_eq_true rfl) ?_
 unfold Ds at h
 refine CutQ.o (fun t : (Unit ⊕ Unit) => match t with | (.inl s) => (Ex.ret, [4], [(4, A.val (V.bool (false)))]) | (.inr s) => (Ex.normal, [3, 0], [(3, A.val ((rP true (Ah false)) (r0))), (0, A.val (Ae (n0)))])) h ?_ ?_
 ·intro t h
  refine Cells.lit rfl rfl <| Br.od h (fun p1 h => ?_) (fun p1 h => ?_)
  ·refine Br.yes <| Br.yes <| Br.yes <| Br.yes ?_
   cases h; exact ⟨rfl, rfl⟩
  refine Br.no <| Cells.lit rfl rfl <| Br.no <| Br.no <| Br.od h (fun p2 h => ?_) (fun p2 h => ?_)
  ·cases h; exact ⟨rfl, rfl⟩
  cases h; exact ⟨rfl, rfl⟩
 rintro (⟨⟩ | ⟨⟩) h
 ·try dsimp only at h
  cases h; exact (by rfl)
 try dsimp only at h
 refine Cells.lit rfl rfl <| Len.map <| LoopQ.o [18, 17, 16, 3, 0] (I1 n0 r0) (Ox n0 r0) h (fun s o h => Xr s o h) (by rfl) (by rintro (_ | _) <;> rfl) ?_
 rintro (⟨⟩ | ⟨⟩) h
 ·try dsimp only at h
  cases h; exact (by rfl)
 try dsimp only at h
 cases h; exact (by rfl)
noncomputable def Cd (n0 : Int) (arity0 : Int) : (Int × SRelation) → Option ((Int × SRelation) ⊕ SRelation) := fun (x7, x6) =>
 (Dh (n0) (arity0)).bind fun r6 =>
 if x7 < r6 then
 (Hz (x7) (arity0) (n0)).bind fun r8 =>
 ask ((x6.Tuples).length + ([r8]).length ≤ LIM) <|
 ask (InI (x7 + (1 : Int))) <|
 some (.inl (x7 + (1 : Int), { Arity := x6.Arity, Tuples := x6.Tuples ++ [r8] }))
 else
 some (.inr x6)
def Hk (n0 : Int) (arity0 : Int) : (Int × SRelation) → St := fun s => [(7, A.val (Ae s.1)), (6, A.val ((rP true (Ah true)) s.2)), (4, A.val ((rP true (Ah true)) ({ Arity := (0 : Int), Tuples := Ap (List Int) }))), (0, A.val (Ae (n0))), (1, A.val (Ae (arity0)))]
def L5 (_n0 : Int) (_arity0 : Int) : SRelation → Tgt
 | s => ((Ex.exit 0), [6, 4], [(6, A.val ((rP true (Ah true)) s)), (4, A.val ((rP true (Ah true)) ({ Arity := (0 : Int), Tuples := Ap (List Int) })))])
theorem Vt {n0 : Int} {arity0 : Int} (s : (Int × SRelation)) (o : (Int × SRelation) ⊕ SRelation) (h : Cd n0 arity0 s = some o) : vc Try.prog Ly (C6 [7, 6, 4, 0, 1] (Hk n0 arity0) (L5 n0 arity0) o) (Hk n0 arity0 s) := by
 obtain ⟨x7, x6⟩ := s
 unfold Cd at h
 try dsimp only at h
 refine CallQ.o Ae (by rfl) h (fun r h => Lc h) (fun r6 h => ?_)
 refine Br.od h (fun p7 h => ?_) (fun p7 h => ?_)
 ·refine Cells.lit rfl rfl <| CallP.o (slr true 1 Ae) (by rfl) h (fun r h => Zs h) (fun r8 h => ?_)
  refine BslQ.o (slr true 1 Ae) [r8] (by exact fun _ => ⟨rfl, rfl⟩) (by first | rfl | (simp only [Aa, V.fz, fzL, V.up, upL, Ab, Ac, Ad, slr, List.cons_append, List.nil_append]; done) | simp [Aa, V.fz, fzL, V.up, upL, Ab, Ac, Ad, slr]) <| NoOwn.own rfl <| Kid.lit rfl rfl <| Kid.lit rfl rfl <| SetKids.lit rfl <| AppQ.o (m := 1) (slr true 1 Ae) (by exact fun _ => ⟨rfl, rfl⟩) (x6.Tuples) ([r8]) (by rfl) (by rfl) h fun h => SetKids.lit rfl <| Ask.o h fun p9 h => ?_
  cases h; exact ⟨rfl, rfl⟩
 cases h; exact ⟨rfl, rfl⟩
noncomputable def C8 (n0 : Int) (arity0 : Int) : Option (SRelation × Bool) :=
 (((Gq (n0)).bind fun r1 =>
 if (r1) = true then
 if arity0 < (1 : Int) then
 some (.inl ())
 else
 if arity0 > (3 : Int) then
 some (.inl ())
 else
 some (.inr ())
 else
 some (.inl ()) : Option (Unit ⊕ Unit))).bind fun t => match t with
 | (.inl _) => (some ({ Arity := (0 : Int), Tuples := Ap (List Int) }, false))
 | (.inr _) => ((Al (Cd n0 arity0) ((0 : Int), { Arity := arity0, Tuples := Ap (List Int) })).bind fun q10_6 =>
 some (q10_6, true))
theorem Zf {n0 : Int} {arity0 : Int} {v : (SRelation × Bool)} (h : C8 n0 arity0 = some v) : Ret Try.prog J0 [Ae n0, Ae arity0] ((fun r => V.tup [(Ah true) r.1, V.bool r.2]) v) := by
 refine A7 Zd (Nat.le_of_ble_eq_true rfl) ?_
 unfold C8 at h
 refine CutQ.o (fun t : (Unit ⊕ Unit) => match t with | (.inl s) => (Ex.ret, [5, 4], [(5, A.val (V.bool (false))), (4, A.val ((rP true (Ah true)) ({ Arity := (0 : Int), Tuples := Ap (List Int) })))]) | (.inr s) => (Ex.normal, [4, 0, 1], [(4, A.val ((rP true (Ah true)) ({ Arity := (0 : Int), Tuples := Ap (List Int) }))), (0, A.val (Ae (n0))), (1, A.val (Ae (arity0)))])) h ?_ ?_
 ·intro t h
  refine CallQ.o V.bool (by rfl) h (fun r h => Z1 h) (fun r1 h => ?_)
  refine Br.flip <| Br.ob h (fun p2 h => ?_) (fun p2 h => ?_)
  ·refine Br.no <| Br.no <| Br.od h (fun p3 h => ?_) (fun p3 h => ?_)
   ·refine Br.yes <| Br.yes <| Br.yes <| SetKids.lit rfl ?_
    cases h; exact ⟨rfl, rfl⟩
   refine Br.no <| Br.no <| Br.od h (fun p4 h => ?_) (fun p4 h => ?_)
   ·refine SetKids.lit rfl ?_
    cases h; exact ⟨rfl, rfl⟩
   cases h; exact ⟨rfl, rfl⟩
  refine Br.yes <| Br.yes <| Br.yes <| Br.yes <| Br.yes <| Br.yes <| SetKids.lit rfl ?_
  cases h; exact ⟨rfl, rfl⟩
 rintro (⟨⟩ | ⟨⟩) h
 ·try dsimp only at h
  cases h; exact (by rfl)
 try dsimp only at h
 refine SetKids.lit rfl <| LoopQ.o [7, 6, 4, 0, 1] (Hk n0 arity0) (L5 n0 arity0) h (fun s o h => Vt s o h) (by rfl) (fun _ => rfl) ?_
 rintro q10_6 h
 try dsimp only at h
 refine Cells.lit rfl rfl <| SetKids.lit rfl ?_
 cases h; exact (by rfl)
end Go.Proofs.Ytjcekpmojnnmbaa.Ax
