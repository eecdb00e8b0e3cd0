/-
 What the functions compute, as functions on plain data, and that the program does compute it; written by program.
-/
import Derived.Test.YthagmdhmgailfaaGreatCode
import Derived.Test.YthagmdhmgailfaaGreatG1
import Derived.Test.YthagmdhmgailfaaGreatG2
namespace Go.Proofs.YthagmdhmgailfaaGreat.Ax
open Go
set_option maxRecDepth 100000
set_option maxHeartbeats 4000000
noncomputable def Av (c0 : Sl1Cur) (n0 : Int) : Option (Int × Sl1Cur) :=
 if n0 ≤ (1 : Int) then
 some ((0 : Int), c0)
 else
 (Fa (c0)).bind fun (r2, u3) =>
 if n0 > (200 : Int) then
 ask (InI (r2 * (256 : Int))) <|
 (Fa (u3)).bind fun (r6, u7) =>
 ask (InI (r2 * (256 : Int) + r6)) <|
 ask (n0 ≠ (0 : Int)) <|
 some ((r2 * (256 : Int) + r6).tmod n0, u7)
 else
 ask (n0 ≠ (0 : Int)) <|
 some (r2.tmod n0, u3)
theorem A3 {c0 : Sl1Cur} {n0 : Int} {v : (Int × Sl1Cur)} (h : Av c0 n0 = some v) : Wy Tryz.prog Aw [(rP true (Aj false)) c0, Af n0] (Af v.1) 0 ((rP true (Aj false)) v.2) := by
 refine N6 Ac9 (Nat.le_of_ble_eq_true rfl) ?_
 unfold Av at h
 refine Br.od h (fun p1 h => ?_) (fun p1 h => ?_)
 ·cases h; exact ⟨(by rfl), (by rfl)⟩
 refine CallQ.io Af (rP true (Aj false)) (by rfl) rfl (fun _ => rfl) (fun _ => ⟨rfl, rfl⟩) rfl h (fun r h => S7 h) (fun r2 u3 h => ?_)
 refine Br.od h (fun p4 h => ?_) (fun p4 h => ?_)
 ·refine Ask.o h fun p5 h => CallQ.io Af (rP true (Aj false)) (by rfl) rfl (fun _ => rfl) (fun _ => ⟨rfl, rfl⟩) rfl h (fun r h => S7 h) (fun r6 u7 h => ?_)
  refine Ask.o h fun p8 h => Ask.o h fun p9 h => ?_
  cases h; exact ⟨(by rfl), (by rfl)⟩
 refine Ask.o h fun p10 h => ?_
 cases h; exact ⟨(by rfl), (by rfl)⟩
noncomputable def D9 (p0 : List Int) (r3 : Int) (r6 : Int) : (Int × (List Int)) → Option ((Int × (List Int)) ⊕ (List Int)) := fun (x10, x9) =>
 if x10 < (↑p0.length : Int) then
 ask ((0 : Int) ≤ x10 ∧ x10 < (↑p0.length : Int)) <|
 if nth p0 x10.toNat = r6 then
 ask ((x9).length + ([r3]).length ≤ LIM) <|
 ask (InI (x10 + (1 : Int))) <|
 some (.inl (x10 + (1 : Int), x9 ++ [r3]))
 else
 ask ((0 : Int) ≤ x10 ∧ x10 < (↑p0.length : Int)) <|
 ask ((x9).length + ([nth p0 x10.toNat]).length ≤ LIM) <|
 ask (InI (x10 + (1 : Int))) <|
 some (.inl (x10 + (1 : Int), x9 ++ [nth p0 x10.toNat]))
 else
 some (.inr x9)
def Mi (p0 : List Int) (r3 : Int) (r6 : Int) : (Int × (List Int)) → St := fun s => [(10, A.val (Af s.1)), (9, A.val ((slr true 1 Af) s.2)), (8, A.val (Af (r6))), (7, A.val (Af (r3))), (0, A.val ((slr false 1 Af) (p0)))]
def S6 (_p0 : List Int) (_r3 : Int) (_r6 : Int) : (List Int) → Tgt
 | s => ((Ex.exit 0), [9], [(9, A.val ((slr true 1 Af) s))])
theorem Ac5 {p0 : List Int} {r3 : Int} {r6 : Int} (s : (Int × (List Int))) (o : (Int × (List Int)) ⊕ (List Int)) (h : D9 p0 r3 r6 s = some o) : vc Tryz.prog Tk (Da [10, 9, 8, 7, 0] (Mi p0 r3 r6) (S6 p0 r3 r6) o) (Mi p0 r3 r6 s) := by
 obtain ⟨x10, x9⟩ := s
 unfold D9 at h
 try dsimp only at h
 refine Len.map <| Br.od h (fun p7 h => ?_) (fun p7 h => ?_)
 ·refine Len.map <| Ask.o h fun p8 h => Elem.o (by first | omega | (simp [Ar] at * <;> omega)) <| Br.oe h (fun p9 h => ?_) (fun p9 h => ?_)
  ·refine BslQ.o Af [r3] (by exact fun _ => ⟨rfl, rfl⟩) (by rfl) <| NoOwn.o (fun _ => rfl) <| AppQ.o (m := 1) Af (by exact fun _ => ⟨rfl, rfl⟩) (x9) ([r3]) (by rfl) (by rfl) h fun h => Ask.o h fun p10 h => ?_
   cases h; exact ⟨rfl, rfl⟩
  refine Len.map <| Ask.o h fun p11 h => Elem.o (by first | omega | (simp [Ar] at * <;> omega)) <| BslQ.o Af ([nth p0 x10.toNat]) (by exact fun _ => ⟨rfl, rfl⟩) (by rfl) <| NoOwn.o (fun _ => rfl) <| AppQ.o (m := 1) Af (by exact fun _ => ⟨rfl, rfl⟩) (x9) ([nth p0 x10.toNat]) (by rfl) (by rfl) h fun h => Ask.o h fun p12 h => ?_
  cases h; exact ⟨rfl, rfl⟩
 cases h; exact ⟨rfl, rfl⟩
noncomputable def D4 (p0 : (List Int)) (x0 : Int) (y0 : Int) : Option (List Int) :=
 ask ((0 : Int) ≤ x0 ∧ x0 < (↑p0.length : Int)) <|
 ask ((0 : Int) ≤ y0 ∧ y0 < (↑p0.length : Int)) <|
 (E9 (nth p0 x0.toNat) (nth p0 y0.toNat)).bind fun r3 =>
 ask ((0 : Int) ≤ x0 ∧ x0 < (↑p0.length : Int)) <|
 ask ((0 : Int) ≤ y0 ∧ y0 < (↑p0.length : Int)) <|
 (Io (nth p0 x0.toNat) (nth p0 y0.toNat)).bind fun r6 =>
 (Al (D9 p0 r3 r6) ((0 : Int), Aq Int)).bind fun q13_9 =>
 some q13_9
theorem Jk {p0 : (List Int)} {x0 : Int} {y0 : Int} {v : (List Int)} (h : D4 p0 x0 y0 = some v) : Ret Tryz.prog Gf [(slr false 1 Af) p0, Af x0, Af y0] ((slr true 1 Af) v) := by
 refine Ay Ajg (Nat.le_of_ble_eq_true rfl) ?_
 unfold D4 at h
 refine Len.map <| Ask.o h fun p1 h => Elem.o (by first | omega | (simp [Ar] at * <;> omega)) <| Len.map <| Ask.o h fun p2 h => Elem.o (by first | omega | (simp [Ar] at * <;> omega)) <| CallP.o Af (by rfl) h (fun r h => Za h) (fun r3 h => ?_)
 refine Len.map <| Ask.o h fun p4 h => Elem.o (by first | omega | (simp [Ar] at * <;> omega)) <| Len.map <| Ask.o h fun p5 h => Elem.o (by first | omega | (simp [Ar] at * <;> omega)) <| CallQ.o Af (by rfl) h (fun r h => Aay h) (fun r6 h => ?_)
 refine BslQ.o Af (Aq Int) (by exact fun _ => ⟨rfl, rfl⟩) (by rfl) <| LoopQ.o [10, 9, 8, 7, 0] (Mi p0 r3 r6) (S6 p0 r3 r6) h (fun s o h => Ac5 s o h) (by rfl) (fun _ => rfl) ?_
 rintro q13_9 h
 try dsimp only at h
 cases h; exact (by rfl)
noncomputable def Hz (q0 : List Int) : (Int × (List Int)) → Option ((Int × (List Int)) ⊕ (List Int)) := fun (x12, x5) =>
 if x12 < (↑q0.length : Int) then
 ask ((0 : Int) ≤ x12 ∧ x12 < (↑q0.length : Int)) <|
 (Ic (x5) (x12) (nth q0 x12.toNat)).bind fun (_r4, u5) =>
 ask (InI (x12 + (1 : Int))) <|
 some (.inl (x12 + (1 : Int), u5))
 else
 some (.inr x5)
def Q1 (q0 : List Int) : (Int × (List Int)) → St := fun s => [(12, A.val (Af s.1)), (11, A.val (Af ((↑q0.length : Int)))), (10, A.val ((slr false 1 Af) (q0))), (5, A.val ((slr true 1 Af) s.2))]
def Zr (_q0 : List Int) : (List Int) → Tgt
 | s => ((Ex.exit 0), [5], [(5, A.val ((slr true 1 Af) s))])
theorem Aj4 {q0 : List Int} (s : (Int × (List Int))) (o : (Int × (List Int)) ⊕ (List Int)) (h : Hz q0 s = some o) : vc Tryz.prog Z0 (Da [12, 11, 10, 5] (Q1 q0) (Zr q0) o) (Q1 q0 s) := by
 obtain ⟨x12, x5⟩ := s
 unfold Hz at h
 try dsimp only at h
 refine Br.od h (fun p2 h => ?_) (fun p2 h => ?_)
 ·refine Len.map <| Ask.o h fun p3 h => Elem.o (by first | omega | (simp [Ar] at * <;> omega)) <| CallQ.io V.bool (slr true 1 Af) (by rfl) rfl (fun _ => rfl) (fun _ => ⟨rfl, rfl⟩) rfl h (fun r h => Wp h) (fun r4 u5 h => ?_)
  refine Ask.o h fun p6 h => ?_
  cases h; exact ⟨rfl, rfl⟩
 cases h; exact ⟨rfl, rfl⟩
noncomputable def Lr (p0 : (List Int)) (q0 : (List Int)) : Option (List Int) :=
 (G1 (p0)).bind fun r1 =>
 (Al (Hz q0) ((0 : Int), r1)).bind fun q7_5 =>
 some q7_5
theorem Ago {p0 : (List Int)} {q0 : (List Int)} {v : (List Int)} (h : Lr p0 q0 = some v) : Ret Tryz.prog Sr [(slr false 1 Af) p0, (slr false 1 Af) q0] ((slr true 1 Af) v) := by
 refine Ay Aru (Nat.le_of_ble_eq_true rfl) ?_
 unfold Lr at h
 refine CallQ.o (slr true 1 Af) (by rfl) h (fun r h => Wu h) (fun r1 h => ?_)
 refine Len.map <| LoopQ.o [12, 11, 10, 5] (Q1 q0) (Zr q0) h (fun s o h => Aj4 s o h) (by rfl) (fun _ => rfl) ?_
 rintro q7_5 h
 try dsimp only at h
 cases h; exact (by rfl)
noncomputable def A5 (a0 : SAlgebra) (x18 : Int) (_x10 : Int) (x9 : Int) : (Int × Bool × Bool × (List Int)) → Option ((Int × Bool × Bool × (List Int)) ⊕ (Bool × Bool × (List Int))) := fun (x31, x6''', x5''', x67''') =>
 if x31 < (↑(nth a0.Ops x18.toNat).Table.length : Int) then
 ask ((0 : Int) ≤ x31 ∧ x31 < (↑(nth a0.Ops x18.toNat).Table.length : Int)) <|
 ask (x9 ≠ (0 : Int) ∧ InI (x31.tdiv x9)) <|
 ask (a0.Size ≠ (0 : Int)) <|
 ask ((0 : Int) ≤ (x31.tdiv x9).tmod a0.Size ∧ (x31.tdiv x9).tmod a0.Size < (↑x67'''.length : Int)) <|
 ask (InI (nth x67''' ((x31.tdiv x9).tmod a0.Size).toNat - (x31.tdiv x9).tmod a0.Size)) <|
 ask (InI ((nth x67''' ((x31.tdiv x9).tmod a0.Size).toNat - (x31.tdiv x9).tmod a0.Size) * x9)) <|
 ask (InI (x31 + (nth x67''' ((x31.tdiv x9).tmod a0.Size).toNat - (x31.tdiv x9).tmod a0.Size) * x9)) <|
 ask ((0 : Int) ≤ x31 + (nth x67''' ((x31.tdiv x9).tmod a0.Size).toNat - (x31.tdiv x9).tmod a0.Size) * x9 ∧ x31 + (nth x67''' ((x31.tdiv x9).tmod a0.Size).toNat - (x31.tdiv x9).tmod a0.Size) * x9 < (↑(nth a0.Ops x18.toNat).Table.length : Int)) <|
 (Ic (x67''') (nth (nth a0.Ops x18.toNat).Table x31.toNat) (nth (nth a0.Ops x18.toNat).Table (x31 + (nth x67''' ((x31.tdiv x9).tmod a0.Size).toNat - (x31.tdiv x9).tmod a0.Size) * x9).toNat)).bind fun (r14, u15) =>
 if (r14) = true then
 ask (InI (x31 + (1 : Int))) <|
 some (.inl (x31 + (1 : Int), true, true, u15))
 else
 ask (InI (x31 + (1 : Int))) <|
 some (.inl (x31 + (1 : Int), x6''', x5''', u15))
 else
 some (.inr (x6''', x5''', x67'''))
def Hi (a0 : SAlgebra) (x18 : Int) (x10 : Int) (x9 : Int) : (Int × Bool × Bool × (List Int)) → St := fun s => [(31, A.val (Af s.1)), (30, A.val (Af ((↑(nth a0.Ops x18.toNat).Table.length : Int)))), (29, A.val ((slr false 1 Af) ((nth a0.Ops x18.toNat).Table))), (10, A.val (Af (x10))), (9, A.val (Af (x9))), (8, A.val ((rP true (Bd false)) (nth a0.Ops x18.toNat))), (18, A.val (Af (x18))), (17, A.val (Af ((↑a0.Ops.length : Int)))), (16, A.val ((slr false 2 (Bd false)) (a0.Ops))), (6, A.val (V.bool s.2.1)), (5, A.val (V.bool s.2.2.1)), (2, A.val ((rP true (Ag false)) (a0))), (1, A.ref 67 []), (67, A.val ((slr true 1 Af) s.2.2.2))]
def Kb (a0 : SAlgebra) (x18 : Int) (x10 : Int) (x9 : Int) : (Bool × Bool × (List Int)) → Tgt
 | s => ((Ex.exit 6), [10, 9, 8, 18, 17, 16, 6, 5, 2, 1, 67], [(10, A.val (Af (x10))), (9, A.val (Af (x9))), (8, A.val ((rP true (Bd false)) (nth a0.Ops x18.toNat))), (18, A.val (Af (x18))), (17, A.val (Af ((↑a0.Ops.length : Int)))), (16, A.val ((slr false 2 (Bd false)) (a0.Ops))), (6, A.val (V.bool s.1)), (5, A.val (V.bool s.2.1)), (2, A.val ((rP true (Ag false)) (a0))), (1, A.ref 67 []), (67, A.val ((slr true 1 Af) s.2.2))])
theorem T5 {a0 : SAlgebra} {x18 : Int} {x10 : Int} {x9 : Int} (s : (Int × Bool × Bool × (List Int))) (o : (Int × Bool × Bool × (List Int)) ⊕ (Bool × Bool × (List Int))) (h : A5 a0 x18 x10 x9 s = some o) : vc Tryz.prog Kg (Da [31, 30, 29, 10, 9, 8, 18, 17, 16, 6, 5, 2, 1, 67] (Hi a0 x18 x10 x9) (Kb a0 x18 x10 x9) o) (Hi a0 x18 x10 x9 s) := by
 obtain ⟨x31, x6''', x5''', x67'''⟩ := s
 unfold A5 at h
 try dsimp only at h
 refine Br.od h (fun p5 h => ?_) (fun p5 h => ?_)
 ·refine Len.map <| Ask.o h fun p6 h => Elem.o (by first | omega | (simp [Ar] at * <;> omega)) <| Ask.o h fun p7 h => Cells.lit rfl rfl <| Ask.o h fun p8 h => Cells.lit rfl rfl <| Len.map <| Ask.o h fun p9 h => Cells.one (fun _ => ⟨rfl, rfl⟩) (by first | omega | (simp [Ar] at * <;> omega)) <| Ask.o h fun p10 h => Ask.o h fun p11 h => Ask.o h fun p12 h => Len.map <| Ask.o h fun p13 h => Elem.o (by first | omega | (simp [Ar] at * <;> omega)) <| CallQ.io V.bool (slr true 1 Af) (by rfl) rfl (fun _ => rfl) (fun _ => ⟨rfl, rfl⟩) rfl h (fun r h => Wp h) (fun r14 u15 h => ?_)
  refine Br.ob h (fun p16 h => ?_) (fun p16 h => ?_)
  ·refine Ask.o h fun p17 h => ?_
   cases h; exact ⟨rfl, rfl⟩
  refine Ask.o h fun p18 h => ?_
  cases h; exact ⟨rfl, rfl⟩
 cases h; exact ⟨rfl, rfl⟩
noncomputable def A6 (a0 : SAlgebra) (x18 : Int) : (Int × Int × Bool × Bool × (List Int)) → Option ((Int × Int × Bool × Bool × (List Int)) ⊕ (Bool × Bool × (List Int))) := fun (x10, x9, x6'', x5'', x67'') =>
 if x10 < (nth a0.Ops x18.toNat).Arity then
 (Al (A5 a0 x18 x10 x9) ((0 : Int), x6'', x5'', x67'')).bind fun (q19_6, q19_5, q19_67) =>
 ask (InI (x9 * a0.Size)) <|
 ask (InI (x10 + (1 : Int))) <|
 some (.inl (x10 + (1 : Int), x9 * a0.Size, q19_6, q19_5, q19_67))
 else
 some (.inr (x6'', x5'', x67''))
def G9 (a0 : SAlgebra) (x18 : Int) : (Int × Int × Bool × Bool × (List Int)) → St := fun s => [(10, A.val (Af s.1)), (9, A.val (Af s.2.1)), (8, A.val ((rP true (Bd false)) (nth a0.Ops x18.toNat))), (18, A.val (Af (x18))), (17, A.val (Af ((↑a0.Ops.length : Int)))), (16, A.val ((slr false 2 (Bd false)) (a0.Ops))), (6, A.val (V.bool s.2.2.1)), (5, A.val (V.bool s.2.2.2.1)), (2, A.val ((rP true (Ag false)) (a0))), (1, A.ref 67 []), (67, A.val ((slr true 1 Af) s.2.2.2.2))]
def Kc (a0 : SAlgebra) (x18 : Int) : (Bool × Bool × (List Int)) → Tgt
 | s => ((Ex.exit 4), [18, 17, 16, 6, 5, 2, 1, 67], [(18, A.val (Af (x18))), (17, A.val (Af ((↑a0.Ops.length : Int)))), (16, A.val ((slr false 2 (Bd false)) (a0.Ops))), (6, A.val (V.bool s.1)), (5, A.val (V.bool s.2.1)), (2, A.val ((rP true (Ag false)) (a0))), (1, A.ref 67 []), (67, A.val ((slr true 1 Af) s.2.2))])
theorem Uo {a0 : SAlgebra} {x18 : Int} (s : (Int × Int × Bool × Bool × (List Int))) (o : (Int × Int × Bool × Bool × (List Int)) ⊕ (Bool × Bool × (List Int))) (h : A6 a0 x18 s = some o) : vc Tryz.prog Kl (Da [10, 9, 8, 18, 17, 16, 6, 5, 2, 1, 67] (G9 a0 x18) (Kc a0 x18) o) (G9 a0 x18 s) := by
 obtain ⟨x10, x9, x6'', x5'', x67''⟩ := s
 unfold A6 at h
 try dsimp only at h
 refine Cells.lit rfl rfl <| Br.od h (fun p4 h => ?_) (fun p4 h => ?_)
 ·refine Cells.lit rfl rfl <| Len.map <| LoopQ.o [31, 30, 29, 10, 9, 8, 18, 17, 16, 6, 5, 2, 1, 67] (Hi a0 x18 x10 x9) (Kb a0 x18 x10 x9) h (fun s o h => T5 s o h) (by rfl) (fun _ => rfl) ?_
  rintro ⟨q19_6, q19_5, q19_67⟩ h
  try dsimp only at h
  refine Cells.lit rfl rfl <| Ask.o h fun p20 h => Ask.o h fun p21 h => ?_
  cases h; exact ⟨rfl, rfl⟩
 cases h; exact ⟨rfl, rfl⟩
noncomputable def At (a0 : SAlgebra) : (Int × Bool × Bool × (List Int)) → Option ((Int × Bool × Bool × (List Int)) ⊕ (Bool × Bool × (List Int))) := fun (x18, x6', x5', x67') =>
 if x18 < (↑a0.Ops.length : Int) then
 ask ((0 : Int) ≤ x18 ∧ x18 < (↑a0.Ops.length : Int)) <|
 (Al (A6 a0 x18) ((0 : Int), (1 : Int), x6', x5', x67')).bind fun (q22_6, q22_5, q22_67) =>
 ask (InI (x18 + (1 : Int))) <|
 some (.inl (x18 + (1 : Int), q22_6, q22_5, q22_67))
 else
 some (.inr (x6', x5', x67'))
def Hk (a0 : SAlgebra) : (Int × Bool × Bool × (List Int)) → St := fun s => [(18, A.val (Af s.1)), (17, A.val (Af ((↑a0.Ops.length : Int)))), (16, A.val ((slr false 2 (Bd false)) (a0.Ops))), (6, A.val (V.bool s.2.1)), (5, A.val (V.bool s.2.2.1)), (2, A.val ((rP true (Ag false)) (a0))), (1, A.ref 67 []), (67, A.val ((slr true 1 Af) s.2.2.2))]
def Ko (a0 : SAlgebra) : (Bool × Bool × (List Int)) → Tgt
 | s => ((Ex.exit 2), [6, 5, 2, 1, 67], [(6, A.val (V.bool s.1)), (5, A.val (V.bool s.2.1)), (2, A.val ((rP true (Ag false)) (a0))), (1, A.ref 67 []), (67, A.val ((slr true 1 Af) s.2.2))])
theorem Ty {a0 : SAlgebra} (s : (Int × Bool × Bool × (List Int))) (o : (Int × Bool × Bool × (List Int)) ⊕ (Bool × Bool × (List Int))) (h : At a0 s = some o) : vc Tryz.prog Kz (Da [18, 17, 16, 6, 5, 2, 1, 67] (Hk a0) (Ko a0) o) (Hk a0 s) := by
 obtain ⟨x18, x6', x5', x67'⟩ := s
 unfold At at h
 try dsimp only at h
 refine Br.od h (fun p2 h => ?_) (fun p2 h => ?_)
 ·refine Len.map <| Ask.o h fun p3 h => Elem.o (by first | omega | (simp [Ar] at * <;> omega)) <| SetKids.lit rfl <| LoopQ.o [10, 9, 8, 18, 17, 16, 6, 5, 2, 1, 67] (G9 a0 x18) (Kc a0 x18) h (fun s o h => Uo s o h) (by rfl) (fun _ => rfl) ?_
  rintro ⟨q22_6, q22_5, q22_67⟩ h
  try dsimp only at h
  refine Ask.o h fun p23 h => ?_
  cases h; exact ⟨rfl, rfl⟩
 cases h; exact ⟨rfl, rfl⟩
noncomputable def Bw (a0 : SAlgebra) : (Bool × Bool × (List Int)) → Option ((Bool × Bool × (List Int)) ⊕ (Bool × (List Int))) := fun (x6, x5, x67) =>
 if (x6) = true then
 (Al (At a0) ((0 : Int), false, x5, x67)).bind fun (q24_6, q24_5, q24_67) =>
 some (.inl (q24_6, q24_5, q24_67))
 else
 some (.inr (x5, x67))
def G6 (a0 : SAlgebra) : (Bool × Bool × (List Int)) → St := fun s => [(6, A.val (V.bool s.1)), (5, A.val (V.bool s.2.1)), (2, A.val ((rP true (Ag false)) (a0))), (1, A.ref 67 []), (67, A.val ((slr true 1 Af) s.2.2))]
def Kn (_a0 : SAlgebra) : (Bool × (List Int)) → Tgt
 | s => ((Ex.exit 0), [5, 67], [(5, A.val (V.bool s.1)), (67, A.val ((slr true 1 Af) s.2))])
theorem Ug {a0 : SAlgebra} (s : (Bool × Bool × (List Int))) (o : (Bool × Bool × (List Int)) ⊕ (Bool × (List Int))) (h : Bw a0 s = some o) : vc Tryz.prog Kf (Da [6, 5, 2, 1, 67] (G6 a0) (Kn a0) o) (G6 a0 s) := by
 obtain ⟨x6, x5, x67⟩ := s
 unfold Bw at h
 try dsimp only at h
 refine Br.ob h (fun p1 h => ?_) (fun p1 h => ?_)
 ·refine Cells.lit rfl rfl <| Len.map <| LoopQ.o [18, 17, 16, 6, 5, 2, 1, 67] (Hk a0) (Ko a0) h (fun s o h => Ty s o h) (by rfl) (fun _ => rfl) ?_
  rintro ⟨q24_6, q24_5, q24_67⟩ h
  try dsimp only at h
  cases h; exact ⟨rfl, rfl⟩
 cases h; exact ⟨rfl, rfl⟩
noncomputable def B3 (a0 : SAlgebra) (p0 : (List Int)) : Option (Bool × (List Int)) :=
 (Al (Bw a0) (true, false, p0)).bind fun (q25_5, q25_67) =>
 some (q25_5, q25_67)
theorem Mo {a0 : SAlgebra} {p0 : (List Int)} {v : (Bool × (List Int))} (h : B3 a0 p0 = some v) : Wy Tryz.prog Gh [(Ag false) a0, (slr true 1 Af) p0] (V.bool v.1) 1 ((slr true 1 Af) v.2) := by
 refine N6 Xv (Nat.le_of_ble_eq_true rfl) ?_
 unfold B3 at h
 refine LoopQ.o [6, 5, 2, 1, 67] (G6 a0) (Kn a0) h (fun s o h => Ug s o h) (by rfl) (fun _ => rfl) ?_
 rintro ⟨q25_5, q25_67⟩ h
 try dsimp only at h
 cases h; exact ⟨(by rfl), (by rfl)⟩
noncomputable def I6 (row0 : (List Int)) (other0 : (List Int)) : Option Bool :=
 (Gv (other0) (row0)).bind fun r1 =>
 some r1
theorem Adp {row0 : (List Int)} {other0 : (List Int)} {v : Bool} (h : I6 row0 other0 = some v) : Ret Tryz.prog Iy [(slr false 1 Af) row0, (slr false 1 Af) other0] (V.bool v) := by
 refine Ay Aea (Nat.le_of_ble_eq_true rfl) ?_
 unfold I6 at h
 refine CallQ.o V.bool (by rfl) h (fun r h => Qh h) (fun r1 h => ?_)
 cases h; exact (by rfl)
noncomputable def Cg (n0 : Int) (p0 : List Int) : Int → Option (Int ⊕ (Unit ⊕ Unit)) := fun x5 =>
 if x5 < n0 then
 ask ((0 : Int) ≤ x5 ∧ x5 < (↑p0.length : Int)) <|
 (Ee (nth p0 x5.toNat) ((0 : Int)) (x5)).bind fun r4 =>
 if (r4) = true then
 ask ((0 : Int) ≤ x5 ∧ x5 < (↑p0.length : Int)) <|
 ask ((0 : Int) ≤ nth p0 x5.toNat ∧ nth p0 x5.toNat < (↑p0.length : Int)) <|
 ask ((0 : Int) ≤ x5 ∧ x5 < (↑p0.length : Int)) <|
 if nth p0 (nth p0 x5.toNat).toNat ≠ nth p0 x5.toNat then
 some (.inr (.inl ()))
 else
 ask (InI (x5 + (1 : Int))) <|
 some (.inl (x5 + (1 : Int)))
 else
 some (.inr (.inl ()))
 else
 some (.inr (.inr ()))
def Iv (n0 : Int) (p0 : List Int) : Int → St := fun s => [(5, A.val (Af s)), (0, A.val (Af (n0))), (1, A.val ((slr false 1 Af) (p0)))]
def Mq (_n0 : Int) (_p0 : List Int) : (Unit ⊕ Unit) → Tgt
 | (.inl _s) => (Ex.ret, [4], [(4, A.val (V.bool (false)))])
 | (.inr _s) => ((Ex.exit 0), [], [])
theorem Xz {n0 : Int} {p0 : List Int} (x5 : Int) (o : Int ⊕ (Unit ⊕ Unit)) (h : Cg n0 p0 x5 = some o) : vc Tryz.prog Mr (Da [5, 0, 1] (Iv n0 p0) (Mq n0 p0) o) (Iv n0 p0 x5) := by
 unfold Cg at h
 try dsimp only at h
 refine Br.od h (fun p2 h => ?_) (fun p2 h => ?_)
 ·refine Len.map <| Ask.o h fun p3 h => Elem.o (by first | omega | (simp [Ar] at * <;> omega)) <| CallP.o V.bool (by rfl) h (fun r h => Lx h) (fun r4 h => ?_)
  refine Br.flip <| Br.ob h (fun p5 h => ?_) (fun p5 h => ?_)
  ·refine Br.no <| Br.no <| Br.no <| Len.map <| Ask.o h fun p6 h => Elem.o (by first | omega | (simp [Ar] at * <;> omega)) <| Br.no <| Br.no <| Len.map <| Ask.o h fun p7 h => Elem.o (by first | omega | (simp [Ar] at * <;> omega)) <| Br.no <| Br.no <| Br.no <| Br.no <| Len.map <| Ask.o h fun p8 h => Elem.o (by first | omega | (simp [Ar] at * <;> omega)) <| Br.no <| Br.no <| Br.no <| Br.on h (fun p9 h => ?_) (fun p9 h => ?_)
   ·cases h; exact ⟨rfl, rfl⟩
   refine Ask.o h fun p10 h => ?_
   cases h; exact ⟨rfl, rfl⟩
  refine Br.yes <| Br.yes <| Br.yes <| Br.yes <| Br.yes <| Br.yes <| Br.yes <| Br.yes <| Br.yes <| Br.yes <| Br.yes <| Br.yes <| Br.yes ?_
  cases h; exact ⟨rfl, rfl⟩
 cases h; exact ⟨rfl, rfl⟩
noncomputable def Gd (n0 : Int) (p0 : (List Int)) : Option Bool :=
 if (↑p0.length : Int) ≠ n0 then
 some false
 else
 (Al (Cg n0 p0) (0 : Int)).bind fun t => match t with
 | (.inl _) => (some false)
 | (.inr _) => (some true)
theorem Abz {n0 : Int} {p0 : (List Int)} {v : Bool} (h : Gd n0 p0 = some v) : Ret Tryz.prog Lh [Af n0, (slr false 1 Af) p0] (V.bool v) := by
 refine Ay Ack (Nat.le_of_ble_eq_true rfl) ?_
 unfold Gd at h
 refine Len.map <| Br.on h (fun p1 h => ?_) (fun p1 h => ?_)
 ·cases h; exact (by rfl)
 refine LoopQ.o [5, 0, 1] (Iv n0 p0) (Mq n0 p0) h (fun s o h => Xz s o h) (by rfl) (by rintro (_ | _) <;> rfl) ?_
 rintro (⟨⟩ | ⟨⟩) h
 ·try dsimp only at h
  cases h; exact (by rfl)
 try dsimp only at h
 cases h; exact (by rfl)
end Go.Proofs.YthagmdhmgailfaaGreat.Ax
