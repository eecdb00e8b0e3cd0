/-
 What the functions compute, as functions on plain data, and that the program does compute it; written by program.
-/
import Derived.Test.YthagmdhmgailfaaGreatCode
import Derived.Test.YthagmdhmgailfaaGreatG1
import Derived.Test.YthagmdhmgailfaaGreatG2
import Derived.Test.YthagmdhmgailfaaGreatG4
import Derived.Test.YthagmdhmgailfaaGreatG6
namespace Go.Proofs.YthagmdhmgailfaaGreat.Ax
open Go
set_option maxRecDepth 100000
set_option maxHeartbeats 4000000
noncomputable def Cc (a0 : SAlgebra) (p0 : List Int) (x6 : Int) (x7 : Int) (r6 : List Int) : (Int × (List Int)) → Option ((Int × (List Int)) ⊕ (List Int)) := fun (x9, x5'') =>
 if x9 < (↑r6.length : Int) then
 (Gz (r6)).bind fun r8 =>
 ask ((0 : Int) ≤ x9 ∧ x9 < (↑r6.length : Int)) <|
 ask ((0 : Int) ≤ nth r6 x9.toNat ∧ nth r6 x9.toNat < (↑p0.length : Int)) <|
 ask ((0 : Int) ≤ x9 ∧ x9 < (↑r8.length : Int)) <|
 ask ((0 : Int) ≤ x6 ∧ x6 < (↑a0.Ops.length : Int)) <|
 ask ((0 : Int) ≤ x7 ∧ x7 < (↑(nth a0.Ops x6.toNat).Table.length : Int)) <|
 (Ji (a0) (x6) (r8.set x9.toNat (nth p0 (nth r6 x9.toNat).toNat))).bind fun r14 =>
 (D4 (x5'') (nth (nth a0.Ops x6.toNat).Table x7.toNat) (r14)).bind fun r15 =>
 ask (InI (x9 + (1 : Int))) <|
 some (.inl (x9 + (1 : Int), r15))
 else
 some (.inr x5'')
def M6 (a0 : SAlgebra) (p0 : List Int) (x6 : Int) (x7 : Int) (r6 : List Int) : (Int × (List Int)) → St := fun s => [(9, A.val (Af s.1)), (8, A.val ((slr true 1 Af) (r6))), (7, A.val (Af (x7))), (6, A.val (Af (x6))), (5, A.val ((slr true 1 Af) s.2)), (2, A.val ((rP true (Ag false)) (a0))), (1, A.val ((slr false 1 Af) (p0)))]
def Vw (a0 : SAlgebra) (p0 : List Int) (x6 : Int) (x7 : Int) (_r6 : List Int) : (List Int) → Tgt
 | s => ((Ex.exit 4), [7, 6, 5, 2, 1], [(7, A.val (Af (x7))), (6, A.val (Af (x6))), (5, A.val ((slr true 1 Af) s)), (2, A.val ((rP true (Ag false)) (a0))), (1, A.val ((slr false 1 Af) (p0)))])
theorem Af7 {a0 : SAlgebra} {p0 : List Int} {x6 : Int} {x7 : Int} {r6 : List Int} (s : (Int × (List Int))) (o : (Int × (List Int)) ⊕ (List Int)) (h : Cc a0 p0 x6 x7 r6 s = some o) : vc Tryz.prog Vm (Da [9, 8, 7, 6, 5, 2, 1] (M6 a0 p0 x6 x7 r6) (Vw a0 p0 x6 x7 r6) o) (M6 a0 p0 x6 x7 r6 s) := by
 obtain ⟨x9, x5''⟩ := s
 unfold Cc at h
 try dsimp only at h
 refine Len.map <| Br.od h (fun p7 h => ?_) (fun p7 h => ?_)
 ·refine CallQ.rd (slr true 1 Af) (by first | rfl | simp only [V.fz, Ab, slr] | simp [Aa, V.fz, fzL, V.up, upL, Ab, Ac, Ad, slr]) (fun _ => by simp [V.noFz, B6]) h (fun r h => P2 h) (fun r8 h => ?_)
  refine Len.map <| Ask.o h fun p9 h => Cells.one (fun _ => ⟨rfl, rfl⟩) (by first | omega | (simp [Ar] at * <;> omega)) <| Len.map <| Ask.o h fun p10 h => Elem.o (by first | omega | (simp [Ar] at * <;> omega)) <| Len.map <| Ask.o h fun p11 h => SetKids.one (fun _ => ⟨rfl, rfl⟩) (nth p0 (nth r6 x9.toNat).toNat) (by rfl) (by first | omega | (simp [Ar] at * <;> omega)) <| Cells.lit rfl rfl <| Len.map <| Ask.o h fun p12 h => Elem.o (by first | omega | (simp [Ar] at * <;> omega)) <| Len.map <| Ask.o h fun p13 h => Elem.o (by first | omega | (simp [Ar] at * <;> omega)) <| Cells.lit rfl rfl <| CallP.rd Af (by first | rfl | simp only [Aa, V.fz, fzL, V.up, Ab, Ad, slr] | simp [Aa, V.fz, fzL, V.up, upL, Ab, Ac, Ad, slr]) (fun _ => rfl) h (fun r h => Ajd h) (fun r14 h => ?_)
  refine CallQ.rd (slr true 1 Af) (by first | rfl | simp only [V.fz, Ab, slr] | simp [Aa, V.fz, fzL, V.up, upL, Ab, Ac, Ad, slr]) (fun _ => by simp [V.noFz, B6]) h (fun r h => Jk h) (fun r15 h => ?_)
  refine Ask.o h fun p16 h => ?_
  cases h; exact ⟨rfl, rfl⟩
 cases h; exact ⟨rfl, rfl⟩
noncomputable def Cd (a0 : SAlgebra) (p0 : List Int) (x6 : Int) : (Int × (List Int)) → Option ((Int × (List Int)) ⊕ (List Int)) := fun (x7, x5') =>
 ask ((0 : Int) ≤ x6 ∧ x6 < (↑a0.Ops.length : Int)) <|
 if x7 < (↑(nth a0.Ops x6.toNat).Table.length : Int) then
 ask ((0 : Int) ≤ x6 ∧ x6 < (↑a0.Ops.length : Int)) <|
 (Ku (a0.Size) ((nth a0.Ops x6.toNat).Arity) (x7)).bind fun r6 =>
 (Al (Cc a0 p0 x6 x7 r6) ((0 : Int), x5')).bind fun q17_5 =>
 ask (InI (x7 + (1 : Int))) <|
 some (.inl (x7 + (1 : Int), q17_5))
 else
 some (.inr x5')
def Nf (a0 : SAlgebra) (p0 : List Int) (x6 : Int) : (Int × (List Int)) → St := fun s => [(7, A.val (Af s.1)), (6, A.val (Af (x6))), (5, A.val ((slr true 1 Af) s.2)), (2, A.val ((rP true (Ag false)) (a0))), (1, A.val ((slr false 1 Af) (p0)))]
def Vy (a0 : SAlgebra) (p0 : List Int) (x6 : Int) : (List Int) → Tgt
 | s => ((Ex.exit 2), [6, 5, 2, 1], [(6, A.val (Af (x6))), (5, A.val ((slr true 1 Af) s)), (2, A.val ((rP true (Ag false)) (a0))), (1, A.val ((slr false 1 Af) (p0)))])
theorem Afn {a0 : SAlgebra} {p0 : List Int} {x6 : Int} (s : (Int × (List Int))) (o : (Int × (List Int)) ⊕ (List Int)) (h : Cd a0 p0 x6 s = some o) : vc Tryz.prog Wd (Da [7, 6, 5, 2, 1] (Nf a0 p0 x6) (Vy a0 p0 x6) o) (Nf a0 p0 x6 s) := by
 obtain ⟨x7, x5'⟩ := s
 unfold Cd at h
 try dsimp only at h
 refine Cells.lit rfl rfl <| Len.map <| Ask.o h fun p3 h => Elem.o (by first | omega | (simp [Ar] at * <;> omega)) <| Len.map <| Br.od h (fun p4 h => ?_) (fun p4 h => ?_)
 ·refine Cells.lit rfl rfl <| Cells.lit rfl rfl <| Len.map <| Ask.o h fun p5 h => Elem.o (by first | omega | (simp [Ar] at * <;> omega)) <| CallQ.o (slr true 1 Af) (by rfl) h (fun r h => Ame h) (fun r6 h => ?_)
  refine LoopQ.o [9, 8, 7, 6, 5, 2, 1] (M6 a0 p0 x6 x7 r6) (Vw a0 p0 x6 x7 r6) h (fun s o h => Af7 s o h) (by rfl) (fun _ => rfl) ?_
  rintro q17_5 h
  try dsimp only at h
  refine Ask.o h fun p18 h => ?_
  cases h; exact ⟨rfl, rfl⟩
 cases h; exact ⟨rfl, rfl⟩
noncomputable def C1 (a0 : SAlgebra) (p0 : List Int) : (Int × (List Int)) → Option ((Int × (List Int)) ⊕ (List Int)) := fun (x6, x5) =>
 if x6 < (↑a0.Ops.length : Int) then
 (Al (Cd a0 p0 x6) ((0 : Int), x5)).bind fun q19_5 =>
 ask (InI (x6 + (1 : Int))) <|
 some (.inl (x6 + (1 : Int), q19_5))
 else
 some (.inr x5)
def Mx (a0 : SAlgebra) (p0 : List Int) : (Int × (List Int)) → St := fun s => [(6, A.val (Af s.1)), (5, A.val ((slr true 1 Af) s.2)), (2, A.val ((rP true (Ag false)) (a0))), (1, A.val ((slr false 1 Af) (p0)))]
def Ur (_a0 : SAlgebra) (_p0 : List Int) : (List Int) → Tgt
 | s => ((Ex.exit 0), [5], [(5, A.val ((slr true 1 Af) s))])
theorem Afc {a0 : SAlgebra} {p0 : List Int} (s : (Int × (List Int))) (o : (Int × (List Int)) ⊕ (List Int)) (h : C1 a0 p0 s = some o) : vc Tryz.prog Vl (Da [6, 5, 2, 1] (Mx a0 p0) (Ur a0 p0) o) (Mx a0 p0 s) := by
 obtain ⟨x6, x5⟩ := s
 unfold C1 at h
 try dsimp only at h
 refine Cells.lit rfl rfl <| Len.map <| Br.od h (fun p2 h => ?_) (fun p2 h => ?_)
 ·refine LoopQ.o [7, 6, 5, 2, 1] (Nf a0 p0 x6) (Vy a0 p0 x6) h (fun s o h => Afn s o h) (by rfl) (fun _ => rfl) ?_
  rintro q19_5 h
  try dsimp only at h
  refine Ask.o h fun p20 h => ?_
  cases h; exact ⟨rfl, rfl⟩
 cases h; exact ⟨rfl, rfl⟩
noncomputable def D3 (a0 : SAlgebra) (p0 : (List Int)) : Option (List Int) :=
 (Gz (p0)).bind fun r1 =>
 (Al (C1 a0 p0) ((0 : Int), r1)).bind fun q21_5 =>
 some q21_5
theorem Aa0 {a0 : SAlgebra} {p0 : (List Int)} {v : (List Int)} (h : D3 a0 p0 = some v) : Ret Tryz.prog N3 [(Ag false) a0, (slr false 1 Af) p0] ((slr true 1 Af) v) := by
 refine Ay Ami (Nat.le_of_ble_eq_true rfl) ?_
 unfold D3 at h
 refine CallQ.o (slr true 1 Af) (by rfl) h (fun r h => P2 h) (fun r1 h => ?_)
 refine LoopQ.o [6, 5, 2, 1] (Mx a0 p0) (Ur a0 p0) h (fun s o h => Afc s o h) (by rfl) (fun _ => rfl) ?_
 rintro q21_5 h
 try dsimp only at h
 cases h; exact (by rfl)
noncomputable def El (c0 : Sl1Cur) (n0 : Int) : Option (Bool × Sl1Cur) :=
 (Av (c0) (n0)).bind fun (r1, u2) =>
 some (r1 == (0 : Int), u2)
theorem M1 {c0 : Sl1Cur} {n0 : Int} {v : (Bool × Sl1Cur)} (h : El c0 n0 = some v) : Wy Tryz.prog Hp [(rP true (Aj false)) c0, Af n0] (V.bool v.1) 0 ((rP true (Aj false)) v.2) := by
 refine N6 Ae1 (Nat.le_of_ble_eq_true rfl) ?_
 unfold El at h
 refine CallQ.io Af (rP true (Aj false)) (by rfl) rfl (fun _ => rfl) (fun _ => ⟨rfl, rfl⟩) rfl h (fun r h => A3 h) (fun r1 u2 h => ?_)
 cases h; exact ⟨(by rfl), (by rfl)⟩
noncomputable def C0 (q0 : List Int) : (Int × (List Int)) → Option ((Int × (List Int)) ⊕ (List Int)) := fun (x6, x5) =>
 if x6 < (↑q0.length : Int) then
 ask ((0 : Int) ≤ x6 ∧ x6 < (↑q0.length : Int)) <|
 (D4 (x5) (x6) (nth q0 x6.toNat)).bind fun r4 =>
 ask (InI (x6 + (1 : Int))) <|
 some (.inl (x6 + (1 : Int), r4))
 else
 some (.inr x5)
def Nh (q0 : List Int) : (Int × (List Int)) → St := fun s => [(6, A.val (Af s.1)), (5, A.val ((slr true 1 Af) s.2)), (1, A.val ((slr false 1 Af) (q0)))]
def Vd (_q0 : List Int) : (List Int) → Tgt
 | s => ((Ex.exit 0), [5], [(5, A.val ((slr true 1 Af) s))])
theorem Aff {q0 : List Int} (s : (Int × (List Int))) (o : (Int × (List Int)) ⊕ (List Int)) (h : C0 q0 s = some o) : vc Tryz.prog U9 (Da [6, 5, 1] (Nh q0) (Vd q0) o) (Nh q0 s) := by
 obtain ⟨x6, x5⟩ := s
 unfold C0 at h
 try dsimp only at h
 refine Len.map <| Br.od h (fun p2 h => ?_) (fun p2 h => ?_)
 ·refine Len.map <| Ask.o h fun p3 h => Elem.o (by first | omega | (simp [Ar] at * <;> omega)) <| CallQ.rd (slr true 1 Af) (by first | rfl | simp only [V.fz, V.up, Ab, Ad, slr] | simp [Aa, V.fz, fzL, V.up, upL, Ab, Ac, Ad, slr]) (fun _ => by simp [V.noFz, B6]) h (fun r h => Jk h) (fun r4 h => ?_)
  refine Ask.o h fun p5 h => ?_
  cases h; exact ⟨rfl, rfl⟩
 cases h; exact ⟨rfl, rfl⟩
noncomputable def He (p0 : (List Int)) (q0 : (List Int)) : Option (List Int) :=
 (Gz (p0)).bind fun r1 =>
 (Al (C0 q0) ((0 : Int), r1)).bind fun q6_5 =>
 some q6_5
theorem Alq {p0 : (List Int)} {q0 : (List Int)} {v : (List Int)} (h : He p0 q0 = some v) : Ret Tryz.prog Tr [(slr false 1 Af) p0, (slr false 1 Af) q0] ((slr true 1 Af) v) := by
 refine Ay Alz (Nat.le_of_ble_eq_true rfl) ?_
 unfold He at h
 refine CallQ.o (slr true 1 Af) (by rfl) h (fun r h => P2 h) (fun r1 h => ?_)
 refine LoopQ.o [6, 5, 1] (Nh q0) (Vd q0) h (fun s o h => Aff s o h) (by rfl) (fun _ => rfl) ?_
 rintro q6_5 h
 try dsimp only at h
 cases h; exact (by rfl)
noncomputable def Bf (a0 : SAlgebra) (pairs0 : List (Int × Int)) : Int → Option (Int ⊕ (Unit ⊕ Unit)) := fun x19 =>
 if x19 < (↑pairs0.length : Int) then
 ask ((0 : Int) ≤ x19 ∧ x19 < (↑pairs0.length : Int)) <|
 (Hb ([(nth pairs0 x19.toNat).fst, (nth pairs0 x19.toNat).snd]) (a0.Size)).bind fun r7 =>
 if (r7) = true then
 ask (InI (x19 + (1 : Int))) <|
 some (.inl (x19 + (1 : Int)))
 else
 some (.inr (.inl ()))
 else
 some (.inr (.inr ()))
def Fx (a0 : SAlgebra) (pairs0 : List (Int × Int)) : Int → St := fun s => [(19, A.val (Af s)), (18, A.val (Af ((↑pairs0.length : Int)))), (17, A.val ((slr false 2 (rA2 Af)) (pairs0))), (2, A.val ((rP true (Ag false)) (a0))), (1, A.val ((slr false 2 (rA2 Af)) (pairs0)))]
def Iz (a0 : SAlgebra) (pairs0 : List (Int × Int)) : (Unit ⊕ Unit) → Tgt
 | (.inl _s) => (Ex.ret, [5, 4], [(5, A.val (V.bool (false))), (4, A.val ((slr true 1 Af) (Aq Int)))])
 | (.inr _s) => ((Ex.exit 0), [2, 1], [(2, A.val ((rP true (Ag false)) (a0))), (1, A.val ((slr false 2 (rA2 Af)) (pairs0)))])
theorem P9 {a0 : SAlgebra} {pairs0 : List (Int × Int)} (x19 : Int) (o : Int ⊕ (Unit ⊕ Unit)) (h : Bf a0 pairs0 x19 = some o) : vc Tryz.prog I7 (Da [19, 18, 17, 2, 1] (Fx a0 pairs0) (Iz a0 pairs0) o) (Fx a0 pairs0 x19) := by
 unfold Bf at h
 try dsimp only at h
 refine Br.od h (fun p5 h => ?_) (fun p5 h => ?_)
 ·refine Len.map <| Ask.o h fun p6 h => Elem.o (by first | omega | (simp [Ar] at * <;> omega)) <| SetKids.lit rfl <| FrzQ.d ((rP false (rA2 Af)) (nth pairs0 x19.toNat)) ((Bp _).trans (Eq.trans (b := V.fz ((rP true (rA2 Af)) (nth pairs0 x19.toNat))) rfl (Ad (rP true (rA2 Af)) _))) <| Cells.lit rfl rfl <| CallQ.o V.bool (by rfl) h (fun r h => Tv h) (fun r7 h => ?_)
  refine Br.flip <| Br.ob h (fun p8 h => ?_) (fun p8 h => ?_)
  ·refine Ask.o h fun p9 h => ?_
   cases h; exact ⟨rfl, rfl⟩
  refine BslQ.o Af (Aq Int) (by exact fun _ => ⟨rfl, rfl⟩) (by rfl) ?_
  cases h; exact ⟨rfl, rfl⟩
 cases h; exact ⟨rfl, rfl⟩
noncomputable def Dg (a0 : SAlgebra) (pairs0 : (List (Int × Int))) : Option ((List Int) × Bool) :=
 (((E1 (a0)).bind fun r1 =>
 if (r1) = true then
 if (↑pairs0.length : Int) > (20 : Int) then
 some (.inl ())
 else
 some (.inr ())
 else
 some (.inl ()) : Option (Unit ⊕ Unit))).bind fun t => match t with
 | (.inl _) => (some (Aq Int, false))
 | (.inr _) => ((Al (Bf a0 pairs0) (0 : Int)).bind fun t => match t with
 | (.inl _) => (some (Aq Int, false))
 | (.inr _) => ((C6 (a0) (pairs0)).bind fun r11 =>
 some (r11, true)))
theorem Um {a0 : SAlgebra} {pairs0 : (List (Int × Int))} {v : ((List Int) × Bool)} (h : Dg a0 pairs0 = some v) : Ret Tryz.prog G5 [(Ag false) a0, (slr false 2 (rA2 Af)) pairs0] ((fun r => V.tup [(slr true 1 Af) r.1, V.bool r.2]) v) := by
 refine Ay T7 (Nat.le_of_ble_eq_true rfl) ?_
 unfold Dg at h
 refine CutQ.o (fun t : (Unit ⊕ Unit) => match t with | (.inl s) => (Ex.ret, [5, 4], [(5, A.val (V.bool (false))), (4, A.val ((slr true 1 Af) (Aq Int)))]) | (.inr s) => (Ex.normal, [2, 1], [(2, A.val ((rP true (Ag false)) (a0))), (1, A.val ((slr false 2 (rA2 Af)) (pairs0)))])) h ?_ ?_
 ·intro t h
  refine Cells.lit rfl rfl <| CallQ.o V.bool (by rfl) h (fun r h => Nw h) (fun r1 h => ?_)
  refine Br.flip <| Br.ob h (fun p2 h => ?_) (fun p2 h => ?_)
  ·refine Br.no <| Len.map <| Br.no <| Br.no <| Br.od h (fun p3 h => ?_) (fun p3 h => ?_)
   ·refine BslQ.o Af (Aq Int) (by exact fun _ => ⟨rfl, rfl⟩) (by rfl) ?_
    cases h; exact ⟨rfl, rfl⟩
   cases h; exact ⟨rfl, rfl⟩
  refine Br.yes <| Br.yes <| Br.yes <| Br.yes <| BslQ.o Af (Aq Int) (by exact fun _ => ⟨rfl, rfl⟩) (by rfl) ?_
  cases h; exact ⟨rfl, rfl⟩
 rintro (⟨⟩ | ⟨⟩) h
 ·try dsimp only at h
  cases h; exact (by rfl)
 try dsimp only at h
 refine Len.map <| LoopQ.o [19, 18, 17, 2, 1] (Fx a0 pairs0) (Iz a0 pairs0) h (fun s o h => P9 s o h) (by rfl) (by rintro (_ | _) <;> rfl) ?_
 rintro (⟨⟩ | ⟨⟩) h
 ·try dsimp only at h
  cases h; exact (by rfl)
 try dsimp only at h
 refine Cells.lit rfl rfl <| CallQ.o (slr true 1 Af) (by rfl) h (fun r h => J3 h) (fun r11 h => ?_)
 cases h; exact (by rfl)
noncomputable def Oj (a0 : SAlgebra) (p0 : (List Int)) : Option Bool :=
 (Gd (a0.Size) (p0)).bind fun r1 =>
 if (r1) = true then
 (D3 (a0) (p0)).bind fun r3 =>
 (Dc (r3) (p0)).bind fun r4 =>
 some r4
 else
 some false
theorem Apz {a0 : SAlgebra} {p0 : (List Int)} {v : Bool} (h : Oj a0 p0 = some v) : Ret Tryz.prog Zp [(Ag false) a0, (slr false 1 Af) p0] (V.bool v) := by
 refine Ay Aqh (Nat.le_of_ble_eq_true rfl) ?_
 unfold Oj at h
 refine Cells.lit rfl rfl <| CallQ.o V.bool (by rfl) h (fun r h => Abz h) (fun r1 h => ?_)
 refine Br.ob h (fun p2 h => ?_) (fun p2 h => ?_)
 ·refine Cells.lit rfl rfl <| Br.yes <| Br.yes <| CallQ.o (slr true 1 Af) (by rfl) h (fun r h => Aa0 h) (fun r3 h => ?_)
  refine Br.yes <| Br.yes <| CallQ.rd V.bool (by first | rfl | simp only [V.fz, V.up, Ab, slr] | simp [Aa, V.fz, fzL, V.up, upL, Ab, Ac, Ad, slr]) (fun _ => rfl) h (fun r h => Iq h) (fun r4 h => ?_)
  refine Br.yes ?_
  cases h; exact (by rfl)
 refine Br.no <| Br.no <| Br.no <| Br.no <| Br.no ?_
 cases h; exact (by rfl)
end Go.Proofs.YthagmdhmgailfaaGreat.Ax
