/-
 What the functions compute, as functions on plain data, and that the program does compute it; written by program.
-/
import Derived.Test.YthagmdhmgailfaaGreatCode
import Derived.Test.YthagmdhmgailfaaGreatG1
import Derived.Test.YthagmdhmgailfaaGreatG2
import Derived.Test.YthagmdhmgailfaaGreatG3
import Derived.Test.YthagmdhmgailfaaGreatG4
import Derived.Test.YthagmdhmgailfaaGreatG5
namespace Go.Proofs.YthagmdhmgailfaaGreat.Ax
open Go
set_option maxRecDepth 100000
set_option maxHeartbeats 4000000
noncomputable def Fm (list0 : List (List Int)) (p0 : List Int) : Int → Option (Int ⊕ Int) := fun x5 =>
 if x5 < (↑list0.length : Int) then
 ask ((0 : Int) ≤ x5 ∧ x5 < (↑list0.length : Int)) <|
 (E5 (nth list0 x5.toNat)).bind fun r3 =>
 (E5 (p0)).bind fun r4 =>
 if r3 > r4 then
 ask (InI (x5 + (1 : Int))) <|
 some (.inl (x5 + (1 : Int)))
 else
 ask ((0 : Int) ≤ x5 ∧ x5 < (↑list0.length : Int)) <|
 (E5 (nth list0 x5.toNat)).bind fun r8 =>
 (E5 (p0)).bind fun r9 =>
 if r8 = r9 then
 ask ((0 : Int) ≤ x5 ∧ x5 < (↑list0.length : Int)) <|
 (Kj (nth list0 x5.toNat) (p0)).bind fun r12 =>
 if (r12) = true then
 ask (InI (x5 + (1 : Int))) <|
 some (.inl (x5 + (1 : Int)))
 else
 some (.inr x5)
 else
 some (.inr x5)
 else
 some (.inr x5)
def Pt (list0 : List (List Int)) (p0 : List Int) : Int → St := fun s => [(5, A.val (Af s)), (0, A.val ((slr false 1 (slr false 1 Af)) (list0))), (1, A.val ((slr false 1 Af) (p0)))]
def Xp (list0 : List (List Int)) (p0 : List Int) : Int → Tgt
 | s => ((Ex.exit 0), [5, 0, 1], [(5, A.val (Af s)), (0, A.val ((slr false 1 (slr false 1 Af)) (list0))), (1, A.val ((slr false 1 Af) (p0)))])
theorem Ahj {list0 : List (List Int)} {p0 : List Int} (x5 : Int) (o : Int ⊕ Int) (h : Fm list0 p0 x5 = some o) : vc Tryz.prog Xh (Da [5, 0, 1] (Pt list0 p0) (Xp list0 p0) o) (Pt list0 p0 x5) := by
 unfold Fm at h
 try dsimp only at h
 refine Len.map <| Br.od h (fun p1 h => ?_) (fun p1 h => ?_)
 ·refine Br.yes <| Br.yes <| Len.map <| Ask.o h fun p2 h => Elem.o (by first | omega | (simp [Ar] at * <;> omega)) <| Br.yes <| Br.yes <| CallQ.o Af (by rfl) h (fun r h => L1 h) (fun r3 h => ?_)
  refine Br.yes <| Br.yes <| CallQ.o Af (by rfl) h (fun r h => L1 h) (fun r4 h => ?_)
  refine Br.yes <| Br.yes <| Br.od h (fun p5 h => ?_) (fun p5 h => ?_)
  ·refine Br.yes <| Br.yes <| Br.yes <| Br.yes <| Br.yes <| Br.yes <| Br.yes <| Br.yes <| Br.yes <| Br.yes <| Br.yes <| Br.yes <| Br.yes <| Ask.o h fun p6 h => ?_
   cases h; exact ⟨rfl, rfl⟩
  refine Br.no <| Br.no <| Len.map <| Ask.o h fun p7 h => Elem.o (by first | omega | (simp [Ar] at * <;> omega)) <| Br.no <| Br.no <| CallQ.o Af (by rfl) h (fun r h => L1 h) (fun r8 h => ?_)
  refine Br.no <| Br.no <| CallQ.o Af (by rfl) h (fun r h => L1 h) (fun r9 h => ?_)
  refine Br.no <| Br.no <| Br.oe h (fun p10 h => ?_) (fun p10 h => ?_)
  ·refine Br.yes <| Br.yes <| Len.map <| Ask.o h fun p11 h => Elem.o (by first | omega | (simp [Ar] at * <;> omega)) <| Br.yes <| Br.yes <| Br.yes <| CallQ.o V.bool (by rfl) h (fun r h => Al0 h) (fun r12 h => ?_)
   refine Br.no <| Br.yes <| Br.yes <| Br.no <| Br.yes <| Br.ob h (fun p13 h => ?_) (fun p13 h => ?_)
   ·refine Ask.o h fun p14 h => ?_
    cases h; exact ⟨rfl, rfl⟩
   cases h; exact ⟨rfl, rfl⟩
  refine Br.no <| Br.no <| Br.no <| Br.no <| Br.no <| Br.no <| Br.no <| Br.yes <| Br.no <| Br.yes <| Br.no ?_
  cases h; exact ⟨rfl, rfl⟩
 refine Br.no <| Br.no <| Br.no <| Br.no <| Br.no <| Br.no <| Br.no <| Br.no <| Br.no <| Br.no <| Br.no ?_
 cases h; exact ⟨rfl, rfl⟩
noncomputable def G4 (list0 : (List (List Int))) (p0 : (List Int)) : Option (List (List Int)) :=
 (Al (Fm list0 p0) (0 : Int)).bind fun q15_5 =>
 ((if q15_5 < (↑list0.length : Int) then
 ask ((0 : Int) ≤ q15_5 ∧ q15_5 < (↑list0.length : Int)) <|
 (Dc (nth list0 q15_5.toNat) (p0)).bind fun r18 =>
 if (r18) = true then
 some (.inl ())
 else
 some (.inr ())
 else
 some (.inr ()) : Option (Unit ⊕ Unit))).bind fun t => match t with
 | (.inl _) => (some list0)
 | (.inr _) => (ask (0 ≤ (0 : Int) ∧ (0 : Int) ≤ q15_5 ∧ q15_5 ≤ ((list0.length : Nat) : Int)) <|
 ask ((Aq (List Int)).length + (List.take (q15_5.toNat - Int.toNat (0 : Int)) (List.drop (Int.toNat (0 : Int)) list0)).length ≤ LIM) <|
 ask ((Aq (List Int) ++ List.take (q15_5.toNat - Int.toNat (0 : Int)) (List.drop (Int.toNat (0 : Int)) list0)).length + ([p0]).length ≤ LIM) <|
 ask (0 ≤ q15_5 ∧ q15_5 ≤ (↑list0.length : Int) ∧ (↑list0.length : Int) ≤ ((list0.length : Nat) : Int)) <|
 ask ((Aq (List Int) ++ List.take (q15_5.toNat - Int.toNat (0 : Int)) (List.drop (Int.toNat (0 : Int)) list0) ++ [p0]).length + (List.take ((↑list0.length : Int).toNat - q15_5.toNat) (List.drop q15_5.toNat list0)).length ≤ LIM) <|
 some (Aq (List Int) ++ List.take (q15_5.toNat - Int.toNat (0 : Int)) (List.drop (Int.toNat (0 : Int)) list0) ++ [p0] ++ List.take ((↑list0.length : Int).toNat - q15_5.toNat) (List.drop q15_5.toNat list0)))
theorem Aep {list0 : (List (List Int))} {p0 : (List Int)} {v : (List (List Int))} (h : G4 list0 p0 = some v) : Ret Tryz.prog Qa [(slr false 1 (slr false 1 Af)) list0, (slr false 1 Af) p0] ((slr false 1 (slr false 1 Af)) v) := by
 refine Q5 Apj (Nat.le_of_ble_eq_true rfl) ?_
 unfold G4 at h
 conv => whnf
 refine LoopQ.o [5, 0, 1] (Pt list0 p0) (Xp list0 p0) h (fun s o h => Ahj s o h) (by rfl) (fun _ => rfl) ?_
 rintro q15_5 h
 try dsimp only at h
 conv => whnf
 refine CutQ.o (fun t : (Unit ⊕ Unit) => match t with | (.inl s) => (Ex.ret, [4], [(4, A.val ((slr false 1 (slr false 1 Af)) (list0)))]) | (.inr s) => (Ex.normal, [5, 0, 1], [(5, A.val (Af (q15_5))), (0, A.val ((slr false 1 (slr false 1 Af)) (list0))), (1, A.val ((slr false 1 Af) (p0)))])) h ?_ ?_
 ·intro t h
  conv => whnf
  refine Len.map ?_
  conv => whnf
  refine Br.od h (fun p16 h => ?_) (fun p16 h => ?_)
  ·conv => whnf
   refine Br.yes ?_
   conv => whnf
   refine Br.yes ?_
   conv => whnf
   refine Len.map ?_
   conv => whnf
   refine Ask.o h fun p17 h => ?_
   conv => whnf
   refine Elem.o (by first | omega | (simp [Ar] at * <;> omega)) ?_
   conv => whnf
   refine Br.yes ?_
   conv => whnf
   refine Br.yes ?_
   conv => whnf
   refine Br.yes ?_
   conv => whnf
   refine CallQ.o V.bool (by rfl) h (fun r h => Iq h) (fun r18 h => ?_)
   conv => whnf
   refine Br.yes ?_
   conv => whnf
   refine Br.ob h (fun p19 h => ?_) (fun p19 h => ?_)
   ·conv => whnf
    cases h; exact ⟨rfl, rfl⟩
   conv => whnf
   cases h; exact ⟨rfl, rfl⟩
  conv => whnf
  refine Br.no ?_
  conv => whnf
  refine Br.no ?_
  conv => whnf
  refine Br.no ?_
  conv => whnf
  refine Br.no ?_
  conv => whnf
  refine Br.no ?_
  conv => whnf
  refine Br.no ?_
  conv => whnf
  refine Br.no ?_
  conv => whnf
  cases h; exact ⟨rfl, rfl⟩
 rintro (⟨⟩ | ⟨⟩) h
 ·try dsimp only at h
  conv => whnf
  cases h; exact (by rfl)
 try dsimp only at h
 conv => whnf
 refine BslQ.o (slr true 1 Af) (Aq (List Int)) (by exact fun _ => ⟨rfl, rfl⟩) (by rfl) ?_
 conv => whnf
 refine SlcQ.o (slr false 1 Af) h fun h => ?_
 conv => whnf
 refine AppQ.o (m := 1) (slr false 1 Af) (by exact fun _ => ⟨rfl, rfl⟩) (Aq (List Int)) (List.take (q15_5.toNat - Int.toNat (0 : Int)) (List.drop (Int.toNat (0 : Int)) list0)) (by rfl) (by rfl) h fun h => ?_
 conv => whnf
 refine BslQ.o (slr false 1 Af) [p0] (by exact fun _ => ⟨rfl, rfl⟩) (by rfl) ?_
 conv => whnf
 refine NoOwn.o (fun _ => rfl) ?_
 conv => whnf
 refine AppQ.o (m := 1) (slr false 1 Af) (by exact fun _ => ⟨rfl, rfl⟩) (Aq (List Int) ++ List.take (q15_5.toNat - Int.toNat (0 : Int)) (List.drop (Int.toNat (0 : Int)) list0)) ([p0]) (by rfl) (by rfl) h fun h => ?_
 conv => whnf
 refine Len.map ?_
 conv => whnf
 refine SlcQ.o (slr false 1 Af) h fun h => ?_
 conv => whnf
 refine AppQ.o (m := 1) (slr false 1 Af) (by exact fun _ => ⟨rfl, rfl⟩) (Aq (List Int) ++ List.take (q15_5.toNat - Int.toNat (0 : Int)) (List.drop (Int.toNat (0 : Int)) list0) ++ [p0]) (List.take ((↑list0.length : Int).toNat - q15_5.toNat) (List.drop q15_5.toNat list0)) (by rfl) (by rfl) h fun h => ?_
 conv => whnf
 cases h; exact (by first | rfl | simp only [Ah, Ac, slr] | simp [Ah, Aa, V.fz, fzL, V.up, upL, Ab, Ac, Ad, slr])
noncomputable def Ej (n0 : Int) (p0 : (List Int)) (q0 : (List Int)) : Option ((List Int) × Bool) :=
 (G0 (n0) (p0) (q0)).bind fun r1 =>
 if (r1) = true then
 (Lr (p0) (q0)).bind fun r3 =>
 some (r3, true)
 else
 some (Aq Int, false)
theorem X0 {n0 : Int} {p0 : (List Int)} {q0 : (List Int)} {v : ((List Int) × Bool)} (h : Ej n0 p0 q0 = some v) : Ret Tryz.prog Ir [Af n0, (slr false 1 Af) p0, (slr false 1 Af) q0] ((fun r => V.tup [(slr true 1 Af) r.1, V.bool r.2]) v) := by
 refine Ay X1 (Nat.le_of_ble_eq_true rfl) ?_
 unfold Ej at h
 refine CallQ.o V.bool (by rfl) h (fun r h => Zg h) (fun r1 h => ?_)
 refine Br.flip <| Br.ob h (fun p2 h => ?_) (fun p2 h => ?_)
 ·refine CallQ.o (slr true 1 Af) (by rfl) h (fun r h => Ago h) (fun r3 h => ?_)
  cases h; exact (by rfl)
 refine BslQ.o Af (Aq Int) (by exact fun _ => ⟨rfl, rfl⟩) (by rfl) ?_
 cases h; exact (by rfl)
noncomputable def Ft (a0 : SAlgebra) (p0 : (List Int)) : Option Bool :=
 (Dn (a0.Size) (p0)).bind fun r1 =>
 if (r1) = true then
 (G1 (p0)).bind fun r3 =>
 (B3 (a0) (r3)).bind fun (r4, _u5) =>
 some !r4
 else
 some false
theorem Aau {a0 : SAlgebra} {p0 : (List Int)} {v : Bool} (h : Ft a0 p0 = some v) : Ret Tryz.prog J6 [(Ag false) a0, (slr false 1 Af) p0] (V.bool v) := by
 refine Ay Aam (Nat.le_of_ble_eq_true rfl) ?_
 unfold Ft at h
 refine Cells.lit rfl rfl <| CallP.o V.bool (by rfl) h (fun r h => K8 h) (fun r1 h => ?_)
 refine Br.ob h (fun p2 h => ?_) (fun p2 h => ?_)
 ·refine Cells.lit rfl rfl <| Br.yes <| Br.yes <| CallP.o (slr true 1 Af) (by rfl) h (fun r h => Wu h) (fun r3 h => ?_)
  refine Br.yes <| CallQ.io V.bool (slr true 1 Af) (by rfl) rfl (fun _ => rfl) (fun _ => ⟨rfl, rfl⟩) rfl h (fun r h => Mo h) (fun r4 u5 h => ?_)
  refine Br.yes <| Br.yes ?_
  cases h; exact (by rfl)
 refine Br.no <| Br.no <| Br.no <| Br.no <| Br.no ?_
 cases h; exact (by rfl)
noncomputable def Ez (list0 : List (List Int)) (p0 : List Int) : (Int × (List (List Int))) → Option ((Int × (List (List Int))) ⊕ (List (List Int))) := fun (x11, x5) =>
 if x11 < (↑list0.length : Int) then
 ask ((0 : Int) ≤ x11 ∧ x11 < (↑list0.length : Int)) <|
 (Gv (p0) (nth list0 x11.toNat)).bind fun r3 =>
 if (r3) = true then
 (Ik (p0) (nth list0 x11.toNat)).bind fun r5 =>
 if (r5) = true then
 ask (InI (x11 + (1 : Int))) <|
 some (.inl (x11 + (1 : Int), x5))
 else
 ask ((x5).length + ([nth list0 x11.toNat]).length ≤ LIM) <|
 ask (InI (x11 + (1 : Int))) <|
 some (.inl (x11 + (1 : Int), x5 ++ [nth list0 x11.toNat]))
 else
 ask (InI (x11 + (1 : Int))) <|
 some (.inl (x11 + (1 : Int), x5))
 else
 some (.inr x5)
def Ld (list0 : List (List Int)) (p0 : List Int) : (Int × (List (List Int))) → St := fun s => [(11, A.val (Af s.1)), (10, A.val (Af ((↑list0.length : Int)))), (9, A.val ((slr false 1 (slr false 1 Af)) (list0))), (5, A.val ((slr true 1 (slr false 1 Af)) s.2)), (1, A.val ((slr false 1 Af) (p0)))]
def Rd (_list0 : List (List Int)) (_p0 : List Int) : (List (List Int)) → Tgt
 | s => ((Ex.exit 0), [5], [(5, A.val ((slr true 1 (slr false 1 Af)) s))])
theorem Acj {list0 : List (List Int)} {p0 : List Int} (s : (Int × (List (List Int)))) (o : (Int × (List (List Int))) ⊕ (List (List Int))) (h : Ez list0 p0 s = some o) : vc Tryz.prog Ro (Da [11, 10, 9, 5, 1] (Ld list0 p0) (Rd list0 p0) o) (Ld list0 p0 s) := by
 obtain ⟨x11, x5⟩ := s
 unfold Ez at h
 try dsimp only at h
 refine Br.od h (fun p1 h => ?_) (fun p1 h => ?_)
 ·refine Len.map <| Ask.o h fun p2 h => Elem.o (by first | omega | (simp [Ar] at * <;> omega)) <| CallQ.o V.bool (by rfl) h (fun r h => Qh h) (fun r3 h => ?_)
  refine Br.ob h (fun p4 h => ?_) (fun p4 h => ?_)
  ·refine Br.yes <| Br.yes <| CallQ.o V.bool (by rfl) h (fun r h => Ahz h) (fun r5 h => ?_)
   refine Br.yes <| Br.yes <| Br.flip <| Br.ob h (fun p6 h => ?_) (fun p6 h => ?_)
   ·refine Ask.o h fun p7 h => ?_
    cases h; exact ⟨rfl, rfl⟩
   refine BslQ.o (slr false 1 Af) ([nth list0 x11.toNat]) (by exact fun _ => ⟨rfl, rfl⟩) (by rfl) <| NoOwn.o (fun _ => rfl) <| AppQ.o (m := 1) (slr false 1 Af) (by exact fun _ => ⟨rfl, rfl⟩) (x5) ([nth list0 x11.toNat]) (by rfl) (by rfl) h fun h => Ask.o h fun p8 h => ?_
   cases h; exact ⟨rfl, rfl⟩
  refine Br.no <| Br.no <| Br.no <| Br.no <| Br.no <| Ask.o h fun p9 h => ?_
  cases h; exact ⟨rfl, rfl⟩
 cases h; exact ⟨rfl, rfl⟩
noncomputable def Ii (list0 : (List (List Int))) (p0 : (List Int)) : Option (List (List Int)) :=
 (Al (Ez list0 p0) ((0 : Int), Aq (List Int))).bind fun q10_5 =>
 (Eb (q10_5) (fun w_0 w_1 => I6 w_0 w_1)).bind fun r11 =>
 some r11
theorem Ahm {list0 : (List (List Int))} {p0 : (List Int)} {v : (List (List Int))} (h : Ii list0 p0 = some v) : Ret Tryz.prog Ps [(slr false 1 (slr false 1 Af)) list0, (slr false 1 Af) p0] ((slr true 1 (slr true 1 Af)) v) := by
 refine Ay Aht (Nat.le_of_ble_eq_true rfl) ?_
 unfold Ii at h
 refine BslQ.o (slr true 1 Af) (Aq (List Int)) (by exact fun _ => ⟨rfl, rfl⟩) (by rfl) <| Len.map <| LoopQ.o [11, 10, 9, 5, 1] (Ld list0 p0) (Rd list0 p0) h (fun s o h => Acj s o h) (by rfl) (fun _ => rfl) ?_
 rintro q10_5 h
 try dsimp only at h
 refine CallQ.rd (slr true 1 (slr true 1 Af)) (by first | rfl | simp only [V.fz, Ab, slr] | simp [Aa, V.fz, fzL, V.up, upL, Ab, Ac, Ad, slr]) (fun _ => by simp [V.noFz, B6]) h (fun r h => O9 (f_beyond0 := Iy) (c_beyond0 := []) (fun w_0 w_1 v h => Ret.cast (by rfl) (Adp h)) h) (fun r11 h => ?_)
 cases h; exact (by rfl)
noncomputable def Hs (list0 : (List (List Int))) : Option (List (List Int)) :=
 ask (InI ((↑list0.length : Int) - (1 : Int))) <|
 ask (0 ≤ (0 : Int) ∧ (0 : Int) ≤ (↑list0.length : Int) - (1 : Int) ∧ (↑list0.length : Int) - (1 : Int) ≤ ((list0.length : Nat) : Int)) <|
 (Eb (List.take (((↑list0.length : Int) - (1 : Int)).toNat - Int.toNat (0 : Int)) (List.drop (Int.toNat (0 : Int)) list0)) (fun w_0 w_1 => Gv w_0 w_1)).bind fun r2 =>
 some r2
theorem Agc {list0 : (List (List Int))} {v : (List (List Int))} (h : Hs list0 = some v) : Ret Tryz.prog My [(slr false 1 (slr false 1 Af)) list0] ((slr true 1 (slr true 1 Af)) v) := by
 refine Ay Aft (Nat.le_of_ble_eq_true rfl) ?_
 unfold Hs at h
 refine Len.map <| Ask.o h fun p1 h => SlcQ.o (slr false 1 Af) h fun h => CallQ.o (slr true 1 (slr true 1 Af)) (by rfl) h (fun r h => O9 (f_beyond0 := Id) (c_beyond0 := []) (fun w_0 w_1 v h => Ret.cast (by rfl) (Qh h)) h) (fun r2 h => ?_)
 cases h; exact (by rfl)
noncomputable def Bc (c0 : Sl1Cur) (list0 : (List Int)) : Option (Int × Sl1Cur) :=
 (Av (c0) ((↑list0.length : Int))).bind fun (r1, u2) =>
 ask ((0 : Int) ≤ r1 ∧ r1 < (↑list0.length : Int)) <|
 some (nth list0 r1.toNat, u2)
theorem Bm {c0 : Sl1Cur} {list0 : (List Int)} {v : (Int × Sl1Cur)} (h : Bc c0 list0 = some v) : Wy Tryz.prog Bg [(rP true (Aj false)) c0, (slr false 1 Af) list0] (Af v.1) 0 ((rP true (Aj false)) v.2) := by
 refine N6 Abn (Nat.le_of_ble_eq_true rfl) ?_
 unfold Bc at h
 refine Len.map <| CallQ.io Af (rP true (Aj false)) (by rfl) rfl (fun _ => rfl) (fun _ => ⟨rfl, rfl⟩) rfl h (fun r h => A3 h) (fun r1 u2 h => ?_)
 refine Len.map <| Ask.o h fun p3 h => Elem.o (by first | omega | (simp [Ar] at * <;> omega)) ?_
 cases h; exact ⟨(by rfl), (by rfl)⟩
noncomputable def C7 (a0 : SAlgebra) : Int → Option (Int ⊕ (Unit ⊕ Unit)) := fun x22 =>
 if x22 < (↑a0.Ops.length : Int) then
 ask ((0 : Int) ≤ x22 ∧ x22 < (↑a0.Ops.length : Int)) <|
 (Ow (nth a0.Ops x22.toNat) (a0.Size)).bind fun r7 =>
 if (r7) = true then
 ask (InI (x22 + (1 : Int))) <|
 some (.inl (x22 + (1 : Int)))
 else
 some (.inr (.inl ()))
 else
 some (.inr (.inr ()))
def J8 (a0 : SAlgebra) : Int → St := fun s => [(22, A.val (Af s)), (21, A.val (Af ((↑a0.Ops.length : Int)))), (20, A.val ((slr false 2 (Bd false)) (a0.Ops))), (1, A.val ((rP true (Ag false)) (a0)))]
def P1 (_a0 : SAlgebra) : (Unit ⊕ Unit) → Tgt
 | (.inl _s) => (Ex.ret, [2], [(2, A.val (V.bool (false)))])
 | (.inr _s) => ((Ex.exit 0), [], [])
theorem Aav {a0 : SAlgebra} (x22 : Int) (o : Int ⊕ (Unit ⊕ Unit)) (h : C7 a0 x22 = some o) : vc Tryz.prog Py (Da [22, 21, 20, 1] (J8 a0) (P1 a0) o) (J8 a0 x22) := by
 unfold C7 at h
 try dsimp only at h
 refine Br.od h (fun p5 h => ?_) (fun p5 h => ?_)
 ·refine Len.map <| Ask.o h fun p6 h => Elem.o (by first | omega | (simp [Ar] at * <;> omega)) <| SetKids.lit rfl <| Cells.lit rfl rfl <| Cells.lit rfl rfl <| CallQ.o V.bool (by rfl) h (fun r h => Apx h) (fun r7 h => ?_)
  refine Br.flip <| Br.ob h (fun p8 h => ?_) (fun p8 h => ?_)
  ·refine Ask.o h fun p9 h => ?_
   cases h; exact ⟨rfl, rfl⟩
  cases h; exact ⟨rfl, rfl⟩
 cases h; exact ⟨rfl, rfl⟩
noncomputable def E1 (a0 : SAlgebra) : Option Bool :=
 ((if a0.Size < (1 : Int) then
 some (.inl ())
 else
 if a0.Size > (8 : Int) then
 some (.inl ())
 else
 if (↑a0.Ops.length : Int) > (4 : Int) then
 some (.inl ())
 else
 some (.inr ()) : Option (Unit ⊕ Unit))).bind fun t => match t with
 | (.inl _) => (some false)
 | (.inr _) => ((Al (C7 a0) (0 : Int)).bind fun t => match t with
 | (.inl _) => (some false)
 | (.inr _) => (some true))
theorem Nw {a0 : SAlgebra} {v : Bool} (h : E1 a0 = some v) : Ret Tryz.prog Ho [(Ag false) a0] (V.bool v) := by
 refine Ay Afk (Nat.le_of_ble_eq_true rfl) ?_
 unfold E1 at h
 refine CutQ.o (fun t : (Unit ⊕ Unit) => match t with | (.inl s) => (Ex.ret, [2], [(2, A.val (V.bool (false)))]) | (.inr s) => (Ex.normal, [1], [(1, A.val ((rP true (Ag false)) (a0)))])) h ?_ ?_
 ·intro t h
  refine Cells.lit rfl rfl <| Br.od h (fun p1 h => ?_) (fun p1 h => ?_)
  ·refine Br.yes <| Br.yes <| Br.yes <| Br.yes <| Br.yes <| Br.yes <| Br.yes <| Br.yes <| Br.yes ?_
   cases h; exact ⟨rfl, rfl⟩
  refine Br.no <| Cells.lit rfl rfl <| Br.no <| Br.no <| Br.od h (fun p2 h => ?_) (fun p2 h => ?_)
  ·refine Br.yes <| Br.yes <| Br.yes <| Br.yes <| Br.yes ?_
   cases h; exact ⟨rfl, rfl⟩
  refine Br.no <| Cells.lit rfl rfl <| Br.no <| Len.map <| Br.no <| Br.no <| Br.od h (fun p3 h => ?_) (fun p3 h => ?_)
  ·cases h; exact ⟨rfl, rfl⟩
  cases h; exact ⟨rfl, rfl⟩
 rintro (⟨⟩ | ⟨⟩) h
 ·try dsimp only at h
  cases h; exact (by rfl)
 try dsimp only at h
 refine Cells.lit rfl rfl <| Len.map <| LoopQ.o [22, 21, 20, 1] (J8 a0) (P1 a0) h (fun s o h => Aav s o h) (by rfl) (by rintro (_ | _) <;> rfl) ?_
 rintro (⟨⟩ | ⟨⟩) h
 ·try dsimp only at h
  cases h; exact (by rfl)
 try dsimp only at h
 cases h; exact (by rfl)
noncomputable def Cz (_a0 : SAlgebra) (pairs0 : List (Int × Int)) : (Int × (List Int)) → Option ((Int × (List Int)) ⊕ (List Int)) := fun (x13, x5) =>
 if x13 < (↑pairs0.length : Int) then
 ask ((0 : Int) ≤ x13 ∧ x13 < (↑pairs0.length : Int)) <|
 (Ic (x5) ((nth pairs0 x13.toNat).fst) ((nth pairs0 x13.toNat).snd)).bind fun (_r4, u5) =>
 ask (InI (x13 + (1 : Int))) <|
 some (.inl (x13 + (1 : Int), u5))
 else
 some (.inr x5)
def Ig (a0 : SAlgebra) (pairs0 : List (Int × Int)) : (Int × (List Int)) → St := fun s => [(13, A.val (Af s.1)), (12, A.val (Af ((↑pairs0.length : Int)))), (11, A.val ((slr false 2 (rA2 Af)) (pairs0))), (5, A.val ((slr true 1 Af) s.2)), (2, A.val ((rP true (Ag false)) (a0)))]
def Ml (a0 : SAlgebra) (_pairs0 : List (Int × Int)) : (List Int) → Tgt
 | s => ((Ex.exit 0), [5, 2], [(5, A.val ((slr true 1 Af) s)), (2, A.val ((rP true (Ag false)) (a0)))])
theorem Ws {a0 : SAlgebra} {pairs0 : List (Int × Int)} (s : (Int × (List Int))) (o : (Int × (List Int)) ⊕ (List Int)) (h : Cz a0 pairs0 s = some o) : vc Tryz.prog Md (Da [13, 12, 11, 5, 2] (Ig a0 pairs0) (Ml a0 pairs0) o) (Ig a0 pairs0 s) := by
 obtain ⟨x13, x5⟩ := s
 unfold Cz at h
 try dsimp only at h
 refine Br.od h (fun p2 h => ?_) (fun p2 h => ?_)
 ·refine Len.map <| Ask.o h fun p3 h => Elem.o (by first | omega | (simp [Ar] at * <;> omega)) <| SetKids.lit rfl <| Ask.mk (by decide) <| Idx.lit <| Cells.lit rfl rfl <| Ask.mk (by decide) <| Idx.lit <| Cells.lit rfl rfl <| CallQ.io V.bool (slr true 1 Af) (by rfl) rfl (fun _ => rfl) (fun _ => ⟨rfl, rfl⟩) rfl h (fun r h => Wp h) (fun r4 u5 h => ?_)
  refine Ask.o h fun p6 h => ?_
  cases h; exact ⟨rfl, rfl⟩
 cases h; exact ⟨rfl, rfl⟩
noncomputable def C6 (a0 : SAlgebra) (pairs0 : (List (Int × Int))) : Option (List Int) :=
 (Ff (a0.Size)).bind fun r1 =>
 (Al (Cz a0 pairs0) ((0 : Int), r1)).bind fun q7_5 =>
 (B3 (a0) (q7_5)).bind fun (_r8, u9) =>
 some u9
theorem J3 {a0 : SAlgebra} {pairs0 : (List (Int × Int))} {v : (List Int)} (h : C6 a0 pairs0 = some v) : Ret Tryz.prog Fu [(Ag false) a0, (slr false 2 (rA2 Af)) pairs0] ((slr true 1 Af) v) := by
 refine Ay Aal (Nat.le_of_ble_eq_true rfl) ?_
 unfold C6 at h
 refine Cells.lit rfl rfl <| CallQ.o (slr true 1 Af) (by rfl) h (fun r h => S8 h) (fun r1 h => ?_)
 refine Len.map <| LoopQ.o [13, 12, 11, 5, 2] (Ig a0 pairs0) (Ml a0 pairs0) h (fun s o h => Ws s o h) (by rfl) (fun _ => rfl) ?_
 rintro q7_5 h
 try dsimp only at h
 refine Cells.lit rfl rfl <| CallQ.io V.bool (slr true 1 Af) (by rfl) rfl (fun _ => rfl) (fun _ => ⟨rfl, rfl⟩) rfl h (fun r h => Mo h) (fun r8 u9 h => ?_)
 cases h; exact (by rfl)
noncomputable def Eu (a0 : SAlgebra) : Int → Option (Int ⊕ (Unit ⊕ Unit)) := fun x3 =>
 if x3 < (↑a0.Ops.length : Int) then
 ask ((0 : Int) ≤ x3 ∧ x3 < (↑a0.Ops.length : Int)) <|
 (Ou (a0.Size) (nth a0.Ops x3.toNat)).bind fun r7 =>
 if (r7) = true then
 ask (InI (x3 + (1 : Int))) <|
 some (.inl (x3 + (1 : Int)))
 else
 some (.inr (.inl ()))
 else
 some (.inr (.inr ()))
def Nk (a0 : SAlgebra) : Int → St := fun s => [(3, A.val (Af s)), (1, A.val ((rP true (Ag false)) (a0)))]
def U5 (_a0 : SAlgebra) : (Unit ⊕ Unit) → Tgt
 | (.inl _s) => (Ex.ret, [2], [(2, A.val (V.bool (false)))])
 | (.inr _s) => ((Ex.exit 0), [], [])
theorem Ae4 {a0 : SAlgebra} (x3 : Int) (o : Int ⊕ (Unit ⊕ Unit)) (h : Eu a0 x3 = some o) : vc Tryz.prog U8 (Da [3, 1] (Nk a0) (U5 a0) o) (Nk a0 x3) := by
 unfold Eu at h
 try dsimp only at h
 refine Cells.lit rfl rfl <| Len.map <| Br.od h (fun p5 h => ?_) (fun p5 h => ?_)
 ·refine Cells.lit rfl rfl <| Cells.lit rfl rfl <| Len.map <| Ask.o h fun p6 h => Elem.o (by first | omega | (simp [Ar] at * <;> omega)) <| CallQ.o V.bool (by rfl) h (fun r h => Aqd h) (fun r7 h => ?_)
  refine Br.flip <| Br.ob h (fun p8 h => ?_) (fun p8 h => ?_)
  ·refine Ask.o h fun p9 h => ?_
   cases h; exact ⟨rfl, rfl⟩
  cases h; exact ⟨rfl, rfl⟩
 cases h; exact ⟨rfl, rfl⟩
noncomputable def Hj (a0 : SAlgebra) : Option Bool :=
 (((Ee (a0.Size) ((1 : Int)) ((8 : Int))).bind fun r1 =>
 if (r1) = true then
 if (↑a0.Ops.length : Int) > (4 : Int) then
 some (.inl ())
 else
 some (.inr ())
 else
 some (.inl ()) : Option (Unit ⊕ Unit))).bind fun t => match t with
 | (.inl _) => (some false)
 | (.inr _) => ((Al (Eu a0) (0 : Int)).bind fun t => match t with
 | (.inl _) => (some false)
 | (.inr _) => (some true))
theorem Uq {a0 : SAlgebra} {v : Bool} (h : Hj a0 = some v) : Ret Tryz.prog K0 [(Ag false) a0] (V.bool v) := by
 refine Ay Alo (Nat.le_of_ble_eq_true rfl) ?_
 unfold Hj at h
 refine CutQ.o (fun t : (Unit ⊕ Unit) => match t with | (.inl s) => (Ex.ret, [2], [(2, A.val (V.bool (false)))]) | (.inr s) => (Ex.normal, [1], [(1, A.val ((rP true (Ag false)) (a0)))])) h ?_ ?_
 ·intro t h
  refine Cells.lit rfl rfl <| CallQ.o V.bool (by rfl) h (fun r h => Lx h) (fun r1 h => ?_)
  refine Br.flip <| Br.ob h (fun p2 h => ?_) (fun p2 h => ?_)
  ·refine Br.no <| Cells.lit rfl rfl <| Br.no <| Len.map <| Br.no <| Br.no <| Br.od h (fun p3 h => ?_) (fun p3 h => ?_)
   ·cases h; exact ⟨rfl, rfl⟩
   cases h; exact ⟨rfl, rfl⟩
  refine Br.yes <| Br.yes <| Br.yes <| Br.yes <| Br.yes ?_
  cases h; exact ⟨rfl, rfl⟩
 rintro (⟨⟩ | ⟨⟩) h
 ·try dsimp only at h
  cases h; exact (by rfl)
 try dsimp only at h
 refine LoopQ.o [3, 1] (Nk a0) (U5 a0) h (fun s o h => Ae4 s o h) (by rfl) (by rintro (_ | _) <;> rfl) ?_
 rintro (⟨⟩ | ⟨⟩) h
 ·try dsimp only at h
  cases h; exact (by rfl)
 try dsimp only at h
 cases h; exact (by rfl)
end Go.Proofs.YthagmdhmgailfaaGreat.Ax
