/-
 What the functions compute, as functions on plain data, and that the program does compute it; written by program.
-/
import Derived.Test.YthagmdhmgailfaaGreatCode
import Derived.Test.YthagmdhmgailfaaGreatSo5
import Derived.Test.YthagmdhmgailfaaGreatG1
import Derived.Test.YthagmdhmgailfaaGreatG2
import Derived.Test.YthagmdhmgailfaaGreatG4
import Derived.Test.YthagmdhmgailfaaGreatG5
import Derived.Test.YthagmdhmgailfaaGreatG6
import Derived.Test.YthagmdhmgailfaaGreatG7
namespace Go.Proofs.YthagmdhmgailfaaGreat.Ax
open Go
set_option maxRecDepth 100000
set_option maxHeartbeats 4000000
noncomputable def Dq (c0 : Sl1Cur) (a0 : SAlgebra) : Option (Int × Sl1Cur) :=
 if a0.Size < (1 : Int) then
 (Bc (c0) ([(-1 : Int), a0.Size])).bind fun (r2, u3) =>
 some (r2, u3)
 else
 (El (c0) ((24 : Int))).bind fun (r4, u5) =>
 if (r4) = true then
 (Bc (u5) ([(-1 : Int), a0.Size])).bind fun (r7, u8) =>
 some (r7, u8)
 else
 (Av (u5) (a0.Size)).bind fun (r9, u10) =>
 some (r9, u10)
theorem Ox {c0 : Sl1Cur} {a0 : SAlgebra} {v : (Int × Sl1Cur)} (h : Dq c0 a0 = some v) : Wy Tryz.prog Gy [(rP true (Aj false)) c0, (Ag false) a0] (Af v.1) 0 ((rP true (Aj false)) v.2) := by
 refine N6 Zs (Nat.le_of_ble_eq_true rfl) ?_
 unfold Dq at h
 refine Cells.lit rfl rfl <| Br.od h (fun p1 h => ?_) (fun p1 h => ?_)
 ·refine Br.yes <| Br.yes <| Br.yes <| Cells.lit rfl rfl <| BslQ.o Af ([(-1 : Int), a0.Size]) (by exact fun _ => ⟨rfl, rfl⟩) (by rfl) <| CallQ.io Af (rP true (Aj false)) (by rfl) rfl (fun _ => rfl) (fun _ => ⟨rfl, rfl⟩) rfl h (fun r h => Bm h) (fun r2 u3 h => ?_)
  cases h; exact ⟨(by rfl), (by rfl)⟩
 refine Br.no <| CallQ.io V.bool (rP true (Aj false)) (by rfl) rfl (fun _ => rfl) (fun _ => ⟨rfl, rfl⟩) rfl h (fun r h => M1 h) (fun r4 u5 h => ?_)
 refine Br.no <| Br.ob h (fun p6 h => ?_) (fun p6 h => ?_)
 ·refine Cells.lit rfl rfl <| BslQ.o Af ([(-1 : Int), a0.Size]) (by exact fun _ => ⟨rfl, rfl⟩) (by rfl) <| CallQ.io Af (rP true (Aj false)) (by rfl) rfl (fun _ => rfl) (fun _ => ⟨rfl, rfl⟩) rfl h (fun r h => Bm h) (fun r7 u8 h => ?_)
  cases h; exact ⟨(by rfl), (by rfl)⟩
 refine Cells.lit rfl rfl <| CallQ.io Af (rP true (Aj false)) (by rfl) rfl (fun _ => rfl) (fun _ => ⟨rfl, rfl⟩) rfl h (fun r h => A3 h) (fun r9 u10 h => ?_)
 cases h; exact ⟨(by rfl), (by rfl)⟩
noncomputable def Ck (a0 : SAlgebra) : (Int × (List Int)) → Option ((Int × (List Int)) ⊕ (List Int)) := fun (x5, x1) =>
 if x5 < a0.Size then
 (D3 (a0) (x1)).bind fun r2 =>
 ask (InI (x5 + (1 : Int))) <|
 some (.inl (x5 + (1 : Int), r2))
 else
 some (.inr x1)
def Me (a0 : SAlgebra) : (Int × (List Int)) → St := fun s => [(5, A.val (Af s.1)), (2, A.val ((rP true (Ag false)) (a0))), (1, A.val ((slr false 1 Af) s.2))]
def Ta (_a0 : SAlgebra) : (List Int) → Tgt
 | s => ((Ex.exit 0), [1], [(1, A.val ((slr false 1 Af) s))])
theorem Adf {a0 : SAlgebra} (s : (Int × (List Int))) (o : (Int × (List Int)) ⊕ (List Int)) (h : Ck a0 s = some o) : vc Tryz.prog S0 (Da [5, 2, 1] (Me a0) (Ta a0) o) (Me a0 s) := by
 obtain ⟨x5, x1⟩ := s
 unfold Ck at h
 try dsimp only at h
 refine Cells.lit rfl rfl <| Br.od h (fun p1 h => ?_) (fun p1 h => ?_)
 ·refine Cells.lit rfl rfl <| CallQ.o (slr true 1 Af) (by rfl) h (fun r h => Aa0 h) (fun r2 h => ?_)
  refine FrzQ.d (V.sl false (1 : Nat) (List.map Af r2)) (by first | (simp only [slr]; done) | (simp [Bp, V.fz, Ab, slr]; done) | (simp [Bp, V.fz, fzL, Ab, slr]; done)) <| Ask.o h fun p3 h => ?_
  cases h; exact ⟨rfl, rfl⟩
 cases h; exact ⟨rfl, rfl⟩
noncomputable def E7 (a0 : SAlgebra) (p0 : (List Int)) : Option (List Int) :=
 (Al (Ck a0) ((0 : Int), p0)).bind fun q4_1 =>
 some q4_1
theorem Zq {a0 : SAlgebra} {p0 : (List Int)} {v : (List Int)} (h : E7 a0 p0 = some v) : Ret Tryz.prog L2 [(Ag false) a0, (slr false 1 Af) p0] ((slr false 1 Af) v) := by
 refine Ay Aj7 (Nat.le_of_ble_eq_true rfl) ?_
 unfold E7 at h
 refine LoopQ.o [5, 2, 1] (Me a0) (Ta a0) h (fun s o h => Adf s o h) (by rfl) (fun _ => rfl) ?_
 rintro q4_1 h
 try dsimp only at h
 cases h; exact (by rfl)
noncomputable def N4 (a0 : SAlgebra) (x0 : Int) (y0 : Int) : Option Bool :=
 (E1 (a0)).bind fun r1 =>
 if (r1) = true then
 (Hb ([x0, y0]) (a0.Size)).bind fun r3 =>
 some r3
 else
 some false
theorem Ak5 {a0 : SAlgebra} {x0 : Int} {y0 : Int} {v : Bool} (h : N4 a0 x0 y0 = some v) : Ret Tryz.prog Uh [(Ag false) a0, Af x0, Af y0] (V.bool v) := by
 refine Ay Ama (Nat.le_of_ble_eq_true rfl) ?_
 unfold N4 at h
 refine Cells.lit rfl rfl <| CallQ.o V.bool (by rfl) h (fun r h => Nw h) (fun r1 h => ?_)
 refine Br.ob h (fun p2 h => ?_) (fun p2 h => ?_)
 ·refine Br.yes <| Br.yes <| BslQ.o Af ([x0, y0]) (by exact fun _ => ⟨rfl, rfl⟩) (by rfl) <| Br.yes <| Br.yes <| Cells.lit rfl rfl <| Br.yes <| CallQ.rd V.bool (by rfl) (fun _ => rfl) h (fun r h => Tv h) (fun r3 h => ?_)
  refine Br.yes ?_
  cases h; exact (by rfl)
 refine Br.no <| Br.no <| Br.no <| Br.no <| Br.no <| Br.no ?_
 cases h; exact (by rfl)
noncomputable def Cf (a0 : SAlgebra) (x5 : Int) : (Int × (List (List Int))) → Option ((Int × (List (List Int))) ⊕ (List (List Int))) := fun (x6, x4') =>
 if x6 < a0.Size then
 (C6 (a0) ([(x5, x6)])).bind fun r4 =>
 ask ((x4').length + ([r4]).length ≤ LIM) <|
 ask (InI (x6 + (1 : Int))) <|
 some (.inl (x6 + (1 : Int), x4' ++ [r4]))
 else
 some (.inr x4')
def G7 (a0 : SAlgebra) (x5 : Int) : (Int × (List (List Int))) → St := fun s => [(6, A.val (Af s.1)), (5, A.val (Af (x5))), (4, A.val ((slr true 1 (slr true 1 Af)) s.2)), (1, A.val ((rP true (Ag false)) (a0)))]
def Kv (a0 : SAlgebra) (x5 : Int) : (List (List Int)) → Tgt
 | s => ((Ex.exit 2), [5, 4, 1], [(5, A.val (Af (x5))), (4, A.val ((slr true 1 (slr true 1 Af)) s)), (1, A.val ((rP true (Ag false)) (a0)))])
theorem T0 {a0 : SAlgebra} {x5 : Int} (s : (Int × (List (List Int)))) (o : (Int × (List (List Int))) ⊕ (List (List Int))) (h : Cf a0 x5 s = some o) : vc Tryz.prog Kt (Da [6, 5, 4, 1] (G7 a0 x5) (Kv a0 x5) o) (G7 a0 x5 s) := by
 obtain ⟨x6, x4'⟩ := s
 unfold Cf at h
 try dsimp only at h
 refine Cells.lit rfl rfl <| Br.od h (fun p3 h => ?_) (fun p3 h => ?_)
 ·refine Cells.lit rfl rfl <| BslQ.o (rA2 Af) ([(x5, x6)]) (by exact fun _ => ⟨rfl, rfl⟩) (by rfl) <| CallQ.rd (slr true 1 Af) (by rfl) (fun _ => by simp [V.noFz, B6]) h (fun r h => J3 h) (fun r4 h => ?_)
  refine BslQ.o (slr true 1 Af) [r4] (by exact fun _ => ⟨rfl, rfl⟩) (by rfl) <| NoOwn.own rfl <| AppQ.o (m := 1) (slr true 1 Af) (by exact fun _ => ⟨rfl, rfl⟩) (x4') ([r4]) (by rfl) (by rfl) h fun h => Ask.o h fun p5 h => ?_
  cases h; exact ⟨rfl, rfl⟩
 cases h; exact ⟨rfl, rfl⟩
noncomputable def Df (a0 : SAlgebra) : (Int × (List (List Int))) → Option ((Int × (List (List Int))) ⊕ (List (List Int))) := fun (x5, x4) =>
 if x5 < a0.Size then
 ask (InI (x5 + (1 : Int))) <|
 (Al (Cf a0 x5) (x5 + (1 : Int), x4)).bind fun q6_4 =>
 ask (InI (x5 + (1 : Int))) <|
 some (.inl (x5 + (1 : Int), q6_4))
 else
 some (.inr x4)
def Hh (a0 : SAlgebra) : (Int × (List (List Int))) → St := fun s => [(5, A.val (Af s.1)), (4, A.val ((slr true 1 (slr true 1 Af)) s.2)), (1, A.val ((rP true (Ag false)) (a0)))]
def Kq (a0 : SAlgebra) : (List (List Int)) → Tgt
 | s => ((Ex.exit 0), [4, 1], [(4, A.val ((slr true 1 (slr true 1 Af)) s)), (1, A.val ((rP true (Ag false)) (a0)))])
theorem T1 {a0 : SAlgebra} (s : (Int × (List (List Int)))) (o : (Int × (List (List Int))) ⊕ (List (List Int))) (h : Df a0 s = some o) : vc Tryz.prog Kh (Da [5, 4, 1] (Hh a0) (Kq a0) o) (Hh a0 s) := by
 obtain ⟨x5, x4⟩ := s
 unfold Df at h
 try dsimp only at h
 refine Cells.lit rfl rfl <| Br.od h (fun p1 h => ?_) (fun p1 h => ?_)
 ·refine Ask.o h fun p2 h => LoopQ.o [6, 5, 4, 1] (G7 a0 x5) (Kv a0 x5) h (fun s o h => T0 s o h) (by rfl) (fun _ => rfl) ?_
  rintro q6_4 h
  try dsimp only at h
  refine Ask.o h fun p7 h => ?_
  cases h; exact ⟨rfl, rfl⟩
 cases h; exact ⟨rfl, rfl⟩
noncomputable def Ce (q8_4 : List (List Int)) (x9 : Int) : (Int × (List (ByteArray × Bool)) × (List (List Int))) → Option ((Int × (List (ByteArray × Bool)) × (List (List Int))) ⊕ (Unit ⊕ ((List (ByteArray × Bool)) × (List (List Int))))) := fun (x56, x8', x7') =>
 if x56 < (↑q8_4.length : Int) then
 ask ((0 : Int) ≤ x56 ∧ x56 < (↑q8_4.length : Int)) <|
 ask ((0 : Int) ≤ x9 ∧ x9 < (↑x7'.length : Int)) <|
 (Lr (nth x7' x9.toNat) (nth q8_4 x56.toNat)).bind fun r16 =>
 (Ju (r16)).bind fun r17 =>
 if ((F3 x8' r17).getD false) = true then
 if (↑x7'.length : Int) > (200 : Int) then
 some (.inr (.inl ()))
 else
 ask (InI (x56 + (1 : Int))) <|
 some (.inl (x56 + (1 : Int), x8', x7'))
 else
 ask ((x7').length + ([r16]).length ≤ LIM) <|
 if (↑(x7' ++ [r16]).length : Int) > (200 : Int) then
 some (.inr (.inl ()))
 else
 ask (InI (x56 + (1 : Int))) <|
 some (.inl (x56 + (1 : Int), Km x8' r17 true, x7' ++ [r16]))
 else
 some (.inr (.inr (x8', x7')))
def Hf (q8_4 : List (List Int)) (x9 : Int) : (Int × (List (ByteArray × Bool)) × (List (List Int))) → St := fun s => [(56, A.val (Af s.1)), (55, A.val (Af ((↑q8_4.length : Int)))), (54, A.ref 4 []), (9, A.val (Af (x9))), (8, A.val ((rMp true Lf.bool) s.2.1)), (7, A.val ((slr true 1 (slr true 1 Af)) s.2.2)), (4, A.val ((slr true 1 (slr true 1 Af)) (q8_4)))]
def Kk (q8_4 : List (List Int)) (x9 : Int) : (Unit ⊕ ((List (ByteArray × Bool)) × (List (List Int)))) → Tgt
 | (.inl _s) => (Ex.ret, [3, 2], [(3, A.val (V.bool (false))), (2, A.val ((slr true 1 (slr true 1 Af)) (Aq (List Int))))])
 | (.inr s) => ((Ex.exit 6), [9, 8, 7, 4], [(9, A.val (Af (x9))), (8, A.val ((rMp true Lf.bool) s.1)), (7, A.val ((slr true 1 (slr true 1 Af)) s.2)), (4, A.val ((slr true 1 (slr true 1 Af)) (q8_4)))])
theorem To {q8_4 : List (List Int)} {x9 : Int} (s : (Int × (List (ByteArray × Bool)) × (List (List Int)))) (o : (Int × (List (ByteArray × Bool)) × (List (List Int))) ⊕ (Unit ⊕ ((List (ByteArray × Bool)) × (List (List Int))))) (h : Ce q8_4 x9 s = some o) : vc Tryz.prog Kw (Da [56, 55, 54, 9, 8, 7, 4] (Hf q8_4 x9) (Kk q8_4 x9) o) (Hf q8_4 x9 s) := by
 obtain ⟨x56, x8', x7'⟩ := s
 unfold Ce at h
 try dsimp only at h
 refine Br.od h (fun p13 h => ?_) (fun p13 h => ?_)
 ·refine Len.map <| Ask.o h fun p14 h => Cells.one (fun _ => ⟨rfl, rfl⟩) (by first | omega | (simp [Ar] at * <;> omega)) <| Len.map <| Ask.o h fun p15 h => Cells.one (fun _ => ⟨rfl, rfl⟩) (by first | omega | (simp [Ar] at * <;> omega)) <| Kid.one (fun _ => ⟨rfl, rfl⟩) (by first | omega | (simp [Ar] at * <;> omega)) <| Kid.one (fun _ => ⟨rfl, rfl⟩) (by first | omega | (simp [Ar] at * <;> omega)) <| CallQ.rd (slr true 1 Af) (by first | rfl | simp only [Aa, V.fz, Ab, slr] | simp [Aa, V.fz, fzL, V.up, upL, Ab, Ac, Ad, slr]) (fun _ => by simp [V.noFz, B6]) h (fun r h => Ago h) (fun r16 h => ?_)
  refine CallQ.rd V.str (by first | rfl | simp only [V.fz, Ab, slr] | simp [Aa, V.fz, fzL, V.up, upL, Ab, Ac, Ad, slr]) (fun _ => rfl) h (fun r h => Adx h) (fun r17 h => ?_)
  refine LkQ.one Lf.bool V.bool x8' (false) (by rfl) rfl (fun _ => rfl) <| Br.flip <| Br.ob h (fun p18 h => ?_) (fun p18 h => ?_)
  ·refine Len.map <| Br.od h (fun p19 h => ?_) (fun p19 h => ?_)
   ·cases h; exact ⟨rfl, rfl⟩
   refine Ask.o h fun p20 h => ?_
   cases h; exact ⟨rfl, rfl⟩
  refine MsQ.o Lf.bool x8' true (by rfl) rfl <| BslQ.o (slr true 1 Af) [r16] (by exact fun _ => ⟨rfl, rfl⟩) (by rfl) <| NoOwn.own rfl <| AppQ.o (m := 1) (slr true 1 Af) (by exact fun _ => ⟨rfl, rfl⟩) (x7') ([r16]) (by rfl) (by rfl) h fun h => Len.map <| Br.od h (fun p21 h => ?_) (fun p21 h => ?_)
  ·cases h; exact ⟨rfl, rfl⟩
  refine Ask.o h fun p22 h => ?_
  cases h; exact ⟨rfl, rfl⟩
 cases h; exact ⟨rfl, rfl⟩
noncomputable def Dh (q8_4 : List (List Int)) : (Int × (List (ByteArray × Bool)) × (List (List Int))) → Option ((Int × (List (ByteArray × Bool)) × (List (List Int))) ⊕ (Unit ⊕ (List (List Int)))) := fun (x9, x8, x7) =>
 if x9 < (↑x7.length : Int) then
 (Al (Ce q8_4 x9) ((0 : Int), x8, x7)).bind fun t => match t with
 | (.inl _) => (some (.inr (.inl ())))
 | (.inr (q23_8, q23_7)) => (ask (InI (x9 + (1 : Int))) <|
 some (.inl (x9 + (1 : Int), q23_8, q23_7)))
 else
 some (.inr (.inr x7))
def Ha (q8_4 : List (List Int)) : (Int × (List (ByteArray × Bool)) × (List (List Int))) → St := fun s => [(9, A.val (Af s.1)), (8, A.val ((rMp true Lf.bool) s.2.1)), (7, A.val ((slr true 1 (slr true 1 Af)) s.2.2)), (4, A.val ((slr true 1 (slr true 1 Af)) (q8_4)))]
def Kr (_q8_4 : List (List Int)) : (Unit ⊕ (List (List Int))) → Tgt
 | (.inl _s) => (Ex.ret, [3, 2], [(3, A.val (V.bool (false))), (2, A.val ((slr true 1 (slr true 1 Af)) (Aq (List Int))))])
 | (.inr s) => ((Ex.exit 4), [7], [(7, A.val ((slr true 1 (slr true 1 Af)) s))])
theorem T8 {q8_4 : List (List Int)} (s : (Int × (List (ByteArray × Bool)) × (List (List Int)))) (o : (Int × (List (ByteArray × Bool)) × (List (List Int))) ⊕ (Unit ⊕ (List (List Int)))) (h : Dh q8_4 s = some o) : vc Tryz.prog K1 (Da [9, 8, 7, 4] (Ha q8_4) (Kr q8_4) o) (Ha q8_4 s) := by
 obtain ⟨x9, x8, x7⟩ := s
 unfold Dh at h
 try dsimp only at h
 refine Len.map <| Br.od h (fun p12 h => ?_) (fun p12 h => ?_)
 ·refine Len.map <| LoopQ.o [56, 55, 54, 9, 8, 7, 4] (Hf q8_4 x9) (Kk q8_4 x9) h (fun s o h => To s o h) (by rfl) (by rintro (_ | _) <;> rfl) ?_
  rintro (⟨⟩ | ⟨q23_8, q23_7⟩) h
  ·try dsimp only at h
   cases h; exact ⟨rfl, rfl⟩
  try dsimp only at h
  refine Ask.o h fun p24 h => ?_
  cases h; exact ⟨rfl, rfl⟩
 cases h; exact ⟨rfl, rfl⟩
noncomputable def B2 (a0 : SAlgebra) : Option ((List (List Int)) × Bool) :=
 (Al (Df a0) ((0 : Int), Aq (List Int))).bind fun q8_4 =>
 (Ff (a0.Size)).bind fun r9 =>
 ask ((0 : Int) ≤ (0 : Int) ∧ (0 : Int) < (↑[r9].length : Int)) <|
 (Ju (nth [r9] (Int.toNat (0 : Int)))).bind fun r11 =>
 (Al (Dh q8_4) ((0 : Int), Km (Aq (ByteArray × Bool)) r11 true, [r9])).bind fun t => match t with
 | (.inl _) => (some (Aq (List Int), false))
 | (.inr q25_7) => ((Gr (q25_7) (fun w_0 w_1 => Bt w_0 w_1)).bind fun (_r26, u27) =>
 some (u27, true))
theorem Xw {a0 : SAlgebra} {v : ((List (List Int)) × Bool)} (h : B2 a0 = some v) : Ret Tryz.prog Iu [(Ag false) a0] ((fun r => V.tup [(slr true 1 (slr true 1 Af)) r.1, V.bool r.2]) v) := by
 refine Ay X4 (Nat.le_of_ble_eq_true rfl) ?_
 unfold B2 at h
 refine BslQ.o (slr true 1 Af) (Aq (List Int)) (by exact fun _ => ⟨rfl, rfl⟩) (by rfl) <| LoopQ.o [5, 4, 1] (Hh a0) (Kq a0) h (fun s o h => T1 s o h) (by rfl) (fun _ => rfl) ?_
 rintro q8_4 h
 try dsimp only at h
 refine Cells.lit rfl rfl <| CallQ.o (slr true 1 Af) (by rfl) h (fun r h => S8 h) (fun r9 h => ?_)
 refine BslQ.o (slr true 1 Af) [r9] (by exact fun _ => ⟨rfl, rfl⟩) (by rfl) <| Len.map <| Ask.o h fun p10 h => Cells.one (fun _ => ⟨rfl, rfl⟩) (by first | omega | (simp [Ar] at * <;> omega)) <| Kid.one (fun _ => ⟨rfl, rfl⟩) (by first | omega | (simp [Ar] at * <;> omega)) <| CallQ.rd V.str (by first | rfl | simp only [Aa, V.fz, Ab, slr] | simp [Aa, V.fz, fzL, V.up, upL, Ab, Ac, Ad, slr]) (fun _ => rfl) h (fun r h => Adx h) (fun r11 h => ?_)
 refine MsQ.o Lf.bool (Aq (ByteArray × Bool)) true (by rfl) rfl <| LoopQ.o [9, 8, 7, 4] (Ha q8_4) (Kr q8_4) h (fun s o h => T8 s o h) (by rfl) (by rintro (_ | _) <;> rfl) ?_
 rintro (⟨⟩ | q25_7) h
 ·try dsimp only at h
  cases h; exact (by rfl)
 try dsimp only at h
 refine CallQ.io (fun r => V.tup []) (slr true 1 (slr true 1 Af)) (by rfl) rfl (fun _ => rfl) (fun _ => ⟨rfl, rfl⟩) rfl h (fun r h => Ag4 (f_order0 := Ei) (c_order0 := []) (fun w_0 w_1 v h => Ret.cast (by rfl) (Si h)) h) (fun r26 u27 h => ?_)
 cases h; exact (by rfl)
noncomputable def Co : (Int × (List Int) × Sl1Cur) → Option ((Int × (List Int) × Sl1Cur) ⊕ ((List Int) × Sl1Cur)) := fun (x6, x5, x59) =>
 ((if x6 > (0 : Int) then
 if (↑x5.length : Int) > (1 : Int) then
 some (.inl ())
 else
 some (.inr ())
 else
 some (.inr ()) : Option (Unit ⊕ Unit))).bind fun t => match t with
 | (.inl _) => ((Av (x59) ((↑x5.length : Int))).bind fun (r9, u10) =>
 (Av (u10) ((↑x5.length : Int))).bind fun (r11, u12) =>
 (D4 (x5) (r9) (r11)).bind fun r13 =>
 ask (InI (x6 - (1 : Int))) <|
 some (.inl (x6 - (1 : Int), r13, u12)))
 | (.inr _) => (some (.inr (x5, x59)))
def F7 : (Int × (List Int) × Sl1Cur) → St := fun s => [(6, A.val (Af s.1)), (5, A.val ((slr true 1 Af) s.2.1)), (0, A.ref 59 []), (59, A.val ((rP true (Aj false)) s.2.2))]
def Jh : ((List Int) × Sl1Cur) → Tgt
 | s => ((Ex.exit 0), [5, 0, 59], [(5, A.val ((slr true 1 Af) s.1)), (0, A.ref 59 []), (59, A.val ((rP true (Aj false)) s.2))])
theorem Q2 (s : (Int × (List Int) × Sl1Cur)) (o : (Int × (List Int) × Sl1Cur) ⊕ ((List Int) × Sl1Cur)) (h : Co s = some o) : vc Tryz.prog Jo (Da [6, 5, 0, 59] (F7) (Jh) o) (F7 s) := by
 obtain ⟨x6, x5, x59⟩ := s
 unfold Co at h
 try dsimp only at h
 refine CutQ.o (fun t : (Unit ⊕ Unit) => match t with | (.inl s) => (Ex.normal, [6, 5, 0, 59], [(6, A.val (Af (x6))), (5, A.val ((slr true 1 Af) (x5))), (0, A.ref 59 []), (59, A.val ((rP true (Aj false)) (x59)))]) | (.inr s) => ((Ex.exit 0), [5, 0, 59], [(5, A.val ((slr true 1 Af) (x5))), (0, A.ref 59 []), (59, A.val ((rP true (Aj false)) (x59)))])) h ?_ ?_
 ·intro t h
  refine Br.od h (fun p6 h => ?_) (fun p6 h => ?_)
  ·refine Br.yes <| Len.map <| Br.yes <| Br.yes <| Br.od h (fun p7 h => ?_) (fun p7 h => ?_)
   ·cases h; exact ⟨rfl, rfl⟩
   cases h; exact ⟨rfl, rfl⟩
  refine Br.no <| Br.no <| Br.no <| Br.no ?_
  cases h; exact ⟨rfl, rfl⟩
 rintro (⟨⟩ | ⟨⟩) h
 ·try dsimp only at h
  refine Len.map <| CallQ.io Af (rP true (Aj false)) (by rfl) rfl (fun _ => rfl) (fun _ => ⟨rfl, rfl⟩) rfl h (fun r h => A3 h) (fun r9 u10 h => ?_)
  refine Len.map <| CallQ.io Af (rP true (Aj false)) (by rfl) rfl (fun _ => rfl) (fun _ => ⟨rfl, rfl⟩) rfl h (fun r h => A3 h) (fun r11 u12 h => ?_)
  refine CallQ.rd (slr true 1 Af) (by first | rfl | simp only [V.fz, Ab, slr] | simp [Aa, V.fz, fzL, V.up, upL, Ab, Ac, Ad, slr]) (fun _ => by simp [V.noFz, B6]) h (fun r h => Jk h) (fun r13 h => ?_)
  refine Ask.o h fun p14 h => ?_
  cases h; exact ⟨rfl, rfl⟩
 try dsimp only at h
 cases h; exact ⟨rfl, rfl⟩
noncomputable def Cm (c0 : Sl1Cur) (n0 : Int) : Option ((List Int) × Sl1Cur) :=
 (Io (n0) ((0 : Int))).bind fun r1 =>
 (E9 (r1) ((9 : Int))).bind fun r2 =>
 (B8 (r2)).bind fun r3 =>
 (Av (c0) ((4 : Int))).bind fun (r4, u5) =>
 (Al (Co) (r4, r3, u5)).bind fun (q15_5, q15_59) =>
 (Av (q15_59) ((24 : Int))).bind fun (r16, u17) =>
 if r16 = (0 : Int) then
 ask ((q15_5).length + ([(0 : Int)]).length ≤ LIM) <|
 some (q15_5 ++ [(0 : Int)], u17)
 else
 if r16 = (1 : Int) then
 if (↑q15_5.length : Int) > (0 : Int) then
 (Av (u17) ((↑q15_5.length : Int))).bind fun (r21, u22) =>
 ask (InI ((↑q15_5.length : Int) - (1 : Int))) <|
 (Bc (u22) ([(-1 : Int), (↑q15_5.length : Int), (↑q15_5.length : Int) - (1 : Int), (0 : Int)])).bind fun (r24, u25) =>
 ask ((0 : Int) ≤ r21 ∧ r21 < (↑q15_5.length : Int)) <|
 some (q15_5.set r21.toNat r24, u25)
 else
 some (q15_5, u17)
 else
 some (q15_5, u17)
theorem Ln {c0 : Sl1Cur} {n0 : Int} {v : ((List Int) × Sl1Cur)} (h : Cm c0 n0 = some v) : Wy Tryz.prog Hx [(rP true (Aj false)) c0, Af n0] ((slr true 1 Af) v.1) 0 ((rP true (Aj false)) v.2) := by
 refine N6 We (Nat.le_of_ble_eq_true rfl) ?_
 unfold Cm at h
 refine CallQ.o Af (by rfl) h (fun r h => Aay h) (fun r1 h => ?_)
 refine CallQ.o Af (by rfl) h (fun r h => Za h) (fun r2 h => ?_)
 refine CallQ.o (slr true 1 Af) (by rfl) h (fun r h => Fb h) (fun r3 h => ?_)
 refine CallQ.io Af (rP true (Aj false)) (by rfl) rfl (fun _ => rfl) (fun _ => ⟨rfl, rfl⟩) rfl h (fun r h => A3 h) (fun r4 u5 h => ?_)
 refine LoopQ.o [6, 5, 0, 59] (F7) (Jh) h (fun s o h => Q2 s o h) (by rfl) (fun _ => rfl) ?_
 rintro ⟨q15_5, q15_59⟩ h
 try dsimp only at h
 refine CallQ.io Af (rP true (Aj false)) (by rfl) rfl (fun _ => rfl) (fun _ => ⟨rfl, rfl⟩) rfl h (fun r h => A3 h) (fun r16 u17 h => ?_)
 refine Br.oe h (fun p18 h => ?_) (fun p18 h => ?_)
 ·refine BslQ.o Af ([(0 : Int)]) (by exact fun _ => ⟨rfl, rfl⟩) (by rfl) <| NoOwn.o (fun _ => rfl) <| AppQ.o (m := 1) Af (by exact fun _ => ⟨rfl, rfl⟩) (q15_5) ([(0 : Int)]) (by rfl) (by rfl) h fun h => ?_
  cases h; exact ⟨(by rfl), (by rfl)⟩
 refine Br.oe h (fun p19 h => ?_) (fun p19 h => ?_)
 ·refine Len.map <| Br.od h (fun p20 h => ?_) (fun p20 h => ?_)
  ·refine Len.map <| CallQ.io Af (rP true (Aj false)) (by rfl) rfl (fun _ => rfl) (fun _ => ⟨rfl, rfl⟩) rfl h (fun r h => A3 h) (fun r21 u22 h => ?_)
   refine Len.map <| Len.map <| Ask.o h fun p23 h => BslQ.o Af ([(-1 : Int), (↑q15_5.length : Int), (↑q15_5.length : Int) - (1 : Int), (0 : Int)]) (by exact fun _ => ⟨rfl, rfl⟩) (by rfl) <| CallQ.io Af (rP true (Aj false)) (by rfl) rfl (fun _ => rfl) (fun _ => ⟨rfl, rfl⟩) rfl h (fun r h => Bm h) (fun r24 u25 h => ?_)
   refine Len.map <| Ask.o h fun p26 h => SetKids.one (fun _ => ⟨rfl, rfl⟩) (r24) (by rfl) (by first | omega | (simp [Ar] at * <;> omega)) ?_
   cases h; exact ⟨(by rfl), (by rfl)⟩
  cases h; exact ⟨(by rfl), (by rfl)⟩
 cases h; exact ⟨(by rfl), (by rfl)⟩
end Go.Proofs.YthagmdhmgailfaaGreat.Ax
