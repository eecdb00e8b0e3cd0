/-
 What the functions compute, as functions on plain data, and that the program does compute it; written by program.
-/
import Derived.Test.YtjcekpmojnnmbaaCode
import Derived.Test.YtjcekpmojnnmbaaSo5
import Derived.Test.YtjcekpmojnnmbaaG1
import Derived.Test.YtjcekpmojnnmbaaG2
import Derived.Test.YtjcekpmojnnmbaaG3
import Derived.Test.YtjcekpmojnnmbaaG5
import Derived.Test.YtjcekpmojnnmbaaG6
namespace Go.Proofs.Ytjcekpmojnnmbaa.Ax
open Go
set_option maxRecDepth 100000
set_option maxHeartbeats 4000000
noncomputable def Ct (n0 : Int) : (Int × (List Int) × Sl1Cur) → Option ((Int × (List Int) × Sl1Cur) ⊕ ((List Int) × Sl1Cur)) := fun (x6, x5, x30) =>
 if x6 < n0 then
 ask (InI (x6 + (1 : Int))) <|
 (Bb (x30) (x6 + (1 : Int))).bind fun (r3, u4) =>
 if r3 < x6 then
 ask ((0 : Int) ≤ r3 ∧ r3 < (↑x5.length : Int)) <|
 ask ((x5).length + ([nth x5 r3.toNat]).length ≤ LIM) <|
 ask (InI (x6 + (1 : Int))) <|
 some (.inl (x6 + (1 : Int), x5 ++ [nth x5 r3.toNat], u4))
 else
 ask ((x5).length + ([r3]).length ≤ LIM) <|
 ask (InI (x6 + (1 : Int))) <|
 some (.inl (x6 + (1 : Int), x5 ++ [r3], u4))
 else
 some (.inr (x5, x30))
def E6 (n0 : Int) : (Int × (List Int) × Sl1Cur) → St := fun s => [(6, A.val (Ae s.1)), (5, A.val ((slr true 1 Ae) s.2.1)), (0, A.ref 30 []), (30, A.val ((rP true (Am false)) s.2.2)), (1, A.val (Ae (n0)))]
def Ih (_n0 : Int) : ((List Int) × Sl1Cur) → Tgt
 | s => ((Ex.exit 0), [5, 30], [(5, A.val ((slr true 1 Ae) s.1)), (30, A.val ((rP true (Am false)) s.2))])
theorem Qa {n0 : Int} (s : (Int × (List Int) × Sl1Cur)) (o : (Int × (List Int) × Sl1Cur) ⊕ ((List Int) × Sl1Cur)) (h : Ct n0 s = some o) : vc Try.prog Io (C6 [6, 5, 0, 30, 1] (E6 n0) (Ih n0) o) (E6 n0 s) := by
 obtain ⟨x6, x5, x30⟩ := s
 unfold Ct at h
 try dsimp only at h
 refine Br.od h (fun p1 h => ?_) (fun p1 h => ?_)
 ·refine Ask.o h fun p2 h => CallQ.io Ae (rP true (Am false)) (by rfl) rfl (fun _ => rfl) (fun _ => ⟨rfl, rfl⟩) rfl h (fun r h => Bz h) (fun r3 u4 h => ?_)
  refine Br.od h (fun p5 h => ?_) (fun p5 h => ?_)
  ·refine Len.map <| Ask.o h fun p6 h => Cells.one (fun _ => ⟨rfl, rfl⟩) (by first | omega | (simp [A4] at * <;> omega)) <| BslQ.o Ae ([nth x5 r3.toNat]) (by exact fun _ => ⟨rfl, rfl⟩) (by first | rfl | (simp only [Aa, V.fz, fzL, V.up, upL, Ab, Ac, Ad, slr, List.cons_append, List.nil_append]; done) | simp [Aa, V.fz, fzL, V.up, upL, Ab, Ac, Ad, slr]) <| NoOwn.o (fun _ => rfl) <| AppQ.o (m := 1) Ae (by exact fun _ => ⟨rfl, rfl⟩) (x5) ([nth x5 r3.toNat]) (by rfl) (by rfl) h fun h => Ask.o h fun p7 h => ?_
   cases h; exact ⟨rfl, rfl⟩
  refine BslQ.o Ae [r3] (by exact fun _ => ⟨rfl, rfl⟩) (by first | rfl | (simp only [Aa, V.fz, fzL, V.up, upL, Ab, Ac, Ad, slr, List.cons_append, List.nil_append]; done) | simp [Aa, V.fz, fzL, V.up, upL, Ab, Ac, Ad, slr]) <| NoOwn.o (fun _ => rfl) <| AppQ.o (m := 1) Ae (by exact fun _ => ⟨rfl, rfl⟩) (x5) ([r3]) (by rfl) (by rfl) h fun h => Ask.o h fun p8 h => ?_
  cases h; exact ⟨rfl, rfl⟩
 cases h; exact ⟨rfl, rfl⟩
noncomputable def Ch (c0 : Sl1Cur) (n0 : Int) : Option ((List Int) × Sl1Cur) :=
 (Al (Ct n0) ((0 : Int), Ap Int, c0)).bind fun (q9_5, q9_30) =>
 some (q9_5, q9_30)
theorem Tc {c0 : Sl1Cur} {n0 : Int} {v : ((List Int) × Sl1Cur)} (h : Ch c0 n0 = some v) : Sr Try.prog Gj [(rP true (Am false)) c0, Ae n0] ((slr true 1 Ae) v.1) 0 ((rP true (Am false)) v.2) := by
 refine Yv S5 (Nat.le_of_ble_eq_true rfl) ?_
 unfold Ch at h
 refine BslQ.o Ae (Ap Int) (by exact fun _ => ⟨rfl, rfl⟩) (by first | rfl | (simp only [Aa, V.fz, fzL, V.up, upL, Ab, Ac, Ad, slr, List.cons_append, List.nil_append]; done) | simp [Aa, V.fz, fzL, V.up, upL, Ab, Ac, Ad, slr]) <| LoopQ.o [6, 5, 0, 30, 1] (E6 n0) (Ih n0) h (fun s o h => Qa s o h) (by rfl) (fun _ => rfl) ?_
 rintro ⟨q9_5, q9_30⟩ h
 try dsimp only at h
 cases h; exact ⟨(by rfl), (by rfl)⟩
noncomputable def Cv (_arity0 : Int) (_x4 : Int) (_x3 : List (List Int)) (r3 : List Int) : (Int × (List Int)) → Option ((Int × (List Int)) ⊕ (List Int)) := fun (x20, x5) =>
 if x20 < (↑r3.length : Int) then
 ask ((0 : Int) ≤ x20 ∧ x20 < (↑r3.length : Int)) <|
 if nth r3 x20.toNat > (0 : Int) then
 ask (InI (x20 + (1 : Int))) <|
 ask (InI ((2 : Int) * nth r3 x20.toNat)) <|
 ask (InI ((2 : Int) * nth r3 x20.toNat - (3 : Int))) <|
 ask (InI ((x20 + (1 : Int)) * ((2 : Int) * nth r3 x20.toNat - (3 : Int)))) <|
 ask ((x5).length + ([(x20 + (1 : Int)) * ((2 : Int) * nth r3 x20.toNat - (3 : Int))]).length ≤ LIM) <|
 ask (InI (x20 + (1 : Int))) <|
 some (.inl (x20 + (1 : Int), x5 ++ [(x20 + (1 : Int)) * ((2 : Int) * nth r3 x20.toNat - (3 : Int))]))
 else
 ask (InI (x20 + (1 : Int))) <|
 some (.inl (x20 + (1 : Int), x5))
 else
 some (.inr x5)
def I7 (arity0 : Int) (x4 : Int) (x3 : List (List Int)) (r3 : List Int) : (Int × (List Int)) → St := fun s => [(20, A.val (Ae s.1)), (19, A.val (Ae ((↑r3.length : Int)))), (18, A.val ((slr true 1 Ae) (r3))), (5, A.val ((slr true 1 Ae) s.2)), (4, A.val (Ae (x4))), (3, A.val ((slr true 1 (slr true 1 Ae)) (x3))), (0, A.val (Ae (arity0)))]
def Oh (arity0 : Int) (x4 : Int) (x3 : List (List Int)) (_r3 : List Int) : (List Int) → Tgt
 | s => ((Ex.exit 2), [5, 4, 3, 0], [(5, A.val ((slr true 1 Ae) s)), (4, A.val (Ae (x4))), (3, A.val ((slr true 1 (slr true 1 Ae)) (x3))), (0, A.val (Ae (arity0)))])
theorem Xx {arity0 : Int} {x4 : Int} {x3 : List (List Int)} {r3 : List Int} (s : (Int × (List Int))) (o : (Int × (List Int)) ⊕ (List Int)) (h : Cv arity0 x4 x3 r3 s = some o) : vc Try.prog Ot (C6 [20, 19, 18, 5, 4, 3, 0] (I7 arity0 x4 x3 r3) (Oh arity0 x4 x3 r3) o) (I7 arity0 x4 x3 r3 s) := by
 obtain ⟨x20, x5⟩ := s
 unfold Cv at h
 try dsimp only at h
 refine Br.od h (fun p4 h => ?_) (fun p4 h => ?_)
 ·refine Len.map <| Ask.o h fun p5 h => Cells.one (fun _ => ⟨rfl, rfl⟩) (by first | omega | (simp [A4] at * <;> omega)) <| Br.od h (fun p6 h => ?_) (fun p6 h => ?_)
  ·refine Ask.o h fun p7 h => Ask.o h fun p8 h => Ask.o h fun p9 h => Ask.o h fun p10 h => BslQ.o Ae ([(x20 + (1 : Int)) * ((2 : Int) * nth r3 x20.toNat - (3 : Int))]) (by exact fun _ => ⟨rfl, rfl⟩) (by first | rfl | (simp only [Aa, V.fz, fzL, V.up, upL, Ab, Ac, Ad, slr, List.cons_append, List.nil_append]; done) | simp [Aa, V.fz, fzL, V.up, upL, Ab, Ac, Ad, slr]) <| NoOwn.o (fun _ => rfl) <| AppQ.o (m := 1) Ae (by exact fun _ => ⟨rfl, rfl⟩) (x5) ([(x20 + (1 : Int)) * ((2 : Int) * nth r3 x20.toNat - (3 : Int))]) (by rfl) (by rfl) h fun h => Ask.o h fun p11 h => ?_
   cases h; exact ⟨rfl, rfl⟩
  refine Ask.o h fun p12 h => ?_
  cases h; exact ⟨rfl, rfl⟩
 cases h; exact ⟨rfl, rfl⟩
noncomputable def Cx (arity0 : Int) : (Int × (List (List Int))) → Option ((Int × (List (List Int))) ⊕ (List (List Int))) := fun (x4, x3) =>
 (Dh ((3 : Int)) (arity0)).bind fun r1 =>
 if x4 < r1 then
 (Hz (x4) (arity0) ((3 : Int))).bind fun r3 =>
 (Al (Cv arity0 x4 x3 r3) ((0 : Int), Ap Int)).bind fun q13_5 =>
 ask ((x3).length + ([q13_5]).length ≤ LIM) <|
 ask (InI (x4 + (1 : Int))) <|
 some (.inl (x4 + (1 : Int), x3 ++ [q13_5]))
 else
 some (.inr x3)
def Ja (arity0 : Int) : (Int × (List (List Int))) → St := fun s => [(4, A.val (Ae s.1)), (3, A.val ((slr true 1 (slr true 1 Ae)) s.2)), (0, A.val (Ae (arity0)))]
def N9 (_arity0 : Int) : (List (List Int)) → Tgt
 | s => ((Ex.exit 0), [3], [(3, A.val ((slr true 1 (slr true 1 Ae)) s))])
theorem X5 {arity0 : Int} (s : (Int × (List (List Int)))) (o : (Int × (List (List Int))) ⊕ (List (List Int))) (h : Cx arity0 s = some o) : vc Try.prog O3 (C6 [4, 3, 0] (Ja arity0) (N9 arity0) o) (Ja arity0 s) := by
 obtain ⟨x4, x3⟩ := s
 unfold Cx at h
 try dsimp only at h
 refine CallQ.o Ae (by rfl) h (fun r h => Lc h) (fun r1 h => ?_)
 refine Br.od h (fun p2 h => ?_) (fun p2 h => ?_)
 ·refine BslQ.o Ae (Ap Int) (by exact fun _ => ⟨rfl, rfl⟩) (by first | rfl | (simp only [Aa, V.fz, fzL, V.up, upL, Ab, Ac, Ad, slr, List.cons_append, List.nil_append]; done) | simp [Aa, V.fz, fzL, V.up, upL, Ab, Ac, Ad, slr]) <| CallQ.o (slr true 1 Ae) (by rfl) h (fun r h => Zs h) (fun r3 h => ?_)
  refine Len.map <| LoopQ.o [20, 19, 18, 5, 4, 3, 0] (I7 arity0 x4 x3 r3) (Oh arity0 x4 x3 r3) h (fun s o h => Xx s o h) (by rfl) (fun _ => rfl) ?_
  rintro q13_5 h
  try dsimp only at h
  refine BslQ.o (slr true 1 Ae) [q13_5] (by exact fun _ => ⟨rfl, rfl⟩) (by first | rfl | (simp only [Aa, V.fz, fzL, V.up, upL, Ab, Ac, Ad, slr, List.cons_append, List.nil_append]; done) | simp [Aa, V.fz, fzL, V.up, upL, Ab, Ac, Ad, slr]) <| NoOwn.own rfl <| AppQ.o (m := 1) (slr true 1 Ae) (by exact fun _ => ⟨rfl, rfl⟩) (x3) ([q13_5]) (by rfl) (by rfl) h fun h => Ask.o h fun p14 h => ?_
  cases h; exact ⟨rfl, rfl⟩
 cases h; exact ⟨rfl, rfl⟩
noncomputable def F7 (arity0 : Int) : Option (List (List Int)) :=
 (Al (Cx arity0) ((0 : Int), Ap (List Int))).bind fun q15_3 =>
 (F2 (q15_3) (fun w_0 w_1 => Dy w_0 w_1)).bind fun (_r16, u17) =>
 some u17
theorem Ack {arity0 : Int} {v : (List (List Int))} (h : F7 arity0 = some v) : Ret Try.prog Li [Ae arity0] ((slr true 1 (slr true 1 Ae)) v) := by
 refine A7 Acj (Nat.le_of_ble_eq_true rfl) ?_
 unfold F7 at h
 refine BslQ.o (slr true 1 Ae) (Ap (List Int)) (by exact fun _ => ⟨rfl, rfl⟩) (by first | rfl | (simp only [Aa, V.fz, fzL, V.up, upL, Ab, Ac, Ad, slr, List.cons_append, List.nil_append]; done) | simp [Aa, V.fz, fzL, V.up, upL, Ab, Ac, Ad, slr]) <| LoopQ.o [4, 3, 0] (Ja arity0) (N9 arity0) h (fun s o h => X5 s o h) (by rfl) (fun _ => rfl) ?_
 rintro q15_3 h
 try dsimp only at h
 refine CallQ.io (fun r => V.tup []) (slr true 1 (slr true 1 Ae)) (by rfl) rfl (fun _ => rfl) (fun _ => ⟨rfl, rfl⟩) rfl h (fun r h => Af7 (f_order0 := Gw) (c_order0 := []) (fun w_0 w_1 v h => Ret.cast (by rfl) (Zc h)) h) (fun r16 u17 h => ?_)
 cases h; exact (by rfl)
noncomputable def Lj (n0 : Int) (k0 : Int) (t0 : (List Int)) : Option Bool :=
 if (↑t0.length : Int) = k0 then
 (Ge (n0) (t0)).bind fun r2 =>
 some r2
 else
 some false
theorem Ais {n0 : Int} {k0 : Int} {t0 : (List Int)} {v : Bool} (h : Lj n0 k0 t0 = some v) : Ret Try.prog Q5 [Ae n0, Ae k0, (slr false 1 Ae) t0] (V.bool v) := by
 refine A7 Ail (Nat.le_of_ble_eq_true rfl) ?_
 unfold Lj at h
 refine Len.map <| Br.oe h (fun p1 h => ?_) (fun p1 h => ?_)
 ·refine Br.yes <| Br.yes <| CallQ.o V.bool (by rfl) h (fun r h => Ab2 h) (fun r2 h => ?_)
  refine Br.yes ?_
  cases h; exact (by rfl)
 refine Br.no <| Br.no <| Br.no ?_
 cases h; exact (by rfl)
noncomputable def Hg (n0 : Int) (r0 : SRelation) : Option Bool :=
 (Gq (n0)).bind fun r1 =>
 if (r1) = true then
 (Ds (n0) (r0)).bind fun r3 =>
 some r3
 else
 some false
theorem Aa7 {n0 : Int} {r0 : SRelation} {v : Bool} (h : Hg n0 r0 = some v) : Ret Try.prog Kr [Ae n0, (Ah false) r0] (V.bool v) := by
 refine A7 Z6 (Nat.le_of_ble_eq_true rfl) ?_
 unfold Hg at h
 refine CallQ.o V.bool (by rfl) h (fun r h => Z1 h) (fun r1 h => ?_)
 refine Br.ob h (fun p2 h => ?_) (fun p2 h => ?_)
 ·refine Br.yes <| Cells.lit rfl rfl <| Br.yes <| CallQ.o V.bool (by rfl) h (fun r h => L7 h) (fun r3 h => ?_)
  refine Br.yes ?_
  cases h; exact (by rfl)
 refine Br.no <| Br.no <| Br.no ?_
 cases h; exact (by rfl)
noncomputable def B7 (r5 : Int) : (Int × (List (List Int)) × Sl1Cur) → Option ((Int × (List (List Int)) × Sl1Cur) ⊕ ((List (List Int)) × Sl1Cur)) := fun (x7, x6, x4) =>
 if x7 > (0 : Int) then
 (Jb (r5) ((3 : Int))).bind fun r10 =>
 (Fj ((1 : Int)) (r10)).bind fun r11 =>
 (Em (r11)).bind fun r12 =>
 (Bb (x4) ((↑r12.length : Int))).bind fun (r13, u14) =>
 ask ((0 : Int) ≤ r13 ∧ r13 < (↑r12.length : Int)) <|
 (F8 (nth r12 r13.toNat)).bind fun r16 =>
 ask ((x6).length + ([r16]).length ≤ LIM) <|
 ask (InI (x7 - (1 : Int))) <|
 some (.inl (x7 - (1 : Int), x6 ++ [r16], u14))
 else
 some (.inr (x6, x4))
def D4 (r5 : Int) : (Int × (List (List Int)) × Sl1Cur) → St := fun s => [(7, A.val (Ae s.1)), (6, A.val ((slr true 1 (slr true 1 Ae)) s.2.1)), (5, A.val (Ae (r5))), (4, A.val ((rP true (Am false)) s.2.2))]
def Gu (r5 : Int) : ((List (List Int)) × Sl1Cur) → Tgt
 | s => ((Ex.exit 0), [6, 5, 4], [(6, A.val ((slr true 1 (slr true 1 Ae)) s.1)), (5, A.val (Ae (r5))), (4, A.val ((rP true (Am false)) s.2))])
theorem Mg {r5 : Int} (s : (Int × (List (List Int)) × Sl1Cur)) (o : (Int × (List (List Int)) × Sl1Cur) ⊕ ((List (List Int)) × Sl1Cur)) (h : B7 r5 s = some o) : vc Try.prog Gs (C6 [7, 6, 5, 4] (D4 r5) (Gu r5) o) (D4 r5 s) := by
 obtain ⟨x7, x6, x4⟩ := s
 unfold B7 at h
 try dsimp only at h
 refine Br.od h (fun p9 h => ?_) (fun p9 h => ?_)
 ·refine CallQ.o Ae (by rfl) h (fun r h => Aii h) (fun r10 h => ?_)
  refine CallQ.o Ae (by rfl) h (fun r h => Nz h) (fun r11 h => ?_)
  refine CallQ.o (slr true 1 (slr false 1 Ae)) (by rfl) h (fun r h => Ru h) (fun r12 h => ?_)
  refine Len.map <| CallQ.io Ae (rP true (Am false)) (by rfl) rfl (fun _ => rfl) (fun _ => ⟨rfl, rfl⟩) rfl h (fun r h => Bz h) (fun r13 u14 h => ?_)
  refine Len.map <| Ask.o h fun p15 h => Cells.one (fun _ => ⟨rfl, rfl⟩) (by first | omega | (simp [A4] at * <;> omega)) <| CallQ.o (slr true 1 Ae) (by rfl) h (fun r h => Qc h) (fun r16 h => ?_)
  refine BslQ.o (slr true 1 Ae) [r16] (by exact fun _ => ⟨rfl, rfl⟩) (by first | rfl | (simp only [Aa, V.fz, fzL, V.up, upL, Ab, Ac, Ad, slr, List.cons_append, List.nil_append]; done) | simp [Aa, V.fz, fzL, V.up, upL, Ab, Ac, Ad, slr]) <| NoOwn.own rfl <| AppQ.o (m := 1) (slr true 1 Ae) (by exact fun _ => ⟨rfl, rfl⟩) (x6) ([r16]) (by rfl) (by rfl) h fun h => Ask.o h fun p17 h => ?_
  cases h; exact ⟨rfl, rfl⟩
 cases h; exact ⟨rfl, rfl⟩
noncomputable def B8 (_r5 : Int) : ((List (List Int)) × Sl1Cur) → Option (((List (List Int)) × Sl1Cur) ⊕ (List (List Int))) := fun (x6, x4) =>
 (Bb (x4) ((2 : Int))).bind fun (r27, u28) =>
 ask (InI ((30 : Int) + r27)) <|
 if (↑x6.length : Int) < (30 : Int) + r27 then
 ask ((x6).length + ([[(1 : Int)]]).length ≤ LIM) <|
 some (.inl (x6 ++ [[(1 : Int)]], u28))
 else
 some (.inr x6)
def D5 (r5 : Int) : ((List (List Int)) × Sl1Cur) → St := fun s => [(6, A.val ((slr true 1 (slr true 1 Ae)) s.1)), (5, A.val (Ae (r5))), (4, A.val ((rP true (Am false)) s.2))]
def Gv (r5 : Int) : (List (List Int)) → Tgt
 | s => ((Ex.exit 3), [6, 5], [(6, A.val ((slr true 1 (slr true 1 Ae)) s)), (5, A.val (Ae (r5)))])
theorem Mf {r5 : Int} (s : ((List (List Int)) × Sl1Cur)) (o : ((List (List Int)) × Sl1Cur) ⊕ (List (List Int))) (h : B8 r5 s = some o) : vc Try.prog Gt (C6 [6, 5, 4] (D5 r5) (Gv r5) o) (D5 r5 s) := by
 obtain ⟨x6, x4⟩ := s
 unfold B8 at h
 try dsimp only at h
 refine Len.map <| CallQ.io Ae (rP true (Am false)) (by rfl) rfl (fun _ => rfl) (fun _ => ⟨rfl, rfl⟩) rfl h (fun r h => Bz h) (fun r27 u28 h => ?_)
 refine Ask.o h fun p29 h => Br.od h (fun p30 h => ?_) (fun p30 h => ?_)
 ·refine BslQ.o Ae ([(1 : Int)]) (by exact fun _ => ⟨rfl, rfl⟩) (by first | rfl | (simp only [Aa, V.fz, fzL, V.up, upL, Ab, Ac, Ad, slr, List.cons_append, List.nil_append]; done) | simp [Aa, V.fz, fzL, V.up, upL, Ab, Ac, Ad, slr]) <| BslQ.o (slr true 1 Ae) ([[(1 : Int)]]) (by exact fun _ => ⟨rfl, rfl⟩) (by first | rfl | (simp only [Aa, V.fz, fzL, V.up, upL, Ab, Ac, Ad, slr, List.cons_append, List.nil_append]; done) | simp [Aa, V.fz, fzL, V.up, upL, Ab, Ac, Ad, slr]) <| NoOwn.own rfl <| AppQ.o (m := 1) (slr true 1 Ae) (by exact fun _ => ⟨rfl, rfl⟩) (x6) ([[(1 : Int)]]) (by rfl) (by rfl) h fun h => ?_
  cases h; exact ⟨rfl, rfl⟩
 cases h; exact ⟨rfl, rfl⟩
noncomputable def Ce (code0 : (List Int)) : Option (Int × (List (List Int))) :=
 (Bb ({ code := code0, at_ := (0 : Int), seed := (0 : Int) }) ((24 : Int))).bind fun (r1, u2) =>
 ask ((11 : Int) ≠ (0 : Int) ∧ InI (r1.tdiv (11 : Int))) <|
 ask (InI ((5 : Int) + r1.tdiv (11 : Int))) <|
 ask (0 ≤ (0 : Int) ∧ (0 : Int) ≤ (5 : Int) + r1.tdiv (11 : Int) ∧ (5 : Int) + r1.tdiv (11 : Int) ≤ (([(1 : Int), (2 : Int), (2 : Int), (3 : Int), (3 : Int), (0 : Int), (4 : Int)].length : Nat) : Int)) <|
 (Bj (u2) (List.take (((5 : Int) + r1.tdiv (11 : Int)).toNat - Int.toNat (0 : Int)) (List.drop (Int.toNat (0 : Int)) [(1 : Int), (2 : Int), (2 : Int), (3 : Int), (3 : Int), (0 : Int), (4 : Int)]))).bind fun (r5, u6) =>
 (Bb (u6) ((5 : Int))).bind fun (r7, u8) =>
 (Al (B7 r5) (r7, Ap (List Int), u8)).bind fun (q18_6, q18_4) =>
 (Bb (q18_4) ((32 : Int))).bind fun (r19, u20) =>
 if r19 = (0 : Int) then
 ask (InI (r5 + (1 : Int))) <|
 (Bj (u20) ([(0 : Int), r5 + (1 : Int), (-9223372036854775808 : Int)])).bind fun (r23, _u24) =>
 ask ((q18_6).length + ([[r23]]).length ≤ LIM) <|
 some (r5, q18_6 ++ [[r23]])
 else
 if r19 = (1 : Int) then
 ask ((q18_6).length + ([[(1 : Int), (-1 : Int)]]).length ≤ LIM) <|
 some (r5, q18_6 ++ [[(1 : Int), (-1 : Int)]])
 else
 if r19 = (2 : Int) then
 (Al (B8 r5) (q18_6, u20)).bind fun q31_6 =>
 some (r5, q31_6)
 else
 some (r5, q18_6)
theorem Pi {code0 : (List Int)} {v : (Int × (List (List Int)))} (h : Ce code0 = some v) : Ret Try.prog Es [(slr false 1 (V.int IntKind.u8)) code0] ((fun r => V.tup [Ae r.1, (slr true 1 (slr true 1 Ae)) r.2]) v) := by
 refine A7 Ps (Nat.le_of_ble_eq_true rfl) ?_
 unfold Ce at h
 refine BslQ.o Ae ([(1 : Int), (2 : Int), (2 : Int), (3 : Int), (3 : Int), (0 : Int), (4 : Int)]) (by exact fun _ => ⟨rfl, rfl⟩) (by first | rfl | (simp only [Aa, V.fz, fzL, V.up, upL, Ab, Ac, Ad, slr, List.cons_append, List.nil_append]; done) | simp [Aa, V.fz, fzL, V.up, upL, Ab, Ac, Ad, slr]) <| CallQ.io Ae (rP true (Am false)) (by rfl) rfl (fun _ => rfl) (fun _ => ⟨rfl, rfl⟩) rfl h (fun r h => Bz h) (fun r1 u2 h => ?_)
 refine Ask.o h fun p3 h => Ask.o h fun p4 h => SlcQ.lst (xs := [(1 : Int), (2 : Int), (2 : Int), (3 : Int), (3 : Int), (0 : Int), (4 : Int)]) Ae (by rfl) h fun h => CallQ.io Ae (rP true (Am false)) (by rfl) rfl (fun _ => rfl) (fun _ => ⟨rfl, rfl⟩) rfl h (fun r h => C1 h) (fun r5 u6 h => ?_)
 refine BslQ.o (slr true 1 Ae) (Ap (List Int)) (by exact fun _ => ⟨rfl, rfl⟩) (by first | rfl | (simp only [Aa, V.fz, fzL, V.up, upL, Ab, Ac, Ad, slr, List.cons_append, List.nil_append]; done) | simp [Aa, V.fz, fzL, V.up, upL, Ab, Ac, Ad, slr]) <| CallQ.io Ae (rP true (Am false)) (by rfl) rfl (fun _ => rfl) (fun _ => ⟨rfl, rfl⟩) rfl h (fun r h => Bz h) (fun r7 u8 h => ?_)
 refine LoopQ.o [7, 6, 5, 4] (D4 r5) (Gu r5) h (fun s o h => Mg s o h) (by rfl) (fun _ => rfl) ?_
 rintro ⟨q18_6, q18_4⟩ h
 try dsimp only at h
 refine CallQ.io Ae (rP true (Am false)) (by rfl) rfl (fun _ => rfl) (fun _ => ⟨rfl, rfl⟩) rfl h (fun r h => Bz h) (fun r19 u20 h => ?_)
 refine Br.oe h (fun p21 h => ?_) (fun p21 h => ?_)
 ·refine Ask.o h fun p22 h => BslQ.o Ae ([(0 : Int), r5 + (1 : Int), (-9223372036854775808 : Int)]) (by exact fun _ => ⟨rfl, rfl⟩) (by first | rfl | (simp only [Aa, V.fz, fzL, V.up, upL, Ab, Ac, Ad, slr, List.cons_append, List.nil_append]; done) | simp [Aa, V.fz, fzL, V.up, upL, Ab, Ac, Ad, slr]) <| CallQ.io Ae (rP true (Am false)) (by first | rfl | (simp only [Aa, As, V.fz, fzL, Ab, Ac, slr]; done) | simp [Aa, As, V.fz, fzL, V.up, upL, Ab, Ac, Ad, slr]) rfl (fun _ => rfl) (fun _ => ⟨rfl, rfl⟩) rfl h (fun r h => C1 h) (fun r23 u24 h => ?_)
  refine BslQ.o Ae [r23] (by exact fun _ => ⟨rfl, rfl⟩) (by first | rfl | (simp only [Aa, V.fz, fzL, V.up, upL, Ab, Ac, Ad, slr, List.cons_append, List.nil_append]; done) | simp [Aa, V.fz, fzL, V.up, upL, Ab, Ac, Ad, slr]) <| BslQ.o (slr true 1 Ae) [[r23]] (by exact fun _ => ⟨rfl, rfl⟩) (by first | rfl | (simp only [Aa, V.fz, fzL, V.up, upL, Ab, Ac, Ad, slr, List.cons_append, List.nil_append]; done) | simp [Aa, V.fz, fzL, V.up, upL, Ab, Ac, Ad, slr]) <| NoOwn.own rfl <| AppQ.o (m := 1) (slr true 1 Ae) (by exact fun _ => ⟨rfl, rfl⟩) (q18_6) ([[r23]]) (by rfl) (by rfl) h fun h => ?_
  cases h; exact (by rfl)
 refine Br.oe h (fun p25 h => ?_) (fun p25 h => ?_)
 ·refine BslQ.o Ae ([(1 : Int), (-1 : Int)]) (by exact fun _ => ⟨rfl, rfl⟩) (by first | rfl | (simp only [Aa, V.fz, fzL, V.up, upL, Ab, Ac, Ad, slr, List.cons_append, List.nil_append]; done) | simp [Aa, V.fz, fzL, V.up, upL, Ab, Ac, Ad, slr]) <| BslQ.o (slr true 1 Ae) ([[(1 : Int), (-1 : Int)]]) (by exact fun _ => ⟨rfl, rfl⟩) (by first | rfl | (simp only [Aa, V.fz, fzL, V.up, upL, Ab, Ac, Ad, slr, List.cons_append, List.nil_append]; done) | simp [Aa, V.fz, fzL, V.up, upL, Ab, Ac, Ad, slr]) <| NoOwn.own rfl <| AppQ.o (m := 1) (slr true 1 Ae) (by exact fun _ => ⟨rfl, rfl⟩) (q18_6) ([[(1 : Int), (-1 : Int)]]) (by rfl) (by rfl) h fun h => ?_
  cases h; exact (by rfl)
 refine Br.oe h (fun p26 h => ?_) (fun p26 h => ?_)
 ·refine LoopQ.o [6, 5, 4] (D5 r5) (Gv r5) h (fun s o h => Mf s o h) (by rfl) (fun _ => rfl) ?_
  rintro q31_6 h
  try dsimp only at h
  cases h; exact (by rfl)
 cases h; exact (by rfl)
end Go.Proofs.Ytjcekpmojnnmbaa.Ax
