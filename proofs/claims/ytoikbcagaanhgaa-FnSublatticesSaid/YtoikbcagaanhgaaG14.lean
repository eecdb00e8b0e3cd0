/-
 What the functions compute, as functions on plain data, and that the program does compute it; written by program.
-/
import Derived.Test.YtoikbcagaanhgaaCode
import Derived.Test.YtoikbcagaanhgaaG2
import Derived.Test.YtoikbcagaanhgaaG4
import Derived.Test.YtoikbcagaanhgaaG5
import Derived.Test.YtoikbcagaanhgaaG6
import Derived.Test.YtoikbcagaanhgaaG7
import Derived.Test.YtoikbcagaanhgaaG8
import Derived.Test.YtoikbcagaanhgaaG10
import Derived.Test.YtoikbcagaanhgaaG11
import Derived.Test.YtoikbcagaanhgaaG12
import Derived.Test.YtoikbcagaanhgaaG13
namespace Go.Proofs.Ytoikbcagaanhgaa.Ax
open Go
set_option maxRecDepth 100000
set_option maxHeartbeats 4000000
noncomputable def De (p0 : SPoset) : (Int × (List Int) × Sl1Cur) → Option ((Int × (List Int) × Sl1Cur) ⊕ ((List Int) × Sl1Cur)) := fun (x6, x5, x27) =>
 if x6 > (0 : Int) then
 (Fj (x27) (p0)).bind fun (r8, u9) =>
 ask ((x5).length + ([r8]).length ≤ LIM) <|
 ask (InI (x6 - (1 : Int))) <|
 some (.inl (x6 - (1 : Int), x5 ++ [r8], u9))
 else
 some (.inr (x5, x27))
def H4 (p0 : SPoset) : (Int × (List Int) × Sl1Cur) → St := fun s => [(6, A.val (Ab s.1)), (5, A.val ((slr true 1 Ab) s.2.1)), (3, A.val ((rP true (Ac false)) (p0))), (0, A.ref 27 []), (27, A.val ((rP true (Ak false)) s.2.2))]
def Mb (_p0 : SPoset) : ((List Int) × Sl1Cur) → Tgt
 | s => ((Ex.exit 0), [5, 27], [(5, A.val ((slr true 1 Ab) s.1)), (27, A.val ((rP true (Ak false)) s.2))])
theorem Xg {p0 : SPoset} (s : (Int × (List Int) × Sl1Cur)) (o : (Int × (List Int) × Sl1Cur) ⊕ ((List Int) × Sl1Cur)) (h : De p0 s = some o) : vc Try.prog L3 (Bp [6, 5, 3, 0, 27] (H4 p0) (Mb p0) o) (H4 p0 s) := by
 obtain ⟨x6, x5, x27⟩ := s
 unfold De at h
 try dsimp only at h
 refine Br.od h (fun p7 h => ?_) (fun p7 h => ?_)
 ·refine Cells.lit rfl rfl ?_
  refine CallQ.io Ab (rP true (Ak false)) (by rfl) rfl (fun _ => rfl) (fun _ => ⟨rfl, rfl⟩) rfl h (fun r h => Ac5 h) (fun r8 u9 h => ?_)
  refine BslQ.o Ab [r8] (by exact fun _ => ⟨rfl, rfl⟩) (by rfl) ?_
  refine NoOwn.o (fun _ => rfl) ?_
  refine AppQ.o (m := 1) Ab (by exact fun _ => ⟨rfl, rfl⟩) (x5) ([r8]) (by rfl) (by rfl) h fun h => ?_
  refine Ask.o h fun p10 h => ?_
  cases h; exact ⟨rfl, rfl⟩
 cases h; exact ⟨rfl, rfl⟩
noncomputable def Db (c0 : Sl1Cur) (p0 : SPoset) : Option ((List Int) × Sl1Cur) :=
 (A5 (c0) ((24 : Int))).bind fun (r1, u2) =>
 ask ((11 : Int) ≠ (0 : Int) ∧ InI (r1.tdiv (11 : Int))) <|
 ask (InI ((6 : Int) + r1.tdiv (11 : Int))) <|
 ask (0 ≤ (0 : Int) ∧ (0 : Int) ≤ (6 : Int) + r1.tdiv (11 : Int) ∧ (6 : Int) + r1.tdiv (11 : Int) ≤ (([(0 : Int), (1 : Int), (2 : Int), (2 : Int), (3 : Int), (3 : Int), (20 : Int), (21 : Int)].length : Nat) : Int)) <|
 (Cc (u2) (List.take (((6 : Int) + r1.tdiv (11 : Int)).toNat - Int.toNat (0 : Int)) (List.drop (Int.toNat (0 : Int)) [(0 : Int), (1 : Int), (2 : Int), (2 : Int), (3 : Int), (3 : Int), (20 : Int), (21 : Int)]))).bind fun (r5, u6) =>
 (Ai (De p0) (r5, Ao Int, u6)).bind fun (q11_5, q11_27) =>
 some (q11_5, q11_27)
theorem Pn {c0 : Sl1Cur} {p0 : SPoset} {v : ((List Int) × Sl1Cur)} (h : Db c0 p0 = some v) : Abw Try.prog G5 [(rP true (Ak false)) c0, (Ac false) p0] ((slr true 1 Ab) v.1) 0 ((rP true (Ak false)) v.2) := by
 refine Vm Aa4 (Nat.le_of_ble_eq_true rfl) ?_
 unfold Db at h
 refine BslQ.o Ab (Ao Int) (by exact fun _ => ⟨rfl, rfl⟩) (by rfl) ?_
 refine BslQ.o Ab ([(0 : Int), (1 : Int), (2 : Int), (2 : Int), (3 : Int), (3 : Int), (20 : Int), (21 : Int)]) (by exact fun _ => ⟨rfl, rfl⟩) (by rfl) ?_
 refine CallQ.io Ab (rP true (Ak false)) (by rfl) rfl (fun _ => rfl) (fun _ => ⟨rfl, rfl⟩) rfl h (fun r h => Bo h) (fun r1 u2 h => ?_)
 refine Ask.o h fun p3 h => ?_
 refine Ask.o h fun p4 h => ?_
 refine SlcQ.lst (xs := [(0 : Int), (1 : Int), (2 : Int), (2 : Int), (3 : Int), (3 : Int), (20 : Int), (21 : Int)]) Ab (by rfl) h fun h => ?_
 refine CallQ.io Ab (rP true (Ak false)) (by rfl) rfl (fun _ => rfl) (fun _ => ⟨rfl, rfl⟩) rfl h (fun r h => Gr h) (fun r5 u6 h => ?_)
 refine LoopQ.o [6, 5, 3, 0, 27] (H4 p0) (Mb p0) h (fun s o h => Xg s o h) (by first | rfl | simp [restrict, look, Ad, V.fz, fzL, V.up, upL, Ae, Af, Ah, slr]) (fun _ => rfl) ?_
 rintro ⟨q11_5, q11_27⟩ h
 try dsimp only at h
 cases h; exact ⟨(by rfl), (by rfl)⟩
noncomputable def F7 (p0 : SPoset) (some0 : (List Int)) : Option (Bool × Bool) :=
 (Fh (p0)).bind fun r1 =>
 if (r1) = true then
 (Jm (p0) (some0)).bind fun r3 =>
 some (r3, true)
 else
 some (false, false)
theorem Aei {p0 : SPoset} {some0 : (List Int)} {v : (Bool × Bool)} (h : F7 p0 some0 = some v) : Ret Try.prog Lu [(Ac false) p0, (slr false 1 Ab) some0] ((fun r => V.tup [V.bool r.1, V.bool r.2]) v) := by
 refine Av Aen (Nat.le_of_ble_eq_true rfl) ?_
 unfold F7 at h
 refine Cells.lit rfl rfl ?_
 refine CallQ.o V.bool (by rfl) h (fun r h => Of h) (fun r1 h => ?_)
 refine Br.flip ?_
 refine Br.ob h (fun p2 h => ?_) (fun p2 h => ?_)
 ·refine Cells.lit rfl rfl ?_
  refine CallQ.o V.bool (by rfl) h (fun r h => Aev h) (fun r3 h => ?_)
  cases h; exact (by rfl)
 cases h; exact (by rfl)
noncomputable def Bx (p0 : SPoset) (sub0 : List Int) (x7 : Int) (_x6 : SPoset) : (Int × (List Int)) → Option ((Int × (List Int)) ⊕ (List Int)) := fun (x9, x8) =>
 if x9 < (↑sub0.length : Int) then
 ask ((0 : Int) ≤ x9 ∧ x9 < (↑sub0.length : Int)) <|
 ask ((0 : Int) ≤ x7 ∧ x7 < (↑sub0.length : Int)) <|
 (Gk (p0) (nth sub0 x9.toNat) (nth sub0 x7.toNat)).bind fun r10 =>
 if (r10) = true then
 ask ((x8).length + ([x9]).length ≤ LIM) <|
 ask (InI (x9 + (1 : Int))) <|
 some (.inl (x9 + (1 : Int), x8 ++ [x9]))
 else
 ask (InI (x9 + (1 : Int))) <|
 some (.inl (x9 + (1 : Int), x8))
 else
 some (.inr x8)
def G9 (p0 : SPoset) (sub0 : List Int) (x7 : Int) (x6 : SPoset) : (Int × (List Int)) → St := fun s => [(9, A.val (Ab s.1)), (8, A.val ((slr true 1 Ab) s.2)), (7, A.val (Ab (x7))), (6, A.val ((rP true (Ac true)) (x6))), (4, A.val ((rP true (Ac true)) ({ Below := Ao (List Int) }))), (2, A.val ((rP true (Ac false)) (p0))), (1, A.val ((slr false 1 Ab) (sub0)))]
def Lt (p0 : SPoset) (sub0 : List Int) (x7 : Int) (x6 : SPoset) : (List Int) → Tgt
 | s => ((Ex.exit 2), [8, 7, 6, 4, 2, 1], [(8, A.val ((slr true 1 Ab) s)), (7, A.val (Ab (x7))), (6, A.val ((rP true (Ac true)) (x6))), (4, A.val ((rP true (Ac true)) ({ Below := Ao (List Int) }))), (2, A.val ((rP true (Ac false)) (p0))), (1, A.val ((slr false 1 Ab) (sub0)))])
theorem Uw {p0 : SPoset} {sub0 : List Int} {x7 : Int} {x6 : SPoset} (s : (Int × (List Int))) (o : (Int × (List Int)) ⊕ (List Int)) (h : Bx p0 sub0 x7 x6 s = some o) : vc Try.prog Lm (Bp [9, 8, 7, 6, 4, 2, 1] (G9 p0 sub0 x7 x6) (Lt p0 sub0 x7 x6) o) (G9 p0 sub0 x7 x6 s) := by
 obtain ⟨x9, x8⟩ := s
 unfold Bx at h
 try dsimp only at h
 refine Len.map ?_
 refine Br.od h (fun p7 h => ?_) (fun p7 h => ?_)
 ·refine Cells.lit rfl rfl ?_
  refine Len.map ?_
  refine Ask.o h fun p8 h => ?_
  refine Elem.o (by first | omega | (simp [Am] at *; omega)) ?_
  refine Len.map ?_
  refine Ask.o h fun p9 h => ?_
  refine Elem.o (by first | omega | (simp [Am] at *; omega)) ?_
  refine CallQ.o V.bool (by rfl) h (fun r h => Qo h) (fun r10 h => ?_)
  refine Br.ob h (fun p11 h => ?_) (fun p11 h => ?_)
  ·refine BslQ.o Ab [x9] (by exact fun _ => ⟨rfl, rfl⟩) (by rfl) ?_
   refine NoOwn.o (fun _ => rfl) ?_
   refine AppQ.o (m := 1) Ab (by exact fun _ => ⟨rfl, rfl⟩) (x8) ([x9]) (by rfl) (by rfl) h fun h => ?_
   refine Ask.o h fun p12 h => ?_
   cases h; exact ⟨rfl, rfl⟩
  refine Ask.o h fun p13 h => ?_
  cases h; exact ⟨rfl, rfl⟩
 cases h; exact ⟨rfl, rfl⟩
noncomputable def Bw (p0 : SPoset) (sub0 : List Int) : (Int × SPoset) → Option ((Int × SPoset) ⊕ SPoset) := fun (x7, x6) =>
 if x7 < (↑sub0.length : Int) then
 (Ai (Bx p0 sub0 x7 x6) ((0 : Int), Ao Int)).bind fun q14_8 =>
 ask ((x6.Below).length + ([q14_8]).length ≤ LIM) <|
 ask (InI (x7 + (1 : Int))) <|
 some (.inl (x7 + (1 : Int), { Below := x6.Below ++ [q14_8] }))
 else
 some (.inr x6)
def Hg (p0 : SPoset) (sub0 : List Int) : (Int × SPoset) → St := fun s => [(7, A.val (Ab s.1)), (6, A.val ((rP true (Ac true)) s.2)), (4, A.val ((rP true (Ac true)) ({ Below := Ao (List Int) }))), (2, A.val ((rP true (Ac false)) (p0))), (1, A.val ((slr false 1 Ab) (sub0)))]
def Lp (_p0 : SPoset) (_sub0 : List Int) : SPoset → Tgt
 | s => ((Ex.exit 0), [6, 4], [(6, A.val ((rP true (Ac true)) s)), (4, A.val ((rP true (Ac true)) ({ Below := Ao (List Int) })))])
theorem U6 {p0 : SPoset} {sub0 : List Int} (s : (Int × SPoset)) (o : (Int × SPoset) ⊕ SPoset) (h : Bw p0 sub0 s = some o) : vc Try.prog Lq (Bp [7, 6, 4, 2, 1] (Hg p0 sub0) (Lp p0 sub0) o) (Hg p0 sub0 s) := by
 obtain ⟨x7, x6⟩ := s
 unfold Bw at h
 try dsimp only at h
 refine Len.map ?_
 refine Br.od h (fun p6 h => ?_) (fun p6 h => ?_)
 ·refine BslQ.o Ab (Ao Int) (by exact fun _ => ⟨rfl, rfl⟩) (by rfl) ?_
  refine LoopQ.o [9, 8, 7, 6, 4, 2, 1] (G9 p0 sub0 x7 x6) (Lt p0 sub0 x7 x6) h (fun s o h => Uw s o h) (by first | rfl | simp [restrict, look, Ad, V.fz, fzL, V.up, upL, Ae, Af, Ah, slr]) (fun _ => rfl) ?_
  rintro q14_8 h
  try dsimp only at h
  refine Cells.lit rfl rfl ?_
  refine BslQ.o (slr true 1 Ab) [q14_8] (by exact fun _ => ⟨rfl, rfl⟩) (by rfl) ?_
  refine NoOwn.own rfl ?_
  iterate 2 refine Kid.lit rfl rfl ?_
  refine SetKids.lit rfl ?_
  refine AppQ.o (m := 1) (slr true 1 Ab) (by exact fun _ => ⟨rfl, rfl⟩) (x6.Below) ([q14_8]) (by rfl) (by rfl) h fun h => ?_
  refine SetKids.lit rfl ?_
  refine Ask.o h fun p15 h => ?_
  cases h; exact ⟨rfl, rfl⟩
 cases h; exact ⟨rfl, rfl⟩
noncomputable def El (p0 : SPoset) (sub0 : (List Int)) : Option (SPoset × Bool) :=
 (((Fh (p0)).bind fun r1 =>
 if (r1) = true then
 (Jm (p0) (sub0)).bind fun r3 =>
 if (r3) = true then
 some (.inl ())
 else
 some (.inr ())
 else
 some (.inr ()) : Option (Unit ⊕ Unit))).bind fun t => match t with
 | (.inl _) => ((Ai (Bw p0 sub0) ((0 : Int), { Below := Ao (List Int) })).bind fun q16_6 =>
 some (q16_6, true))
 | (.inr _) => (some ({ Below := Ao (List Int) }, false))
theorem Zg {p0 : SPoset} {sub0 : (List Int)} {v : (SPoset × Bool)} (h : El p0 sub0 = some v) : Ret Try.prog I2 [(Ac false) p0, (slr false 1 Ab) sub0] ((fun r => V.tup [(Ac true) r.1, V.bool r.2]) v) := by
 refine Av Zh (Nat.le_of_ble_eq_true rfl) ?_
 unfold El at h
 refine CutQ.o (fun t : (Unit ⊕ Unit) => match t with | (.inl s) => (Ex.normal, [4, 2, 1], [(4, A.val ((rP true (Ac true)) ({ Below := Ao (List Int) }))), (2, A.val ((rP true (Ac false)) (p0))), (1, A.val ((slr false 1 Ab) (sub0)))]) | (.inr s) => (Ex.ret, [5, 4], [(5, A.val (V.bool (false))), (4, A.val ((rP true (Ac true)) ({ Below := Ao (List Int) })))])) h ?_ ?_
 ·intro t h
  refine Cells.lit rfl rfl ?_
  refine CallQ.o V.bool (by rfl) h (fun r h => Of h) (fun r1 h => ?_)
  refine Br.flip ?_
  refine Br.ob h (fun p2 h => ?_) (fun p2 h => ?_)
  ·refine Cells.lit rfl rfl ?_
   iterate 2 refine Br.no ?_
   refine CallQ.o V.bool (by rfl) h (fun r h => Aev h) (fun r3 h => ?_)
   iterate 2 refine Br.no ?_
   refine Br.flip ?_
   refine Br.ob h (fun p4 h => ?_) (fun p4 h => ?_)
   ·cases h; exact ⟨rfl, rfl⟩
   refine SetKids.lit rfl ?_
   cases h; exact ⟨rfl, rfl⟩
  iterate 5 refine Br.yes ?_
  refine SetKids.lit rfl ?_
  cases h; exact ⟨rfl, rfl⟩
 rintro (⟨⟩ | ⟨⟩) h
 ·try dsimp only at h
  refine BslQ.o (slr true 1 Ab) (Ao (List Int)) (by exact fun _ => ⟨rfl, rfl⟩) (by rfl) ?_
  refine SetKids.lit rfl ?_
  refine LoopQ.o [7, 6, 4, 2, 1] (Hg p0 sub0) (Lp p0 sub0) h (fun s o h => U6 s o h) (by first | rfl | simp [restrict, look, Ad, V.fz, fzL, V.up, upL, Ae, Af, Ah, slr]) (fun _ => rfl) ?_
  rintro q16_6 h
  try dsimp only at h
  refine Cells.lit rfl rfl ?_
  refine SetKids.lit rfl ?_
  cases h; exact (by rfl)
 try dsimp only at h
 cases h; exact (by rfl)
noncomputable def Ca (p0 : SPoset) (some0 : (List Int)) : Option ((List Int) × Bool) :=
 (Iw (p0) (some0)).bind fun r1 =>
 if (r1) = true then
 if (↑some0.length : Int) = (0 : Int) then
 some (Ao Int, false)
 else
 (Fw (p0) (some0)).bind fun r4 =>
 some (r4, true)
 else
 some (Ao Int, false)
theorem U5 {p0 : SPoset} {some0 : (List Int)} {v : ((List Int) × Bool)} (h : Ca p0 some0 = some v) : Ret Try.prog Hh [(Ac false) p0, (slr false 1 Ab) some0] ((fun r => V.tup [(slr false 1 Ab) r.1, V.bool r.2]) v) := by
 refine Yn U7 (Nat.le_of_ble_eq_true rfl) ?_
 unfold Ca at h
 refine Cells.lit rfl rfl ?_
 refine CallQ.o V.bool (by rfl) h (fun r h => Adq h) (fun r1 h => ?_)
 refine Br.flip ?_
 refine Br.ob h (fun p2 h => ?_) (fun p2 h => ?_)
 ·refine Br.no ?_
  refine Len.map ?_
  iterate 2 refine Br.no ?_
  refine Br.oe h (fun p3 h => ?_) (fun p3 h => ?_)
  ·refine BslQ.o Ab (Ao Int) (by exact fun _ => ⟨rfl, rfl⟩) (by rfl) ?_
   cases h; exact (by rfl)
  refine Cells.lit rfl rfl ?_
  refine CallQ.o (slr false 1 Ab) (by rfl) h (fun r h => R9 h) (fun r4 h => ?_)
  cases h; exact (by rfl)
 iterate 4 refine Br.yes ?_
 refine BslQ.o Ab (Ao Int) (by exact fun _ => ⟨rfl, rfl⟩) (by rfl) ?_
 cases h; exact (by rfl)
noncomputable def Du (_r8 : SPoset) (r9 : List Int) (_q15_60 : Sl1Cur) : (Int × (List (Int × Int))) → Option ((Int × (List (Int × Int))) ⊕ (List (Int × Int))) := fun (x7, x6) =>
 if x7 < (↑x6.length : Int) then
 ask ((0 : Int) ≤ x7 ∧ x7 < (↑x6.length : Int)) <|
 ask ((0 : Int) ≤ (nth x6 x7.toNat).fst ∧ (nth x6 x7.toNat).fst < (↑r9.length : Int)) <|
 ask ((0 : Int) ≤ x7 ∧ x7 < (↑x6.length : Int)) <|
 ask ((0 : Int) ≤ (nth x6 x7.toNat).snd ∧ (nth x6 x7.toNat).snd < (↑r9.length : Int)) <|
 ask ((0 : Int) ≤ x7 ∧ x7 < (↑x6.length : Int)) <|
 ask (InI (x7 + (1 : Int))) <|
 some (.inl (x7 + (1 : Int), x6.set x7.toNat (nth r9 (nth x6 x7.toNat).fst.toNat, nth r9 (nth x6 x7.toNat).snd.toNat)))
 else
 some (.inr x6)
def It (r8 : SPoset) (r9 : List Int) (q15_60 : Sl1Cur) : (Int × (List (Int × Int))) → St := fun s => [(7, A.val (Ab s.1)), (6, A.val ((slr true 2 (rA2 Ab)) s.2)), (5, A.val ((slr true 1 Ab) (r9))), (4, A.val (Ab ((↑r8.Below.length : Int)))), (3, A.val ((rP true (Ac true)) (r8))), (2, A.val ((rP true (Ac true)) ({ Below := Ao (List Int) }))), (60, A.val ((rP true (Ak false)) (q15_60)))]
def Ni (r8 : SPoset) (_r9 : List Int) (q15_60 : Sl1Cur) : (List (Int × Int)) → Tgt
 | s => ((Ex.exit 0), [6, 4, 3, 2, 60], [(6, A.val ((slr true 2 (rA2 Ab)) s)), (4, A.val (Ab ((↑r8.Below.length : Int)))), (3, A.val ((rP true (Ac true)) (r8))), (2, A.val ((rP true (Ac true)) ({ Below := Ao (List Int) }))), (60, A.val ((rP true (Ak false)) (q15_60)))])
theorem Yb {r8 : SPoset} {r9 : List Int} {q15_60 : Sl1Cur} (s : (Int × (List (Int × Int)))) (o : (Int × (List (Int × Int))) ⊕ (List (Int × Int))) (h : Du r8 r9 q15_60 s = some o) : vc Try.prog M9 (Bp [7, 6, 5, 4, 3, 2, 60] (It r8 r9 q15_60) (Ni r8 r9 q15_60) o) (It r8 r9 q15_60 s) := by
 obtain ⟨x7, x6⟩ := s
 unfold Du at h
 try dsimp only at h
 refine Len.map ?_
 refine Br.od h (fun p18 h => ?_) (fun p18 h => ?_)
 ·refine Len.map ?_
  refine Ask.o h fun p19 h => ?_
  refine Ask.mk (by decide) ?_
  refine Idx.lit ?_
  refine Cells.wide (by exact fun _ => ⟨rfl, rfl⟩) (by first | omega | (simp [Am] at *; omega)) (by decide) ?_
  refine Len.map ?_
  refine Ask.o h fun p20 h => ?_
  refine Cells.one (fun _ => ⟨rfl, rfl⟩) (by first | omega | (simp [Am] at *; omega)) ?_
  refine Len.map ?_
  refine Ask.o h fun p21 h => ?_
  refine Ask.mk (by decide) ?_
  refine Idx.lit ?_
  refine Cells.wide (by exact fun _ => ⟨rfl, rfl⟩) (by first | omega | (simp [Am] at *; omega)) (by decide) ?_
  refine Len.map ?_
  refine Ask.o h fun p22 h => ?_
  refine Cells.one (fun _ => ⟨rfl, rfl⟩) (by first | omega | (simp [Am] at *; omega)) ?_
  refine Len.map ?_
  refine Ask.o h fun p23 h => ?_
  refine SetKids.wide0 (by exact fun _ => ⟨rfl, rfl⟩) ((nth r9 (nth x6 x7.toNat).fst.toNat, nth r9 (nth x6 x7.toNat).snd.toNat)) (by first | omega | (simp [Am] at *; omega)) (by rfl) (by decide) ?_
  refine Ask.o h fun p24 h => ?_
  cases h; exact ⟨rfl, rfl⟩
 cases h; exact ⟨rfl, rfl⟩
noncomputable def D1 (c0 : Sl1Cur) : Option (SPoset × Sl1Cur) :=
 (Bn (c0) ((10 : Int))).bind fun (r1, u2) =>
 if (r1) = true then
 (Gx (u2)).bind fun (r4, u5) =>
 some (r4, u5)
 else
 (A5 (u2) ((12 : Int))).bind fun (r6, u7) =>
 (Jh (r6)).bind fun r8 =>
 (C6 (u7) ((↑r8.Below.length : Int))).bind fun (r9, u10) =>
 (((H8 (r9) ((↑r8.Below.length : Int))).bind fun r11 =>
 if (r11) = true then
 (Bn (u10) ((2 : Int))).bind fun (r13, u14) =>
 some (r13, u14)
 else
 some (false, u10) : Option (Bool × Sl1Cur))).bind fun (q15_27, q15_60) =>
 if (q15_27) = true then
 (Je (r8)).bind fun r17 =>
 (Ai (Du r8 r9 q15_60) ((0 : Int), r17)).bind fun q25_6 =>
 (A3 ((↑r8.Below.length : Int)) (q25_6)).bind fun r26 =>
 some (r26, q15_60)
 else
 some (r8, q15_60)
theorem Q9 {c0 : Sl1Cur} {v : (SPoset × Sl1Cur)} (h : D1 c0 = some v) : Abw Try.prog Hz [(rP true (Ak false)) c0] ((Ac false) v.1) 0 ((rP true (Ak false)) v.2) := by
 refine Ajs Ad2 (Nat.le_of_ble_eq_true rfl) ?_
 unfold D1 at h
 refine CallQ.io V.bool (rP true (Ak false)) (by rfl) rfl (fun _ => rfl) (fun _ => ⟨rfl, rfl⟩) rfl h (fun r h => Fe h) (fun r1 u2 h => ?_)
 refine Br.ob h (fun p3 h => ?_) (fun p3 h => ?_)
 ·refine CallQ.io (Ac false) (rP true (Ak false)) (by rfl) rfl (fun _ => rfl) (fun _ => ⟨rfl, rfl⟩) rfl h (fun r h => Ags h) (fun r4 u5 h => ?_)
  refine SetKids.lit rfl ?_
  cases h; exact ⟨(by rfl), (by rfl)⟩
 refine CallQ.io Ab (rP true (Ak false)) (by rfl) rfl (fun _ => rfl) (fun _ => ⟨rfl, rfl⟩) rfl h (fun r h => Bo h) (fun r6 u7 h => ?_)
 refine CallQ.o (Ac true) (by rfl) h (fun r h => Amc h) (fun r8 h => ?_)
 refine SetKids.lit rfl ?_
 refine Cells.lit rfl rfl ?_
 refine Kid.lit rfl rfl ?_
 refine Len.map ?_
 refine CallQ.io (slr true 1 Ab) (rP true (Ak false)) (by rfl) rfl (fun _ => rfl) (fun _ => ⟨rfl, rfl⟩) rfl h (fun r h => Sq h) (fun r9 u10 h => ?_)
 refine CutQ.o (fun t : (Bool × Sl1Cur) => match t with | s => (Ex.normal, [27, 5, 4, 3, 2, 60], [(27, A.val (V.bool s.1)), (5, A.val ((slr true 1 Ab) (r9))), (4, A.val (Ab ((↑r8.Below.length : Int)))), (3, A.val ((rP true (Ac true)) (r8))), (2, A.val ((rP true (Ac true)) ({ Below := Ao (List Int) }))), (60, A.val ((rP true (Ak false)) s.2))])) h ?_ ?_
 ·intro t h
  refine CallQ.rd V.bool (by first | rfl | simp only [V.fz, V.up, Ae, Ah, slr] | simp [Ad, V.fz, fzL, V.up, upL, Ae, Af, Ah, slr]) (fun _ => rfl) h (fun r h => Ae7 h) (fun r11 h => ?_)
  refine Br.ob h (fun p12 h => ?_) (fun p12 h => ?_)
  ·refine Br.yes ?_
   refine CallQ.io V.bool (rP true (Ak false)) (by rfl) rfl (fun _ => rfl) (fun _ => ⟨rfl, rfl⟩) rfl h (fun r h => Fe h) (fun r13 u14 h => ?_)
   refine Br.yes ?_
   cases h; exact ⟨rfl, rfl⟩
  iterate 2 refine Br.no ?_
  cases h; exact ⟨rfl, rfl⟩
 rintro ⟨q15_27, q15_60⟩ h
 try dsimp only at h
 refine Br.ob h (fun p16 h => ?_) (fun p16 h => ?_)
 ·refine Cells.lit rfl rfl ?_
  refine CallQ.rd (slr true 2 (rA2 Ab)) (by first | rfl | simp only [V.fz, Ae] | simp [Ad, V.fz, fzL, V.up, upL, Ae, Af, Ah, slr]) (fun _ => by simp [V.noFz, Aq]) h (fun r h => Amy h) (fun r17 h => ?_)
  refine LoopQ.o [7, 6, 5, 4, 3, 2, 60] (It r8 r9 q15_60) (Ni r8 r9 q15_60) h (fun s o h => Yb s o h) (by first | rfl | simp [restrict, look, Ad, V.fz, fzL, V.up, upL, Ae, Af, Ah, slr]) (fun _ => rfl) ?_
  rintro q25_6 h
  try dsimp only at h
  refine CallQ.rd (Ac true) (by first | rfl | simp only [V.fz, V.up, Ae, Ah, slr] | simp [Ad, V.fz, fzL, V.up, upL, Ae, Af, Ah, slr]) (fun _ => by simp [V.noFz, Ba, Aq]) h (fun r h => Bq h) (fun r26 h => ?_)
  refine SetKids.lit rfl ?_
  refine Cells.lit rfl rfl ?_
  refine SetKids.lit rfl ?_
  cases h; exact ⟨(by first | rfl | simp only [Nr, V.fz, fzL, Ae, slr] | simp [Nr, Ad, V.fz, fzL, V.up, upL, Ae, Af, Ah, slr]), (by rfl)⟩
 refine Cells.lit rfl rfl ?_
 refine SetKids.lit rfl ?_
 cases h; exact ⟨(by first | rfl | simp only [Nr, V.fz, fzL, Ae, slr] | simp [Nr, Ad, V.fz, fzL, V.up, upL, Ae, Af, Ah, slr]), (by rfl)⟩
noncomputable def Gy (c0 : Sl1Cur) (p0 : SPoset) : Option ((List Int) × Sl1Cur) :=
 (Db (c0) (p0)).bind fun (r1, u2) =>
 (Iw (p0) (r1)).bind fun r3 =>
 if (r3) = true then
 if (↑r1.length : Int) > (0 : Int) then
 (Bn (u2) ((8 : Int))).bind fun (r6, u7) =>
 if (r6) = true then
 some (r1, u7)
 else
 (Fw (p0) (r1)).bind fun r9 =>
 some (r9, u7)
 else
 some (r1, u2)
 else
 some (r1, u2)
theorem Afq {c0 : Sl1Cur} {p0 : SPoset} {v : ((List Int) × Sl1Cur)} (h : Gy c0 p0 = some v) : Abw Try.prog My [(rP true (Ak false)) c0, (Ac false) p0] ((slr false 1 Ab) v.1) 0 ((rP true (Ak false)) v.2) := by
 refine Ajs Agu (Nat.le_of_ble_eq_true rfl) ?_
 unfold Gy at h
 refine Cells.lit rfl rfl ?_
 refine CallQ.io (slr true 1 Ab) (rP true (Ak false)) (by rfl) rfl (fun _ => rfl) (fun _ => ⟨rfl, rfl⟩) rfl h (fun r h => Pn h) (fun r1 u2 h => ?_)
 refine FrzQ.z ?_
 refine Cells.lit rfl rfl ?_
 refine CallQ.o V.bool (by first | rfl | simp only [V.fz, fzL, V.up, Ae, slr] | simp [Ad, V.fz, fzL, V.up, upL, Ae, Af, Ah, slr]) h (fun r h => Adq h) (fun r3 h => ?_)
 refine Br.ob h (fun p4 h => ?_) (fun p4 h => ?_)
 ·refine Br.yes ?_
  refine Len.fzmap ?_
  iterate 2 refine Br.yes ?_
  refine Br.od h (fun p5 h => ?_) (fun p5 h => ?_)
  ·refine Br.yes ?_
   refine CallQ.io V.bool (rP true (Ak false)) (by rfl) rfl (fun _ => rfl) (fun _ => ⟨rfl, rfl⟩) rfl h (fun r h => Fe h) (fun r6 u7 h => ?_)
   iterate 2 refine Br.yes ?_
   refine Br.flip ?_
   refine Br.ob h (fun p8 h => ?_) (fun p8 h => ?_)
   ·cases h; exact ⟨(by first | rfl | simp only [Nr, V.fz, V.up, Ae, slr] | simp [Nr, Ad, V.fz, fzL, V.up, upL, Ae, Af, Ah, slr]), (by rfl)⟩
   refine Cells.lit rfl rfl ?_
   refine CallQ.o (slr false 1 Ab) (by first | rfl | simp only [V.fz, fzL, V.up, Ae, slr] | simp [Ad, V.fz, fzL, V.up, upL, Ae, Af, Ah, slr]) h (fun r h => R9 h) (fun r9 h => ?_)
   cases h; exact ⟨(by rfl), (by rfl)⟩
  iterate 4 refine Br.no ?_
  cases h; exact ⟨(by first | rfl | simp only [Nr, V.fz, V.up, Ae, slr] | simp [Nr, Ad, V.fz, fzL, V.up, upL, Ae, Af, Ah, slr]), (by rfl)⟩
 iterate 8 refine Br.no ?_
 cases h; exact ⟨(by first | rfl | simp only [Nr, V.fz, V.up, Ae, slr] | simp [Nr, Ad, V.fz, fzL, V.up, upL, Ae, Af, Ah, slr]), (by rfl)⟩
noncomputable def Dx (code0 : (List Int)) : Option (SPoset × (List Int)) :=
 (D1 ({ code := code0, at_ := (0 : Int), seed := (0 : Int) })).bind fun (r1, u2) =>
 (Gy (u2) (r1)).bind fun (r3, _u4) =>
 some (r1, r3)
theorem Xy {code0 : (List Int)} {v : (SPoset × (List Int))} (h : Dx code0 = some v) : Ret Try.prog Ij [(slr false 1 (V.int IntKind.u8)) code0] ((fun r => V.tup [(Ac false) r.1, (slr false 1 Ab) r.2]) v) := by
 refine Yn Yf (Nat.le_of_ble_eq_true rfl) ?_
 unfold Dx at h
 refine CallQ.io (Ac false) (rP true (Ak false)) (by rfl) rfl (fun _ => rfl) (fun _ => ⟨rfl, rfl⟩) rfl h (fun r h => Q9 h) (fun r1 u2 h => ?_)
 refine SetKids.lit rfl ?_
 iterate 2 refine Cells.lit rfl rfl ?_
 refine LendP.io (slr false 1 Ab) (rP true (Ak false)) (by rfl) (fun _ => rfl) (fun _ => ⟨rfl, rfl⟩) (fun _ => rfl) h (fun r h => Afq h) (fun r3 u4 h => ?_)
 refine SetKids.lit rfl ?_
 cases h; exact (by rfl)
noncomputable def Gt (code0 : (List Int)) : Option (SPoset × (List Int)) :=
 (D1 ({ code := code0, at_ := (0 : Int), seed := (0 : Int) })).bind fun (r1, u2) =>
 (Db (u2) (r1)).bind fun (r3, _u4) =>
 some (r1, r3)
theorem Af7 {code0 : (List Int)} {v : (SPoset × (List Int))} (h : Gt code0 = some v) : Ret Try.prog Mw [(slr false 1 (V.int IntKind.u8)) code0] ((fun r => V.tup [(Ac false) r.1, (slr false 1 Ab) r.2]) v) := by
 refine Yn Agb (Nat.le_of_ble_eq_true rfl) ?_
 unfold Gt at h
 conv => whnf
 refine CallQ.io (Ac false) (rP true (Ak false)) (by rfl) rfl (fun _ => rfl) (fun _ => ⟨rfl, rfl⟩) rfl h (fun r h => Q9 h) (fun r1 u2 h => ?_)
 conv => whnf
 refine SetKids.lit rfl ?_
 conv => whnf
 refine Cells.lit rfl rfl ?_
 conv => whnf
 refine Cells.lit rfl rfl ?_
 conv => whnf
 refine LendP.io (slr true 1 Ab) (rP true (Ak false)) (by rfl) (fun _ => rfl) (fun _ => ⟨rfl, rfl⟩) (fun _ => rfl) h (fun r h => Pn h) (fun r3 u4 h => ?_)
 conv => whnf
 refine SetKids.lit rfl ?_
 conv => whnf
 cases h; exact (by first | rfl | simp only [Nr, V.fz, fzL, V.up, upL, Ae, slr] | simp [Nr, Ad, V.fz, fzL, V.up, upL, Ae, Af, Ah, slr])
noncomputable def Bs (code0 : (List Int)) : Option (SPoset × (List Int)) :=
 (Gt (code0)).bind fun r1 =>
 some r1
theorem Q4 {code0 : (List Int)} {v : (SPoset × (List Int))} (h : Bs code0 = some v) : Ret Try.prog Fl [(slr false 1 (V.int IntKind.u8)) code0] ((fun r => V.tup [(Ac false) r.1, (slr false 1 Ab) r.2]) v) := by
 refine Yn Q5 (Nat.le_of_ble_eq_true rfl) ?_
 unfold Bs at h
 refine CallQ.o (fun r => V.tup [(Ac false) r.1, (slr false 1 Ab) r.2]) (by rfl) h (fun r h => Af7 h) (fun r1 h => ?_)
 refine SetKids.lit rfl ?_
 cases h; exact (by rfl)
end Go.Proofs.Ytoikbcagaanhgaa.Ax
