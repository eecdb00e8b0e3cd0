/-
 What the functions compute, as functions on plain data, and that the program does compute it; written by program.
-/
import Derived.Test.YtoikbcagaanhgaaCode
import Derived.Test.YtoikbcagaanhgaaG1
import Derived.Test.YtoikbcagaanhgaaG3
import Derived.Test.YtoikbcagaanhgaaG4
import Derived.Test.YtoikbcagaanhgaaG7
import Derived.Test.YtoikbcagaanhgaaG8
import Derived.Test.YtoikbcagaanhgaaG9
namespace Go.Proofs.Ytoikbcagaanhgaa.Ax
open Go
set_option maxRecDepth 100000
set_option maxHeartbeats 4000000
noncomputable def Cw (p0 : SPoset) (r1 : SPoset) (x7 : Int) : (Int × SOp × SOp) → Option ((Int × SOp × SOp) ⊕ (SOp × SOp)) := fun (x8, x6', x5') =>
 if x8 < (↑p0.Below.length : Int) then
 (B0 (p0) ([x7, x8])).bind fun r4 =>
 ask ((x5'.Table).length + ([r4]).length ≤ LIM) <|
 (B0 (r1) ([x7, x8])).bind fun r5 =>
 ask ((x6'.Table).length + ([r5]).length ≤ LIM) <|
 ask (InI (x8 + (1 : Int))) <|
 some (.inl (x8 + (1 : Int), { Arity := x6'.Arity, Table := x6'.Table ++ [r5] }, { Arity := x5'.Arity, Table := x5'.Table ++ [r4] }))
 else
 some (.inr (x6', x5'))
def K0 (p0 : SPoset) (r1 : SPoset) (x7 : Int) : (Int × SOp × SOp) → St := fun s => [(8, A.val (Ab s.1)), (7, A.val (Ab (x7))), (6, A.val ((rP true (Dh true)) s.2.1)), (5, A.val ((rP true (Dh true)) s.2.2)), (4, A.val ((rP true (Ac true)) (r1))), (3, A.val (Ab ((↑p0.Below.length : Int)))), (2, A.val ((rP true (Ap true)) ({ Size := (0 : Int), Ops := Ao SOp }))), (1, A.val ((rP true (Ac false)) (p0)))]
def Rk (p0 : SPoset) (r1 : SPoset) (x7 : Int) : (SOp × SOp) → Tgt
 | s => ((Ex.exit 2), [7, 6, 5, 4, 3, 2, 1], [(7, A.val (Ab (x7))), (6, A.val ((rP true (Dh true)) s.1)), (5, A.val ((rP true (Dh true)) s.2)), (4, A.val ((rP true (Ac true)) (r1))), (3, A.val (Ab ((↑p0.Below.length : Int)))), (2, A.val ((rP true (Ap true)) ({ Size := (0 : Int), Ops := Ao SOp }))), (1, A.val ((rP true (Ac false)) (p0)))])
theorem Ab0 {p0 : SPoset} {r1 : SPoset} {x7 : Int} (s : (Int × SOp × SOp)) (o : (Int × SOp × SOp) ⊕ (SOp × SOp)) (h : Cw p0 r1 x7 s = some o) : vc Try.prog Ru (Bp [8, 7, 6, 5, 4, 3, 2, 1] (K0 p0 r1 x7) (Rk p0 r1 x7) o) (K0 p0 r1 x7 s) := by
 obtain ⟨x8, x6', x5'⟩ := s
 unfold Cw at h
 try dsimp only at h
 refine Br.od h (fun p3 h => ?_) (fun p3 h => ?_)
 ·refine Cells.lit rfl rfl ?_
  refine Cells.lit rfl rfl ?_
  refine BslQ.o Ab ([x7, x8]) (by exact fun _ => ⟨rfl, rfl⟩) (by rfl) ?_
  refine CallP.rd Ab (by rfl) (fun _ => rfl) h (fun r h => Hn h) (fun r4 h => ?_)
  refine BslQ.o Ab [r4] (by exact fun _ => ⟨rfl, rfl⟩) (by rfl) ?_
  refine NoOwn.o (fun _ => rfl) ?_
  iterate 2 refine Kid.lit rfl rfl ?_
  refine SetKids.lit rfl ?_
  refine AppQ.o (m := 1) Ab (by exact fun _ => ⟨rfl, rfl⟩) (x5'.Table) ([r4]) (by rfl) (by rfl) h fun h => ?_
  refine SetKids.lit rfl ?_
  iterate 2 refine Cells.lit rfl rfl ?_
  refine BslQ.o Ab ([x7, x8]) (by exact fun _ => ⟨rfl, rfl⟩) (by rfl) ?_
  refine CallP.rd Ab (by first | rfl | simp only [V.fz, Ae, slr] | simp [Ad, V.fz, fzL, V.up, upL, Ae, Af, Ah, slr]) (fun _ => rfl) h (fun r h => Hn h) (fun r5 h => ?_)
  refine BslQ.o Ab [r5] (by exact fun _ => ⟨rfl, rfl⟩) (by rfl) ?_
  refine NoOwn.o (fun _ => rfl) ?_
  iterate 2 refine Kid.lit rfl rfl ?_
  refine SetKids.lit rfl ?_
  refine AppQ.o (m := 1) Ab (by exact fun _ => ⟨rfl, rfl⟩) (x6'.Table) ([r5]) (by rfl) (by rfl) h fun h => ?_
  refine SetKids.lit rfl ?_
  refine Ask.o h fun p6 h => ?_
  cases h; exact ⟨rfl, rfl⟩
 cases h; exact ⟨rfl, rfl⟩
noncomputable def Cv (p0 : SPoset) (r1 : SPoset) : (Int × SOp × SOp) → Option ((Int × SOp × SOp) ⊕ (SOp × SOp)) := fun (x7, x6, x5) =>
 if x7 < (↑p0.Below.length : Int) then
 (Ai (Cw p0 r1 x7) ((0 : Int), x6, x5)).bind fun (q7_6, q7_5) =>
 ask (InI (x7 + (1 : Int))) <|
 some (.inl (x7 + (1 : Int), q7_6, q7_5))
 else
 some (.inr (x6, x5))
def Kj (p0 : SPoset) (r1 : SPoset) : (Int × SOp × SOp) → St := fun s => [(7, A.val (Ab s.1)), (6, A.val ((rP true (Dh true)) s.2.1)), (5, A.val ((rP true (Dh true)) s.2.2)), (4, A.val ((rP true (Ac true)) (r1))), (3, A.val (Ab ((↑p0.Below.length : Int)))), (2, A.val ((rP true (Ap true)) ({ Size := (0 : Int), Ops := Ao SOp }))), (1, A.val ((rP true (Ac false)) (p0)))]
def Q2 (p0 : SPoset) (_r1 : SPoset) : (SOp × SOp) → Tgt
 | s => ((Ex.exit 0), [6, 5, 3, 2], [(6, A.val ((rP true (Dh true)) s.1)), (5, A.val ((rP true (Dh true)) s.2)), (3, A.val (Ab ((↑p0.Below.length : Int)))), (2, A.val ((rP true (Ap true)) ({ Size := (0 : Int), Ops := Ao SOp })))])
theorem Ac8 {p0 : SPoset} {r1 : SPoset} (s : (Int × SOp × SOp)) (o : (Int × SOp × SOp) ⊕ (SOp × SOp)) (h : Cv p0 r1 s = some o) : vc Try.prog Re (Bp [7, 6, 5, 4, 3, 2, 1] (Kj p0 r1) (Q2 p0 r1) o) (Kj p0 r1 s) := by
 obtain ⟨x7, x6, x5⟩ := s
 unfold Cv at h
 try dsimp only at h
 refine Br.od h (fun p2 h => ?_) (fun p2 h => ?_)
 ·refine LoopQ.o [8, 7, 6, 5, 4, 3, 2, 1] (K0 p0 r1 x7) (Rk p0 r1 x7) h (fun s o h => Ab0 s o h) (by first | rfl | simp [restrict, look, Ad, V.fz, fzL, V.up, upL, Ae, Af, Ah, slr]) (fun _ => rfl) ?_
  rintro ⟨q7_6, q7_5⟩ h
  try dsimp only at h
  refine Ask.o h fun p8 h => ?_
  cases h; exact ⟨rfl, rfl⟩
 cases h; exact ⟨rfl, rfl⟩
noncomputable def Hs (p0 : SPoset) : Option SAlgebra :=
 (Gq (p0)).bind fun r1 =>
 (Ai (Cv p0 r1) ((0 : Int), { Arity := (2 : Int), Table := Ao Int }, { Arity := (2 : Int), Table := Ao Int })).bind fun (q9_6, q9_5) =>
 some ({ Size := (↑p0.Below.length : Int), Ops := [q9_5, q9_6] })
theorem Ai7 {p0 : SPoset} {v : SAlgebra} (h : Hs p0 = some v) : Ret Try.prog N8 [(Ac false) p0] ((Ap true) v) := by
 refine Av Aiv (Nat.le_of_ble_eq_true rfl) ?_
 unfold Hs at h
 refine Cells.lit rfl rfl ?_
 refine Len.map ?_
 refine Cells.lit rfl rfl ?_
 refine CallQ.o (Ac true) (by rfl) h (fun r h => Uq h) (fun r1 h => ?_)
 iterate 3 refine SetKids.lit rfl ?_
 refine LoopQ.o [7, 6, 5, 4, 3, 2, 1] (Kj p0 r1) (Q2 p0 r1) h (fun s o h => Ac8 s o h) (by first | rfl | simp [restrict, look, Ad, V.fz, fzL, V.up, upL, Ae, Af, Ah, slr]) (fun _ => rfl) ?_
 rintro ⟨q9_6, q9_5⟩ h
 try dsimp only at h
 iterate 2 refine Cells.lit rfl rfl ?_
 refine BslQ.o (Dh true) ([q9_5, q9_6]) (by exact fun _ => ⟨rfl, rfl⟩) (by rfl) ?_
 refine SetKids.lit rfl ?_
 cases h; exact (by rfl)
noncomputable def N1 (a0 : SAlgebra) (sub0 : (List Int)) : Option Bool :=
 (Gg (sub0) (a0.Size)).bind fun r1 =>
 if (r1) = true then
 (I5 (sub0)).bind fun r3 =>
 if (r3) = true then
 (Ja (a0) (sub0)).bind fun r5 =>
 some ((↑r5.length : Int) == (↑sub0.length : Int))
 else
 some false
 else
 some false
theorem Au8 {a0 : SAlgebra} {sub0 : (List Int)} {v : Bool} (h : N1 a0 sub0 = some v) : Ret Try.prog Zm [(Ap false) a0, (slr false 1 Ab) sub0] (V.bool v) := by
 refine Av As3 (Nat.le_of_ble_eq_true rfl) ?_
 unfold N1 at h
 refine Cells.lit rfl rfl ?_
 refine CallQ.o V.bool (by rfl) h (fun r h => Qq h) (fun r1 h => ?_)
 refine Br.ob h (fun p2 h => ?_) (fun p2 h => ?_)
 ·refine Br.yes ?_
  refine CallQ.o V.bool (by rfl) h (fun r h => Zs h) (fun r3 h => ?_)
  refine Br.yes ?_
  refine Br.ob h (fun p4 h => ?_) (fun p4 h => ?_)
  ·refine Cells.lit rfl rfl ?_
   iterate 2 refine Br.yes ?_
   refine CallQ.o (slr true 1 Ab) (by rfl) h (fun r h => Amx h) (fun r5 h => ?_)
   refine Br.yes ?_
   refine Len.map ?_
   iterate 2 refine Br.yes ?_
   refine Len.map ?_
   iterate 2 refine Br.yes ?_
   cases h; exact (by rfl)
  iterate 7 refine Br.no ?_
  cases h; exact (by rfl)
 iterate 10 refine Br.no ?_
 cases h; exact (by rfl)
noncomputable def Rl (a0 : SAlgebra) (sub0 : (List Int)) : Option Bool :=
 ask (InI (a0.Size - (1 : Int))) <|
 (Fx (sub0) ((0 : Int)) (a0.Size - (1 : Int))).bind fun r2 =>
 if (r2) = true then
 (Kp (a0) (sub0)).bind fun r4 =>
 (Ji (r4) (sub0)).bind fun r5 =>
 some r5
 else
 some false
theorem Avp {a0 : SAlgebra} {sub0 : (List Int)} {v : Bool} (h : Rl a0 sub0 = some v) : Ret Try.prog Acb [(Ap false) a0, (slr false 1 Ab) sub0] (V.bool v) := by
 refine Av Awt (Nat.le_of_ble_eq_true rfl) ?_
 unfold Rl at h
 refine Cells.lit rfl rfl ?_
 refine Ask.o h fun p1 h => ?_
 refine CallQ.o V.bool (by rfl) h (fun r h => Sl h) (fun r2 h => ?_)
 refine Br.ob h (fun p3 h => ?_) (fun p3 h => ?_)
 ·refine Cells.lit rfl rfl ?_
  iterate 2 refine Br.yes ?_
  refine CallQ.o (slr true 1 Ab) (by rfl) h (fun r h => Ap7 h) (fun r4 h => ?_)
  iterate 2 refine Br.yes ?_
  refine CallQ.rd V.bool (by first | rfl | simp only [V.fz, V.up, Ae, slr] | simp [Ad, V.fz, fzL, V.up, upL, Ae, Af, Ah, slr]) (fun _ => rfl) h (fun r h => Ae5 h) (fun r5 h => ?_)
  refine Br.yes ?_
  cases h; exact (by rfl)
 iterate 5 refine Br.no ?_
 cases h; exact (by rfl)
noncomputable def Dm (_p0 : SPoset) (some0 : List Int) : (Int × (List Int)) → Option ((Int × (List Int)) ⊕ (List Int)) := fun (x6, x5) =>
 if x6 < (↑some0.length : Int) then
 ask ((0 : Int) ≤ x6 ∧ x6 < (↑some0.length : Int)) <|
 (Hq (x5) (nth some0 x6.toNat)).bind fun r3 =>
 ask (InI (x6 + (1 : Int))) <|
 some (.inl (x6 + (1 : Int), r3))
 else
 some (.inr x5)
def M3 (p0 : SPoset) (some0 : List Int) : (Int × (List Int)) → St := fun s => [(6, A.val (Ab s.1)), (5, A.val ((slr false 1 Ab) s.2)), (2, A.val ((rP true (Ac false)) (p0))), (1, A.val ((slr false 1 Ab) (some0)))]
def Tm (p0 : SPoset) (_some0 : List Int) : (List Int) → Tgt
 | s => ((Ex.exit 0), [5, 2], [(5, A.val ((slr false 1 Ab) s)), (2, A.val ((rP true (Ac false)) (p0)))])
theorem Agn {p0 : SPoset} {some0 : List Int} (s : (Int × (List Int))) (o : (Int × (List Int)) ⊕ (List Int)) (h : Dm p0 some0 s = some o) : vc Try.prog Tt (Bp [6, 5, 2, 1] (M3 p0 some0) (Tm p0 some0) o) (M3 p0 some0 s) := by
 obtain ⟨x6, x5⟩ := s
 unfold Dm at h
 try dsimp only at h
 refine Len.map ?_
 refine Br.od h (fun p1 h => ?_) (fun p1 h => ?_)
 ·refine Len.map ?_
  refine Ask.o h fun p2 h => ?_
  refine Elem.o (by first | omega | (simp [Am] at *; omega)) ?_
  refine CallQ.o (slr false 1 Ab) (by rfl) h (fun r h => S3 h) (fun r3 h => ?_)
  refine Ask.o h fun p4 h => ?_
  cases h; exact ⟨rfl, rfl⟩
 cases h; exact ⟨rfl, rfl⟩
noncomputable def Dr (p0 : SPoset) (r6 : SPoset) (_x8 : Int) (r8 : List Int) (x10 : Int) : (Int × (List Int)) → Option ((Int × (List Int)) ⊕ (List Int)) := fun (x11, x5'') =>
 if x11 < x10 then
 ask ((0 : Int) ≤ x10 ∧ x10 < (↑r8.length : Int)) <|
 ask ((0 : Int) ≤ x11 ∧ x11 < (↑r8.length : Int)) <|
 (B0 (p0) ([nth r8 x10.toNat, nth r8 x11.toNat])).bind fun r13 =>
 (Hq (x5'') (r13)).bind fun r14 =>
 ask ((0 : Int) ≤ x10 ∧ x10 < (↑r8.length : Int)) <|
 ask ((0 : Int) ≤ x11 ∧ x11 < (↑r8.length : Int)) <|
 (B0 (r6) ([nth r8 x10.toNat, nth r8 x11.toNat])).bind fun r17 =>
 (Hq (r14) (r17)).bind fun r18 =>
 ask (InI (x11 + (1 : Int))) <|
 some (.inl (x11 + (1 : Int), r18))
 else
 some (.inr x5'')
def M8 (p0 : SPoset) (r6 : SPoset) (x8 : Int) (r8 : List Int) (x10 : Int) : (Int × (List Int)) → St := fun s => [(11, A.val (Ab s.1)), (10, A.val (Ab (x10))), (9, A.val ((slr true 1 Ab) (r8))), (8, A.val (Ab (x8))), (7, A.val ((rP true (Ac true)) (r6))), (5, A.val ((slr false 1 Ab) s.2)), (2, A.val ((rP true (Ac false)) (p0)))]
def Tf (p0 : SPoset) (r6 : SPoset) (x8 : Int) (r8 : List Int) (x10 : Int) : (List Int) → Tgt
 | s => ((Ex.exit 6), [10, 9, 8, 7, 5, 2], [(10, A.val (Ab (x10))), (9, A.val ((slr true 1 Ab) (r8))), (8, A.val (Ab (x8))), (7, A.val ((rP true (Ac true)) (r6))), (5, A.val ((slr false 1 Ab) s)), (2, A.val ((rP true (Ac false)) (p0)))])
theorem Afl {p0 : SPoset} {r6 : SPoset} {x8 : Int} {r8 : List Int} {x10 : Int} (s : (Int × (List Int))) (o : (Int × (List Int)) ⊕ (List Int)) (h : Dr p0 r6 x8 r8 x10 s = some o) : vc Try.prog Tl (Bp [11, 10, 9, 8, 7, 5, 2] (M8 p0 r6 x8 r8 x10) (Tf p0 r6 x8 r8 x10) o) (M8 p0 r6 x8 r8 x10 s) := by
 obtain ⟨x11, x5''⟩ := s
 unfold Dr at h
 try dsimp only at h
 refine Br.od h (fun p10 h => ?_) (fun p10 h => ?_)
 ·refine Cells.lit rfl rfl ?_
  refine Len.map ?_
  refine Ask.o h fun p11 h => ?_
  refine Cells.one (fun _ => ⟨rfl, rfl⟩) (by first | omega | (simp [Am] at *; omega)) ?_
  refine Len.map ?_
  refine Ask.o h fun p12 h => ?_
  refine Cells.one (fun _ => ⟨rfl, rfl⟩) (by first | omega | (simp [Am] at *; omega)) ?_
  refine BslQ.o Ab ([nth r8 x10.toNat, nth r8 x11.toNat]) (by exact fun _ => ⟨rfl, rfl⟩) (by rfl) ?_
  refine CallP.rd Ab (by rfl) (fun _ => rfl) h (fun r h => Hn h) (fun r13 h => ?_)
  refine CallP.o (slr false 1 Ab) (by rfl) h (fun r h => S3 h) (fun r14 h => ?_)
  refine Cells.lit rfl rfl ?_
  refine Len.map ?_
  refine Ask.o h fun p15 h => ?_
  refine Cells.one (fun _ => ⟨rfl, rfl⟩) (by first | omega | (simp [Am] at *; omega)) ?_
  refine Len.map ?_
  refine Ask.o h fun p16 h => ?_
  refine Cells.one (fun _ => ⟨rfl, rfl⟩) (by first | omega | (simp [Am] at *; omega)) ?_
  refine BslQ.o Ab ([nth r8 x10.toNat, nth r8 x11.toNat]) (by exact fun _ => ⟨rfl, rfl⟩) (by rfl) ?_
  refine CallQ.rd Ab (by first | rfl | simp only [V.fz, Ae, slr] | simp [Ad, V.fz, fzL, V.up, upL, Ae, Af, Ah, slr]) (fun _ => rfl) h (fun r h => Hn h) (fun r17 h => ?_)
  refine CallQ.o (slr false 1 Ab) (by rfl) h (fun r h => S3 h) (fun r18 h => ?_)
  refine Ask.o h fun p19 h => ?_
  cases h; exact ⟨rfl, rfl⟩
 cases h; exact ⟨rfl, rfl⟩
noncomputable def Dq (p0 : SPoset) (r6 : SPoset) (x8 : Int) (r8 : List Int) : (Int × (List Int)) → Option ((Int × (List Int)) ⊕ (List Int)) := fun (x10, x5') =>
 if x10 < (↑r8.length : Int) then
 (Ai (Dr p0 r6 x8 r8 x10) ((0 : Int), x5')).bind fun q20_5 =>
 ask (InI (x10 + (1 : Int))) <|
 some (.inl (x10 + (1 : Int), q20_5))
 else
 some (.inr x5')
def M7 (p0 : SPoset) (r6 : SPoset) (x8 : Int) (r8 : List Int) : (Int × (List Int)) → St := fun s => [(10, A.val (Ab s.1)), (9, A.val ((slr true 1 Ab) (r8))), (8, A.val (Ab (x8))), (7, A.val ((rP true (Ac true)) (r6))), (5, A.val ((slr false 1 Ab) s.2)), (2, A.val ((rP true (Ac false)) (p0)))]
def Uc (p0 : SPoset) (r6 : SPoset) (x8 : Int) (_r8 : List Int) : (List Int) → Tgt
 | s => ((Ex.exit 4), [8, 7, 5, 2], [(8, A.val (Ab (x8))), (7, A.val ((rP true (Ac true)) (r6))), (5, A.val ((slr false 1 Ab) s)), (2, A.val ((rP true (Ac false)) (p0)))])
theorem Afd {p0 : SPoset} {r6 : SPoset} {x8 : Int} {r8 : List Int} (s : (Int × (List Int))) (o : (Int × (List Int)) ⊕ (List Int)) (h : Dq p0 r6 x8 r8 s = some o) : vc Try.prog T5 (Bp [10, 9, 8, 7, 5, 2] (M7 p0 r6 x8 r8) (Uc p0 r6 x8 r8) o) (M7 p0 r6 x8 r8 s) := by
 obtain ⟨x10, x5'⟩ := s
 unfold Dq at h
 try dsimp only at h
 refine Len.map ?_
 refine Br.od h (fun p9 h => ?_) (fun p9 h => ?_)
 ·refine LoopQ.o [11, 10, 9, 8, 7, 5, 2] (M8 p0 r6 x8 r8 x10) (Tf p0 r6 x8 r8 x10) h (fun s o h => Afl s o h) (by first | rfl | simp [restrict, look, Ad, V.fz, fzL, V.up, upL, Ae, Af, Ah, slr]) (fun _ => rfl) ?_
  rintro q20_5 h
  try dsimp only at h
  refine Ask.o h fun p21 h => ?_
  cases h; exact ⟨rfl, rfl⟩
 cases h; exact ⟨rfl, rfl⟩
noncomputable def Dn (p0 : SPoset) (r6 : SPoset) : (Int × (List Int)) → Option ((Int × (List Int)) ⊕ (List Int)) := fun (x8, x5) =>
 if x8 < (↑p0.Below.length : Int) then
 (N4 (x5)).bind fun r8 =>
 (Ai (Dq p0 r6 x8 r8) ((0 : Int), x5)).bind fun q22_5 =>
 ask (InI (x8 + (1 : Int))) <|
 some (.inl (x8 + (1 : Int), q22_5))
 else
 some (.inr x5)
def M1 (p0 : SPoset) (r6 : SPoset) : (Int × (List Int)) → St := fun s => [(8, A.val (Ab s.1)), (7, A.val ((rP true (Ac true)) (r6))), (5, A.val ((slr false 1 Ab) s.2)), (2, A.val ((rP true (Ac false)) (p0)))]
def Ui (_p0 : SPoset) (_r6 : SPoset) : (List Int) → Tgt
 | s => ((Ex.exit 2), [5], [(5, A.val ((slr false 1 Ab) s))])
theorem Af8 {p0 : SPoset} {r6 : SPoset} (s : (Int × (List Int))) (o : (Int × (List Int)) ⊕ (List Int)) (h : Dn p0 r6 s = some o) : vc Try.prog Ts (Bp [8, 7, 5, 2] (M1 p0 r6) (Ui p0 r6) o) (M1 p0 r6 s) := by
 obtain ⟨x8, x5⟩ := s
 unfold Dn at h
 try dsimp only at h
 refine Cells.lit rfl rfl ?_
 refine Len.map ?_
 refine Br.od h (fun p7 h => ?_) (fun p7 h => ?_)
 ·refine CallQ.o (slr true 1 Ab) (by rfl) h (fun r h => Ati h) (fun r8 h => ?_)
  refine LoopQ.o [10, 9, 8, 7, 5, 2] (M7 p0 r6 x8 r8) (Uc p0 r6 x8 r8) h (fun s o h => Afd s o h) (by first | rfl | simp [restrict, look, Ad, V.fz, fzL, V.up, upL, Ae, Af, Ah, slr]) (fun _ => rfl) ?_
  rintro q22_5 h
  try dsimp only at h
  refine Ask.o h fun p23 h => ?_
  cases h; exact ⟨rfl, rfl⟩
 cases h; exact ⟨rfl, rfl⟩
noncomputable def Fw (p0 : SPoset) (some0 : (List Int)) : Option (List Int) :=
 (Ai (Dm p0 some0) ((0 : Int), Ao Int)).bind fun q5_5 =>
 (Gq (p0)).bind fun r6 =>
 (Ai (Dn p0 r6) ((0 : Int), q5_5)).bind fun q24_5 =>
 some q24_5
theorem R9 {p0 : SPoset} {some0 : (List Int)} {v : (List Int)} (h : Fw p0 some0 = some v) : Ret Try.prog Jc [(Ac false) p0, (slr false 1 Ab) some0] ((slr false 1 Ab) v) := by
 refine Yn Amo (Nat.le_of_ble_eq_true rfl) ?_
 unfold Fw at h
 refine BslQ.o Ab (Ao Int) (by exact fun _ => ⟨rfl, rfl⟩) (by rfl) ?_
 refine LoopQ.o [6, 5, 2, 1] (M3 p0 some0) (Tm p0 some0) h (fun s o h => Agn s o h) (by first | rfl | simp [restrict, look, Ad, V.fz, fzL, V.up, upL, Ae, Af, Ah, slr]) (fun _ => rfl) ?_
 rintro q5_5 h
 try dsimp only at h
 refine Cells.lit rfl rfl ?_
 refine CallQ.o (Ac true) (by rfl) h (fun r h => Uq h) (fun r6 h => ?_)
 refine SetKids.lit rfl ?_
 refine LoopQ.o [8, 7, 5, 2] (M1 p0 r6) (Ui p0 r6) h (fun s o h => Af8 s o h) (by first | rfl | simp [restrict, look, Ad, V.fz, fzL, V.up, upL, Ae, Af, Ah, slr]) (fun _ => rfl) ?_
 rintro q24_5 h
 try dsimp only at h
 cases h; exact (by rfl)
noncomputable def Ea (n0 : Int) : (Int × (List Int) × Sl1Cur) → Option ((Int × (List Int) × Sl1Cur) ⊕ ((List Int) × Sl1Cur)) := fun (x6, x5, x53) =>
 if x6 < n0 then
 ask (InI ((↑x5.length : Int) + (1 : Int))) <|
 (A5 (x53) ((↑x5.length : Int) + (1 : Int))).bind fun (r3, u4) =>
 ask (0 ≤ (0 : Int) ∧ (0 : Int) ≤ r3 ∧ r3 ≤ ((x5.length : Nat) : Int)) <|
 ask ((Ao Int).length + (List.take (r3.toNat - Int.toNat (0 : Int)) (List.drop (Int.toNat (0 : Int)) x5)).length ≤ LIM) <|
 ask ((Ao Int ++ List.take (r3.toNat - Int.toNat (0 : Int)) (List.drop (Int.toNat (0 : Int)) x5)).length + ([x6]).length ≤ LIM) <|
 ask (0 ≤ r3 ∧ r3 ≤ (↑x5.length : Int) ∧ (↑x5.length : Int) ≤ ((x5.length : Nat) : Int)) <|
 ask ((Ao Int ++ List.take (r3.toNat - Int.toNat (0 : Int)) (List.drop (Int.toNat (0 : Int)) x5) ++ [x6]).length + (List.take ((↑x5.length : Int).toNat - r3.toNat) (List.drop r3.toNat x5)).length ≤ LIM) <|
 ask (InI (x6 + (1 : Int))) <|
 some (.inl (x6 + (1 : Int), Ao Int ++ List.take (r3.toNat - Int.toNat (0 : Int)) (List.drop (Int.toNat (0 : Int)) x5) ++ [x6] ++ List.take ((↑x5.length : Int).toNat - r3.toNat) (List.drop r3.toNat x5), u4))
 else
 some (.inr (x5, x53))
def I7 (n0 : Int) : (Int × (List Int) × Sl1Cur) → St := fun s => [(6, A.val (Ab s.1)), (5, A.val ((slr true 1 Ab) s.2.1)), (0, A.ref 53 []), (53, A.val ((rP true (Ak false)) s.2.2)), (1, A.val (Ab (n0)))]
def Ow (n0 : Int) : ((List Int) × Sl1Cur) → Tgt
 | s => ((Ex.exit 0), [5, 0, 53, 1], [(5, A.val ((slr true 1 Ab) s.1)), (0, A.ref 53 []), (53, A.val ((rP true (Ak false)) s.2)), (1, A.val (Ab (n0)))])
theorem Aag {n0 : Int} (s : (Int × (List Int) × Sl1Cur)) (o : (Int × (List Int) × Sl1Cur) ⊕ ((List Int) × Sl1Cur)) (h : Ea n0 s = some o) : vc Try.prog N0 (Bp [6, 5, 0, 53, 1] (I7 n0) (Ow n0) o) (I7 n0 s) := by
 obtain ⟨x6, x5, x53⟩ := s
 unfold Ea at h
 try dsimp only at h
 refine Br.od h (fun p1 h => ?_) (fun p1 h => ?_)
 ·refine Len.map ?_
  refine Ask.o h fun p2 h => ?_
  refine CallQ.io Ab (rP true (Ak false)) (by rfl) rfl (fun _ => rfl) (fun _ => ⟨rfl, rfl⟩) rfl h (fun r h => Bo h) (fun r3 u4 h => ?_)
  refine FrzQ.z ?_
  refine BslQ.o Ab (Ao Int) (by exact fun _ => ⟨rfl, rfl⟩) (by rfl) ?_
  refine SlcQ.lst (xs := x5) Ab (by first | rfl | simp only [Ae] | simp [Ad, V.fz, fzL, V.up, upL, Ae, Af, Ah, slr]) h fun h => ?_
  refine AppQ.o (m := 1) Ab (by exact fun _ => ⟨rfl, rfl⟩) (Ao Int) (List.take (r3.toNat - Int.toNat (0 : Int)) (List.drop (Int.toNat (0 : Int)) x5)) (by rfl) (by rfl) h fun h => ?_
  refine BslQ.o Ab [x6] (by exact fun _ => ⟨rfl, rfl⟩) (by rfl) ?_
  refine NoOwn.o (fun _ => rfl) ?_
  refine AppQ.o (m := 1) Ab (by exact fun _ => ⟨rfl, rfl⟩) (Ao Int ++ List.take (r3.toNat - Int.toNat (0 : Int)) (List.drop (Int.toNat (0 : Int)) x5)) ([x6]) (by rfl) (by rfl) h fun h => ?_
  refine Len.fzmap ?_
  refine SlcQ.lst (xs := x5) Ab (by first | rfl | simp only [Ae] | simp [Ad, V.fz, fzL, V.up, upL, Ae, Af, Ah, slr]) h fun h => ?_
  refine AppQ.o (m := 1) Ab (by exact fun _ => ⟨rfl, rfl⟩) (Ao Int ++ List.take (r3.toNat - Int.toNat (0 : Int)) (List.drop (Int.toNat (0 : Int)) x5) ++ [x6]) (List.take ((↑x5.length : Int).toNat - r3.toNat) (List.drop r3.toNat x5)) (by rfl) (by rfl) h fun h => ?_
  refine Ask.o h fun p5 h => ?_
  cases h; exact ⟨rfl, rfl⟩
 cases h; exact ⟨rfl, rfl⟩
noncomputable def C6 (c0 : Sl1Cur) (n0 : Int) : Option ((List Int) × Sl1Cur) :=
 (Ai (Ea n0) ((0 : Int), Ao Int, c0)).bind fun (q6_5, q6_53) =>
 (A5 (q6_53) ((24 : Int))).bind fun (r7, u8) =>
 if r7 = (0 : Int) then
 ask ((q6_5).length + ([n0]).length ≤ LIM) <|
 some (q6_5 ++ [n0], u8)
 else
 if r7 = (1 : Int) then
 if n0 > (0 : Int) then
 (A5 (u8) (n0)).bind fun (r12, u13) =>
 (Cc (u13) ([(0 : Int), (-1 : Int), n0])).bind fun (r14, u15) =>
 ask ((0 : Int) ≤ r12 ∧ r12 < (↑q6_5.length : Int)) <|
 some (q6_5.set r12.toNat r14, u15)
 else
 some (q6_5, u8)
 else
 some (q6_5, u8)
theorem Sq {c0 : Sl1Cur} {n0 : Int} {v : ((List Int) × Sl1Cur)} (h : C6 c0 n0 = some v) : Abw Try.prog Ie [(rP true (Ak false)) c0, Ab n0] ((slr true 1 Ab) v.1) 0 ((rP true (Ak false)) v.2) := by
 refine Vm Aes (Nat.le_of_ble_eq_true rfl) ?_
 unfold C6 at h
 refine BslQ.o Ab (Ao Int) (by exact fun _ => ⟨rfl, rfl⟩) (by rfl) ?_
 refine LoopQ.o [6, 5, 0, 53, 1] (I7 n0) (Ow n0) h (fun s o h => Aag s o h) (by first | rfl | simp [restrict, look, Ad, V.fz, fzL, V.up, upL, Ae, Af, Ah, slr]) (fun _ => rfl) ?_
 rintro ⟨q6_5, q6_53⟩ h
 try dsimp only at h
 refine CallQ.io Ab (rP true (Ak false)) (by rfl) rfl (fun _ => rfl) (fun _ => ⟨rfl, rfl⟩) rfl h (fun r h => Bo h) (fun r7 u8 h => ?_)
 refine Br.oe h (fun p9 h => ?_) (fun p9 h => ?_)
 ·refine BslQ.o Ab [n0] (by exact fun _ => ⟨rfl, rfl⟩) (by rfl) ?_
  refine NoOwn.o (fun _ => rfl) ?_
  refine AppQ.o (m := 1) Ab (by exact fun _ => ⟨rfl, rfl⟩) (q6_5) ([n0]) (by rfl) (by rfl) h fun h => ?_
  cases h; exact ⟨(by rfl), (by rfl)⟩
 refine Br.oe h (fun p10 h => ?_) (fun p10 h => ?_)
 ·refine Br.od h (fun p11 h => ?_) (fun p11 h => ?_)
  ·refine CallQ.io Ab (rP true (Ak false)) (by rfl) rfl (fun _ => rfl) (fun _ => ⟨rfl, rfl⟩) rfl h (fun r h => Bo h) (fun r12 u13 h => ?_)
   refine BslQ.o Ab ([(0 : Int), (-1 : Int), n0]) (by exact fun _ => ⟨rfl, rfl⟩) (by rfl) ?_
   refine CallQ.io Ab (rP true (Ak false)) (by rfl) rfl (fun _ => rfl) (fun _ => ⟨rfl, rfl⟩) rfl h (fun r h => Gr h) (fun r14 u15 h => ?_)
   refine Len.map ?_
   refine Ask.o h fun p16 h => ?_
   refine SetKids.one (fun _ => ⟨rfl, rfl⟩) (r14) (by rfl) (by first | omega | (simp [Am] at *; omega)) ?_
   cases h; exact ⟨(by rfl), (by rfl)⟩
  cases h; exact ⟨(by rfl), (by rfl)⟩
 cases h; exact ⟨(by rfl), (by rfl)⟩
end Go.Proofs.Ytoikbcagaanhgaa.Ax
