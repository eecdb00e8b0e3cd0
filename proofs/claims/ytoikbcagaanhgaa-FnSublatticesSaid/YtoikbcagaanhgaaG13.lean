/-
 What the functions compute, as functions on plain data, and that the program does compute it; written by program.
-/
import Derived.Test.YtoikbcagaanhgaaCode
import Derived.Test.YtoikbcagaanhgaaG2
import Derived.Test.YtoikbcagaanhgaaG4
import Derived.Test.YtoikbcagaanhgaaG7
import Derived.Test.YtoikbcagaanhgaaG8
import Derived.Test.YtoikbcagaanhgaaG11
import Derived.Test.YtoikbcagaanhgaaG12
namespace Go.Proofs.Ytoikbcagaanhgaa.Ax
open Go
set_option maxRecDepth 100000
set_option maxHeartbeats 4000000
noncomputable def Eu (r1 : Int) (x5 : Int) : (Int × (List (Int × Int)) × Sl1Cur) → Option ((Int × (List (Int × Int)) × Sl1Cur) ⊕ ((List (Int × Int)) × Sl1Cur)) := fun (x6, x4', x147') =>
 if x6 < r1 then
 (Bn (x147') ((3 : Int))).bind fun (r6, u7) =>
 if (r6) = true then
 ask ((x4').length + ([(x5, x6)]).length ≤ LIM) <|
 ask (InI (x6 + (1 : Int))) <|
 some (.inl (x6 + (1 : Int), x4' ++ [(x5, x6)], u7))
 else
 ask (InI (x6 + (1 : Int))) <|
 some (.inl (x6 + (1 : Int), x4', u7))
 else
 some (.inr (x4', x147'))
def Jx (r1 : Int) (x5 : Int) : (Int × (List (Int × Int)) × Sl1Cur) → St := fun s => [(6, A.val (Ab s.1)), (5, A.val (Ab (x5))), (4, A.val ((slr true 2 (rA2 Ab)) s.2.1)), (3, A.val (Ab (r1))), (2, A.val ((rP true (Ac true)) ({ Below := Ao (List Int) }))), (0, A.ref 147 []), (147, A.val ((rP true (Ak false)) s.2.2))]
def O5 (r1 : Int) (x5 : Int) : ((List (Int × Int)) × Sl1Cur) → Tgt
 | s => ((Ex.exit 2), [5, 4, 3, 2, 0, 147], [(5, A.val (Ab (x5))), (4, A.val ((slr true 2 (rA2 Ab)) s.1)), (3, A.val (Ab (r1))), (2, A.val ((rP true (Ac true)) ({ Below := Ao (List Int) }))), (0, A.ref 147 []), (147, A.val ((rP true (Ak false)) s.2))])
theorem Aa5 {r1 : Int} {x5 : Int} (s : (Int × (List (Int × Int)) × Sl1Cur)) (o : (Int × (List (Int × Int)) × Sl1Cur) ⊕ ((List (Int × Int)) × Sl1Cur)) (h : Eu r1 x5 s = some o) : vc Try.prog Pm (Bp [6, 5, 4, 3, 2, 0, 147] (Jx r1 x5) (O5 r1 x5) o) (Jx r1 x5 s) := by
 obtain ⟨x6, x4', x147'⟩ := s
 unfold Eu at h
 try dsimp only at h
 refine Br.od h (fun p5 h => ?_) (fun p5 h => ?_)
 ·refine CallQ.io V.bool (rP true (Ak false)) (by rfl) rfl (fun _ => rfl) (fun _ => ⟨rfl, rfl⟩) rfl h (fun r h => Fe h) (fun r6 u7 h => ?_)
  refine Br.ob h (fun p8 h => ?_) (fun p8 h => ?_)
  ·refine BslQ.o (rA2 Ab) ([(x5, x6)]) (by exact fun _ => ⟨rfl, rfl⟩) (by rfl) ?_
   refine NoOwn.o (fun _ => rfl) ?_
   refine AppQ.o (m := 2) (rA2 Ab) (by exact fun _ => ⟨rfl, rfl⟩) (x4') ([(x5, x6)]) (by rfl) (by rfl) h fun h => ?_
   refine Ask.o h fun p9 h => ?_
   cases h; exact ⟨rfl, rfl⟩
  refine Ask.o h fun p10 h => ?_
  cases h; exact ⟨rfl, rfl⟩
 cases h; exact ⟨rfl, rfl⟩
noncomputable def Ez (r1 : Int) : (Int × (List (Int × Int)) × Sl1Cur) → Option ((Int × (List (Int × Int)) × Sl1Cur) ⊕ ((List (Int × Int)) × Sl1Cur)) := fun (x5, x4, x147) =>
 if x5 < r1 then
 ask (InI (x5 + (1 : Int))) <|
 (Ai (Eu r1 x5) (x5 + (1 : Int), x4, x147)).bind fun (q11_4, q11_147) =>
 ask (InI (x5 + (1 : Int))) <|
 some (.inl (x5 + (1 : Int), q11_4, q11_147))
 else
 some (.inr (x4, x147))
def Jr (r1 : Int) : (Int × (List (Int × Int)) × Sl1Cur) → St := fun s => [(5, A.val (Ab s.1)), (4, A.val ((slr true 2 (rA2 Ab)) s.2.1)), (3, A.val (Ab (r1))), (2, A.val ((rP true (Ac true)) ({ Below := Ao (List Int) }))), (0, A.ref 147 []), (147, A.val ((rP true (Ak false)) s.2.2))]
def Pp (r1 : Int) : ((List (Int × Int)) × Sl1Cur) → Tgt
 | s => ((Ex.exit 0), [4, 3, 2, 0, 147], [(4, A.val ((slr true 2 (rA2 Ab)) s.1)), (3, A.val (Ab (r1))), (2, A.val ((rP true (Ac true)) ({ Below := Ao (List Int) }))), (0, A.ref 147 []), (147, A.val ((rP true (Ak false)) s.2))])
theorem Abd {r1 : Int} (s : (Int × (List (Int × Int)) × Sl1Cur)) (o : (Int × (List (Int × Int)) × Sl1Cur) ⊕ ((List (Int × Int)) × Sl1Cur)) (h : Ez r1 s = some o) : vc Try.prog O9 (Bp [5, 4, 3, 2, 0, 147] (Jr r1) (Pp r1) o) (Jr r1 s) := by
 obtain ⟨x5, x4, x147⟩ := s
 unfold Ez at h
 try dsimp only at h
 refine Br.od h (fun p3 h => ?_) (fun p3 h => ?_)
 ·refine Ask.o h fun p4 h => ?_
  refine LoopQ.o [6, 5, 4, 3, 2, 0, 147] (Jx r1 x5) (O5 r1 x5) h (fun s o h => Aa5 s o h) (by first | rfl | simp [restrict, look, Ad, V.fz, fzL, V.up, upL, Ae, Af, Ah, slr]) (fun _ => rfl) ?_
  rintro ⟨q11_4, q11_147⟩ h
  try dsimp only at h
  refine Ask.o h fun p12 h => ?_
  cases h; exact ⟨rfl, rfl⟩
 cases h; exact ⟨rfl, rfl⟩
noncomputable def Dc (_r1 : Int) (r14 : List Int) (_q20_147 : Sl1Cur) : (Int × (List (Int × Int))) → Option ((Int × (List (Int × Int))) ⊕ (List (Int × Int))) := fun (x8, x4) =>
 if x8 < (↑x4.length : Int) then
 ask ((0 : Int) ≤ x8 ∧ x8 < (↑x4.length : Int)) <|
 ask ((0 : Int) ≤ (nth x4 x8.toNat).fst ∧ (nth x4 x8.toNat).fst < (↑r14.length : Int)) <|
 ask ((0 : Int) ≤ x8 ∧ x8 < (↑x4.length : Int)) <|
 ask ((0 : Int) ≤ (nth x4 x8.toNat).snd ∧ (nth x4 x8.toNat).snd < (↑r14.length : Int)) <|
 ask ((0 : Int) ≤ x8 ∧ x8 < (↑x4.length : Int)) <|
 ask (InI (x8 + (1 : Int))) <|
 some (.inl (x8 + (1 : Int), x4.set x8.toNat (nth r14 (nth x4 x8.toNat).fst.toNat, nth r14 (nth x4 x8.toNat).snd.toNat)))
 else
 some (.inr x4)
def Jt (r1 : Int) (r14 : List Int) (q20_147 : Sl1Cur) : (Int × (List (Int × Int))) → St := fun s => [(8, A.val (Ab s.1)), (7, A.val ((slr true 1 Ab) (r14))), (4, A.val ((slr true 2 (rA2 Ab)) s.2)), (3, A.val (Ab (r1))), (2, A.val ((rP true (Ac true)) ({ Below := Ao (List Int) }))), (0, A.ref 147 []), (147, A.val ((rP true (Ak false)) (q20_147)))]
def O7 (r1 : Int) (_r14 : List Int) (q20_147 : Sl1Cur) : (List (Int × Int)) → Tgt
 | s => ((Ex.exit 4), [4, 3, 2, 0, 147], [(4, A.val ((slr true 2 (rA2 Ab)) s)), (3, A.val (Ab (r1))), (2, A.val ((rP true (Ac true)) ({ Below := Ao (List Int) }))), (0, A.ref 147 []), (147, A.val ((rP true (Ak false)) (q20_147)))])
theorem Abi {r1 : Int} {r14 : List Int} {q20_147 : Sl1Cur} (s : (Int × (List (Int × Int)))) (o : (Int × (List (Int × Int))) ⊕ (List (Int × Int))) (h : Dc r1 r14 q20_147 s = some o) : vc Try.prog Pf (Bp [8, 7, 4, 3, 2, 0, 147] (Jt r1 r14 q20_147) (O7 r1 r14 q20_147) o) (Jt r1 r14 q20_147 s) := by
 obtain ⟨x8, x4⟩ := s
 unfold Dc at h
 try dsimp only at h
 refine Len.map ?_
 refine Br.od h (fun p22 h => ?_) (fun p22 h => ?_)
 ·refine Len.map ?_
  refine Ask.o h fun p23 h => ?_
  refine Ask.mk (by decide) ?_
  refine Idx.lit ?_
  refine Cells.wide (by exact fun _ => ⟨rfl, rfl⟩) (by first | omega | (simp [Am] at *; omega)) (by decide) ?_
  refine Len.map ?_
  refine Ask.o h fun p24 h => ?_
  refine Cells.one (fun _ => ⟨rfl, rfl⟩) (by first | omega | (simp [Am] at *; omega)) ?_
  refine Len.map ?_
  refine Ask.o h fun p25 h => ?_
  refine Ask.mk (by decide) ?_
  refine Idx.lit ?_
  refine Cells.wide (by exact fun _ => ⟨rfl, rfl⟩) (by first | omega | (simp [Am] at *; omega)) (by decide) ?_
  refine Len.map ?_
  refine Ask.o h fun p26 h => ?_
  refine Cells.one (fun _ => ⟨rfl, rfl⟩) (by first | omega | (simp [Am] at *; omega)) ?_
  refine Len.map ?_
  refine Ask.o h fun p27 h => ?_
  refine SetKids.wide0 (by exact fun _ => ⟨rfl, rfl⟩) ((nth r14 (nth x4 x8.toNat).fst.toNat, nth r14 (nth x4 x8.toNat).snd.toNat)) (by first | omega | (simp [Am] at *; omega)) (by rfl) (by decide) ?_
  refine Ask.o h fun p28 h => ?_
  cases h; exact ⟨rfl, rfl⟩
 cases h; exact ⟨rfl, rfl⟩
noncomputable def Ev : (SPoset × Sl1Cur) → Option ((SPoset × Sl1Cur) ⊕ (SPoset × Sl1Cur)) := fun (x9, x147) =>
 (A5 (x147) ((2 : Int))).bind fun (r56, u57) =>
 ask (InI ((10 : Int) + r56)) <|
 if (↑x9.Below.length : Int) < (10 : Int) + r56 then
 ask ((x9.Below).length + ([[(↑x9.Below.length : Int)]]).length ≤ LIM) <|
 some (.inl ({ Below := x9.Below ++ [[(↑x9.Below.length : Int)]] }, u57))
 else
 some (.inr (x9, u57))
def J0 : (SPoset × Sl1Cur) → St := fun s => [(9, A.val ((rP true (Ac true)) s.1)), (2, A.val ((rP true (Ac true)) ({ Below := Ao (List Int) }))), (0, A.ref 147 []), (147, A.val ((rP true (Ak false)) s.2))]
def O6 : (SPoset × Sl1Cur) → Tgt
 | s => ((Ex.exit 7), [9, 2, 147], [(9, A.val ((rP true (Ac true)) s.1)), (2, A.val ((rP true (Ac true)) ({ Below := Ao (List Int) }))), (147, A.val ((rP true (Ak false)) s.2))])
theorem Aba (s : (SPoset × Sl1Cur)) (o : (SPoset × Sl1Cur) ⊕ (SPoset × Sl1Cur)) (h : Ev s = some o) : vc Try.prog Pk (Bp [9, 2, 0, 147] (J0) (O6) o) (J0 s) := by
 obtain ⟨x9, x147⟩ := s
 unfold Ev at h
 try dsimp only at h
 refine Cells.lit rfl rfl ?_
 refine Kid.lit rfl rfl ?_
 refine Len.map ?_
 refine LendP.io Ab (rP true (Ak false)) (by rfl) (fun _ => rfl) (fun _ => ⟨rfl, rfl⟩) (fun _ => rfl) h (fun r h => Bo h) (fun r56 u57 h => ?_)
 refine Ask.o h fun p58 h => ?_
 refine Br.od h (fun p59 h => ?_) (fun p59 h => ?_)
 ·refine Cells.lit rfl rfl ?_
  refine Cells.lit rfl rfl ?_
  refine Kid.lit rfl rfl ?_
  refine Len.map ?_
  refine BslQ.o Ab ([(↑x9.Below.length : Int)]) (by exact fun _ => ⟨rfl, rfl⟩) (by rfl) ?_
  refine BslQ.o (slr true 1 Ab) ([[(↑x9.Below.length : Int)]]) (by exact fun _ => ⟨rfl, rfl⟩) (by rfl) ?_
  refine NoOwn.own rfl ?_
  iterate 2 refine Kid.lit rfl rfl ?_
  refine SetKids.lit rfl ?_
  refine AppQ.o (m := 1) (slr true 1 Ab) (by exact fun _ => ⟨rfl, rfl⟩) (x9.Below) ([[(↑x9.Below.length : Int)]]) (by rfl) (by rfl) h fun h => ?_
  refine SetKids.lit rfl ?_
  cases h; exact ⟨rfl, rfl⟩
 cases h; exact ⟨rfl, rfl⟩
noncomputable def Gx (c0 : Sl1Cur) : Option (SPoset × Sl1Cur) :=
 (Cc (c0) ([(0 : Int), (1 : Int), (2 : Int), (3 : Int), (4 : Int), (4 : Int), (5 : Int), (5 : Int), (6 : Int), (7 : Int)])).bind fun (r1, u2) =>
 (Ai (Ez r1) ((0 : Int), Ao (Int × Int), u2)).bind fun (q13_4, q13_147) =>
 (((C6 (q13_147) (r1)).bind fun (r14, u15) =>
 (((H8 (r14) (r1)).bind fun r16 =>
 if (r16) = true then
 (Bn (u15) ((2 : Int))).bind fun (r18, u19) =>
 some (r18, u19)
 else
 some (false, u15) : Option (Bool × Sl1Cur))).bind fun (q20_44, q20_147) =>
 if (q20_44) = true then
 (Ai (Dc r1 r14 q20_147) ((0 : Int), q13_4)).bind fun q29_4 =>
 some (q29_4, q20_147)
 else
 some (q13_4, q20_147) : Option ((List (Int × Int)) × Sl1Cur))).bind fun (q30_4, q30_147) =>
 (A3 (r1) (q30_4)).bind fun r31 =>
 ((if r1 = (0 : Int) then
 some (.inl q30_147)
 else
 (Bn (q30_147) ((16 : Int))).bind fun (r33, u34) =>
 if (r33) = true then
 some (.inr u34)
 else
 some (.inl u34) : Option (Sl1Cur ⊕ Sl1Cur))).bind fun t => match t with
 | (.inl q36_147) => (some (r31, q36_147))
 | (.inr q36_147) => ((A5 (q36_147) (r1)).bind fun (r37, u38) =>
 (A5 (u38) ((4 : Int))).bind fun (r39, u40) =>
 if r39 = (0 : Int) then
 ask ((0 : Int) ≤ r37 ∧ r37 < (↑r31.Below.length : Int)) <|
 ask (0 ≤ (1 : Int) ∧ (1 : Int) ≤ (↑(nth r31.Below r37.toNat).length : Int) ∧ (↑(nth r31.Below r37.toNat).length : Int) ≤ (((nth r31.Below r37.toNat).length : Nat) : Int)) <|
 ask ((0 : Int) ≤ r37 ∧ r37 < (↑r31.Below.length : Int)) <|
 some ({ Below := r31.Below.set r37.toNat (List.take ((↑(nth r31.Below r37.toNat).length : Int).toNat - Int.toNat (1 : Int)) (List.drop (Int.toNat (1 : Int)) (nth r31.Below r37.toNat))) }, u40)
 else
 if r39 = (1 : Int) then
 ask ((0 : Int) ≤ r37 ∧ r37 < (↑r31.Below.length : Int)) <|
 ask ((0 : Int) ≤ r37 ∧ r37 < (↑r31.Below.length : Int)) <|
 ask ((0 : Int) ≤ r37 ∧ r37 < (↑r31.Below.length : Int)) <|
 ask ((nth r31.Below r37.toNat).length + ([r1]).length ≤ LIM) <|
 ask ((0 : Int) ≤ r37 ∧ r37 < (↑r31.Below.length : Int)) <|
 some ({ Below := r31.Below.set r37.toNat (nth r31.Below r37.toNat ++ [r1]) }, u40)
 else
 if r39 = (2 : Int) then
 ask ((0 : Int) ≤ r37 ∧ r37 < (↑r31.Below.length : Int)) <|
 (A5 (u40) (r1)).bind fun (r51, u52) =>
 (Hq (nth r31.Below r37.toNat) (r51)).bind fun r53 =>
 ask ((0 : Int) ≤ r37 ∧ r37 < (↑r31.Below.length : Int)) <|
 some ({ Below := r31.Below.set r37.toNat r53 }, u52)
 else
 if r39 = (3 : Int) then
 (Ai (Ev) (r31, u40)).bind fun (q60_9, q60_147) =>
 some (q60_9, q60_147)
 else
 some (r31, u40))
theorem Ags {c0 : Sl1Cur} {v : (SPoset × Sl1Cur)} (h : Gx c0 = some v) : Abw Try.prog M4 [(rP true (Ak false)) c0] ((Ac false) v.1) 0 ((rP true (Ak false)) v.2) := by
 refine Ajs Af6 (Nat.le_of_ble_eq_true rfl) ?_
 unfold Gx at h
 refine BslQ.o Ab ([(0 : Int), (1 : Int), (2 : Int), (3 : Int), (4 : Int), (4 : Int), (5 : Int), (5 : Int), (6 : Int), (7 : Int)]) (by exact fun _ => ⟨rfl, rfl⟩) (by rfl) ?_
 refine CallQ.io Ab (rP true (Ak false)) (by rfl) rfl (fun _ => rfl) (fun _ => ⟨rfl, rfl⟩) rfl h (fun r h => Gr h) (fun r1 u2 h => ?_)
 refine BslQ.o (rA2 Ab) (Ao (Int × Int)) (by exact fun _ => ⟨rfl, rfl⟩) (by rfl) ?_
 refine LoopQ.o [5, 4, 3, 2, 0, 147] (Jr r1) (Pp r1) h (fun s o h => Abd s o h) (by first | rfl | simp [restrict, look, Ad, V.fz, fzL, V.up, upL, Ae, Af, Ah, slr]) (fun _ => rfl) ?_
 rintro ⟨q13_4, q13_147⟩ h
 try dsimp only at h
 refine CutQ.o (fun t : ((List (Int × Int)) × Sl1Cur) => match t with | s => (Ex.normal, [4, 3, 2, 0, 147], [(4, A.val ((slr true 2 (rA2 Ab)) s.1)), (3, A.val (Ab (r1))), (2, A.val ((rP true (Ac true)) ({ Below := Ao (List Int) }))), (0, A.ref 147 []), (147, A.val ((rP true (Ak false)) s.2))])) h ?_ ?_
 ·intro t h
  refine CallQ.io (slr true 1 Ab) (rP true (Ak false)) (by rfl) rfl (fun _ => rfl) (fun _ => ⟨rfl, rfl⟩) rfl h (fun r h => Sq h) (fun r14 u15 h => ?_)
  refine CutQ.o (fun t : (Bool × Sl1Cur) => match t with | s => (Ex.normal, [44, 7, 4, 3, 2, 0, 147], [(44, A.val (V.bool s.1)), (7, A.val ((slr true 1 Ab) (r14))), (4, A.val ((slr true 2 (rA2 Ab)) (q13_4))), (3, A.val (Ab (r1))), (2, A.val ((rP true (Ac true)) ({ Below := Ao (List Int) }))), (0, A.ref 147 []), (147, A.val ((rP true (Ak false)) s.2))])) h ?_ ?_
  ·intro t h
   refine CallQ.rd V.bool (by first | rfl | simp only [V.fz, V.up, Ae, Ah, slr] | simp [Ad, V.fz, fzL, V.up, upL, Ae, Af, Ah, slr]) (fun _ => rfl) h (fun r h => Ae7 h) (fun r16 h => ?_)
   refine Br.ob h (fun p17 h => ?_) (fun p17 h => ?_)
   ·refine Br.yes ?_
    refine CallQ.io V.bool (rP true (Ak false)) (by rfl) rfl (fun _ => rfl) (fun _ => ⟨rfl, rfl⟩) rfl h (fun r h => Fe h) (fun r18 u19 h => ?_)
    refine Br.yes ?_
    cases h; exact ⟨rfl, rfl⟩
   iterate 2 refine Br.no ?_
   cases h; exact ⟨rfl, rfl⟩
  rintro ⟨q20_44, q20_147⟩ h
  try dsimp only at h
  refine Br.ob h (fun p21 h => ?_) (fun p21 h => ?_)
  ·refine LoopQ.o [8, 7, 4, 3, 2, 0, 147] (Jt r1 r14 q20_147) (O7 r1 r14 q20_147) h (fun s o h => Abi s o h) (by first | rfl | simp [restrict, look, Ad, V.fz, fzL, V.up, upL, Ae, Af, Ah, slr]) (fun _ => rfl) ?_
   rintro q29_4 h
   try dsimp only at h
   cases h; exact ⟨rfl, rfl⟩
  cases h; exact ⟨rfl, rfl⟩
 rintro ⟨q30_4, q30_147⟩ h
 try dsimp only at h
 refine CallQ.rd (Ac true) (by first | rfl | simp only [V.fz, V.up, Ae, Ah, slr] | simp [Ad, V.fz, fzL, V.up, upL, Ae, Af, Ah, slr]) (fun _ => by simp [V.noFz, Ba, Aq]) h (fun r h => Bq h) (fun r31 h => ?_)
 refine SetKids.lit rfl ?_
 refine CutQ.o (fun t : (Sl1Cur ⊕ Sl1Cur) => match t with | (.inl s) => (Ex.ret, [2, 147], [(2, A.val ((rP true (Ac true)) (r31))), (147, A.val ((rP true (Ak false)) s))]) | (.inr s) => (Ex.normal, [9, 3, 2, 0, 147], [(9, A.val ((rP true (Ac true)) (r31))), (3, A.val (Ab (r1))), (2, A.val ((rP true (Ac true)) ({ Below := Ao (List Int) }))), (0, A.ref 147 []), (147, A.val ((rP true (Ak false)) s))])) h ?_ ?_
 ·intro t h
  refine Br.oe h (fun p32 h => ?_) (fun p32 h => ?_)
  ·refine Br.yes ?_
   iterate 3 refine Br.yes ?_
   refine Cells.lit rfl rfl ?_
   refine SetKids.lit rfl ?_
   cases h; exact ⟨rfl, rfl⟩
  refine Br.no ?_
  refine CallQ.io V.bool (rP true (Ak false)) (by rfl) rfl (fun _ => rfl) (fun _ => ⟨rfl, rfl⟩) rfl h (fun r h => Fe h) (fun r33 u34 h => ?_)
  iterate 2 refine Br.no ?_
  refine Br.flip ?_
  refine Br.ob h (fun p35 h => ?_) (fun p35 h => ?_)
  ·cases h; exact ⟨rfl, rfl⟩
  refine Cells.lit rfl rfl ?_
  refine SetKids.lit rfl ?_
  cases h; exact ⟨rfl, rfl⟩
 rintro (q36_147 | q36_147) h
 ·try dsimp only at h
  cases h; exact ⟨(by first | rfl | simp only [Nr, V.fz, fzL, Ae, slr] | simp [Nr, Ad, V.fz, fzL, V.up, upL, Ae, Af, Ah, slr]), (by rfl)⟩
 try dsimp only at h
 refine CallQ.io Ab (rP true (Ak false)) (by rfl) rfl (fun _ => rfl) (fun _ => ⟨rfl, rfl⟩) rfl h (fun r h => Bo h) (fun r37 u38 h => ?_)
 refine CallQ.io Ab (rP true (Ak false)) (by rfl) rfl (fun _ => rfl) (fun _ => ⟨rfl, rfl⟩) rfl h (fun r h => Bo h) (fun r39 u40 h => ?_)
 refine Br.oe h (fun p41 h => ?_) (fun p41 h => ?_)
 ·refine FrzQ.d (V.ptr true (V.agg [V.sl true (1 : Nat) (List.map (slr false (1 : Nat) Ab) r31.Below)])) (by simp only [V.fzAt, Di, Qf, Ae]) ?_
  iterate 2 refine Cells.lit rfl rfl ?_
  refine Kid.lit rfl rfl ?_
  refine Len.map ?_
  refine Ask.o h fun p42 h => ?_
  refine Kid.lit rfl rfl ?_
  refine Cells.one (fun _ => ⟨rfl, rfl⟩) (by first | omega | (simp [Am] at *; omega)) ?_
  refine Len.map ?_
  refine SlcQ.o Ab h fun h => ?_
  refine Kid.lit rfl rfl ?_
  refine Len.map ?_
  refine Ask.o h fun p43 h => ?_
  refine Kid.lit rfl rfl ?_
  refine SetKids.one (fun _ => ⟨rfl, rfl⟩) (List.take ((↑(nth r31.Below r37.toNat).length : Int).toNat - Int.toNat (1 : Int)) (List.drop (Int.toNat (1 : Int)) (nth r31.Below r37.toNat))) (by rfl) (by first | omega | (simp [Am] at *; omega)) ?_
  refine Kid.lit rfl rfl ?_
  refine SetKids.lit rfl ?_
  refine Cells.lit rfl rfl ?_
  refine SetKids.lit rfl ?_
  cases h; exact ⟨(by first | rfl | simp only [Nr, Ad, V.fz, fzL, Ae] | simp [Nr, Ad, V.fz, fzL, V.up, upL, Ae, Af, Ah, slr]), (by rfl)⟩
 refine Br.oe h (fun p44 h => ?_) (fun p44 h => ?_)
 ·refine Cells.lit rfl rfl ?_
  refine Cells.lit rfl rfl ?_
  refine Kid.lit rfl rfl ?_
  refine Len.map ?_
  refine Ask.o h fun p45 h => ?_
  refine Kid.lit rfl rfl ?_
  refine Cells.one (fun _ => ⟨rfl, rfl⟩) (by first | omega | (simp [Am] at *; omega)) ?_
  refine SameQ.mk ⟨rfl, ?_⟩
  refine Cells.lit rfl rfl ?_
  iterate 3 refine SameQ.mk ⟨rfl, ?_⟩
  refine Cells.lit rfl rfl ?_
  iterate 2 refine SameQ.mk ⟨rfl, ?_⟩
  refine Kid.lit rfl rfl ?_
  refine Len.map ?_
  refine Ask.o h fun p46 h => ?_
  refine SameQ.mk ⟨rfl, ?_⟩
  refine Kid.lit rfl rfl ?_
  refine Cells.one (fun _ => ⟨rfl, rfl⟩) (by first | omega | (simp [Am] at *; omega)) ?_
  iterate 2 refine SameQ.mk ⟨rfl, ?_⟩
  refine BslQ.o Ab [r1] (by exact fun _ => ⟨rfl, rfl⟩) (by rfl) ?_
  refine SameQ.mk ⟨rfl, ?_⟩
  refine Cells.lit rfl rfl ?_
  iterate 3 refine SameQ.mk ⟨rfl, ?_⟩
  refine Cells.lit rfl rfl ?_
  iterate 2 refine SameQ.mk ⟨rfl, ?_⟩
  refine Kid.lit rfl rfl ?_
  refine Len.map ?_
  refine Ask.o h fun p47 h => ?_
  refine SameQ.mk ⟨rfl, ?_⟩
  refine Kid.lit rfl rfl ?_
  refine Cells.one (fun _ => ⟨rfl, rfl⟩) (by first | omega | (simp [Am] at *; omega)) ?_
  refine SameQ.mk ⟨rfl, ?_⟩
  refine NoOwn.o (fun _ => rfl) ?_
  refine Kid.lit rfl rfl ?_
  refine Kid.one (fun _ => ⟨rfl, rfl⟩) (by first | omega | (simp [Am] at *; omega)) ?_
  refine Kid.lit rfl rfl ?_
  refine Kid.one (fun _ => ⟨rfl, rfl⟩) (by first | omega | (simp [Am] at *; omega)) ?_
  refine SetKids.mkhole (fun _ => ⟨rfl, rfl⟩) (by first | omega | (simp [Am] at *; omega)) ?_
  refine SetKids.lit rfl ?_
  refine AppQ.o (m := 1) Ab (by exact fun _ => ⟨rfl, rfl⟩) (nth r31.Below r37.toNat) ([r1]) (by rfl) (by rfl) h fun h => ?_
  refine SameQ.mk ⟨rfl, ?_⟩
  refine Cells.lit rfl rfl ?_
  iterate 2 refine SameQ.mk ⟨rfl, ?_⟩
  refine Kid.lit rfl rfl ?_
  refine Len.hole ?_
  refine Ask.o h fun p48 h => ?_
  refine Kid.lit rfl rfl ?_
  refine SetKids.fill (fun _ => ⟨rfl, rfl⟩) (nth r31.Below r37.toNat ++ [r1]) (by rfl) (by first | omega | (simp [Am] at *; omega)) ?_
  refine Kid.lit rfl rfl ?_
  refine SetKids.lit rfl ?_
  refine Cells.lit rfl rfl ?_
  refine SetKids.lit rfl ?_
  cases h; exact ⟨(by first | rfl | simp only [Nr, Ad, V.fz, fzL, Ae] | simp [Nr, Ad, V.fz, fzL, V.up, upL, Ae, Af, Ah, slr]), (by rfl)⟩
 refine Br.oe h (fun p49 h => ?_) (fun p49 h => ?_)
 ·refine FrzQ.d (V.ptr true (V.agg [V.sl true (1 : Nat) (List.map (slr false (1 : Nat) Ab) r31.Below)])) (by simp only [V.fzAt, Di, Qf, Ae]) ?_
  iterate 2 refine Cells.lit rfl rfl ?_
  refine Kid.lit rfl rfl ?_
  refine Len.map ?_
  refine Ask.o h fun p50 h => ?_
  refine Kid.lit rfl rfl ?_
  refine Cells.one (fun _ => ⟨rfl, rfl⟩) (by first | omega | (simp [Am] at *; omega)) ?_
  refine LendP.io Ab (rP true (Ak false)) (by rfl) (fun _ => rfl) (fun _ => ⟨rfl, rfl⟩) (fun _ => rfl) h (fun r h => Bo h) (fun r51 u52 h => ?_)
  refine CallP.o (slr false 1 Ab) (by rfl) h (fun r h => S3 h) (fun r53 h => ?_)
  refine Kid.lit rfl rfl ?_
  refine Len.map ?_
  refine Ask.o h fun p54 h => ?_
  refine Kid.lit rfl rfl ?_
  refine SetKids.one (fun _ => ⟨rfl, rfl⟩) (r53) (by rfl) (by first | omega | (simp [Am] at *; omega)) ?_
  refine Kid.lit rfl rfl ?_
  refine SetKids.lit rfl ?_
  refine Cells.lit rfl rfl ?_
  refine SetKids.lit rfl ?_
  cases h; exact ⟨(by first | rfl | simp only [Nr, Ad, V.fz, fzL, Ae] | simp [Nr, Ad, V.fz, fzL, V.up, upL, Ae, Af, Ah, slr]), (by rfl)⟩
 refine Br.oe h (fun p55 h => ?_) (fun p55 h => ?_)
 ·refine LoopQ.o [9, 2, 0, 147] (J0) (O6) h (fun s o h => Aba s o h) (by first | rfl | simp [restrict, look, Ad, V.fz, fzL, V.up, upL, Ae, Af, Ah, slr]) (fun _ => rfl) ?_
  rintro ⟨q60_9, q60_147⟩ h
  try dsimp only at h
  refine Cells.lit rfl rfl ?_
  refine SetKids.lit rfl ?_
  cases h; exact ⟨(by first | rfl | simp only [Nr, V.fz, fzL, Ae, slr] | simp [Nr, Ad, V.fz, fzL, V.up, upL, Ae, Af, Ah, slr]), (by rfl)⟩
 refine Cells.lit rfl rfl ?_
 refine SetKids.lit rfl ?_
 cases h; exact ⟨(by first | rfl | simp only [Nr, V.fz, fzL, Ae, slr] | simp [Nr, Ad, V.fz, fzL, V.up, upL, Ae, Af, Ah, slr]), (by rfl)⟩
noncomputable def Dk (p0 : SPoset) (x4 : Int) : (Int × (List (Int × Int))) → Option ((Int × (List (Int × Int))) ⊕ (List (Int × Int))) := fun (x5, x3') =>
 if x5 < (↑p0.Below.length : Int) then
 (In (p0) (x4) (x5)).bind fun r3 =>
 if (r3) = true then
 ask ((x3').length + ([(x4, x5)]).length ≤ LIM) <|
 ask (InI (x5 + (1 : Int))) <|
 some (.inl (x5 + (1 : Int), x3' ++ [(x4, x5)]))
 else
 ask (InI (x5 + (1 : Int))) <|
 some (.inl (x5 + (1 : Int), x3'))
 else
 some (.inr x3')
def Mr (p0 : SPoset) (x4 : Int) : (Int × (List (Int × Int))) → St := fun s => [(5, A.val (Ab s.1)), (4, A.val (Ab (x4))), (3, A.val ((slr true 2 (rA2 Ab)) s.2)), (1, A.val ((rP true (Ac false)) (p0)))]
def Uh (p0 : SPoset) (x4 : Int) : (List (Int × Int)) → Tgt
 | s => ((Ex.exit 2), [4, 3, 1], [(4, A.val (Ab (x4))), (3, A.val ((slr true 2 (rA2 Ab)) s)), (1, A.val ((rP true (Ac false)) (p0)))])
theorem Agj {p0 : SPoset} {x4 : Int} (s : (Int × (List (Int × Int)))) (o : (Int × (List (Int × Int))) ⊕ (List (Int × Int))) (h : Dk p0 x4 s = some o) : vc Try.prog Ur (Bp [5, 4, 3, 1] (Mr p0 x4) (Uh p0 x4) o) (Mr p0 x4 s) := by
 obtain ⟨x5, x3'⟩ := s
 unfold Dk at h
 try dsimp only at h
 refine Cells.lit rfl rfl ?_
 refine Len.map ?_
 refine Br.od h (fun p2 h => ?_) (fun p2 h => ?_)
 ·refine Cells.lit rfl rfl ?_
  refine CallQ.o V.bool (by rfl) h (fun r h => Aj6 h) (fun r3 h => ?_)
  refine Br.ob h (fun p4 h => ?_) (fun p4 h => ?_)
  ·refine BslQ.o (rA2 Ab) ([(x4, x5)]) (by exact fun _ => ⟨rfl, rfl⟩) (by rfl) ?_
   refine NoOwn.o (fun _ => rfl) ?_
   refine AppQ.o (m := 2) (rA2 Ab) (by exact fun _ => ⟨rfl, rfl⟩) (x3') ([(x4, x5)]) (by rfl) (by rfl) h fun h => ?_
   refine Ask.o h fun p5 h => ?_
   cases h; exact ⟨rfl, rfl⟩
  refine Ask.o h fun p6 h => ?_
  cases h; exact ⟨rfl, rfl⟩
 cases h; exact ⟨rfl, rfl⟩
noncomputable def Do (p0 : SPoset) : (Int × (List (Int × Int))) → Option ((Int × (List (Int × Int))) ⊕ (List (Int × Int))) := fun (x4, x3) =>
 if x4 < (↑p0.Below.length : Int) then
 (Ai (Dk p0 x4) ((0 : Int), x3)).bind fun q7_3 =>
 ask (InI (x4 + (1 : Int))) <|
 some (.inl (x4 + (1 : Int), q7_3))
 else
 some (.inr x3)
def Mu (p0 : SPoset) : (Int × (List (Int × Int))) → St := fun s => [(4, A.val (Ab s.1)), (3, A.val ((slr true 2 (rA2 Ab)) s.2)), (1, A.val ((rP true (Ac false)) (p0)))]
def Tp (_p0 : SPoset) : (List (Int × Int)) → Tgt
 | s => ((Ex.exit 0), [3], [(3, A.val ((slr true 2 (rA2 Ab)) s))])
theorem Afy {p0 : SPoset} (s : (Int × (List (Int × Int)))) (o : (Int × (List (Int × Int))) ⊕ (List (Int × Int))) (h : Do p0 s = some o) : vc Try.prog Um (Bp [4, 3, 1] (Mu p0) (Tp p0) o) (Mu p0 s) := by
 obtain ⟨x4, x3⟩ := s
 unfold Do at h
 try dsimp only at h
 refine Cells.lit rfl rfl ?_
 refine Len.map ?_
 refine Br.od h (fun p1 h => ?_) (fun p1 h => ?_)
 ·refine LoopQ.o [5, 4, 3, 1] (Mr p0 x4) (Uh p0 x4) h (fun s o h => Agj s o h) (by first | rfl | simp [restrict, look, Ad, V.fz, fzL, V.up, upL, Ae, Af, Ah, slr]) (fun _ => rfl) ?_
  rintro q7_3 h
  try dsimp only at h
  refine Ask.o h fun p8 h => ?_
  cases h; exact ⟨rfl, rfl⟩
 cases h; exact ⟨rfl, rfl⟩
noncomputable def Je (p0 : SPoset) : Option (List (Int × Int)) :=
 (Ai (Do p0) ((0 : Int), Ao (Int × Int))).bind fun q9_3 =>
 some q9_3
theorem Amy {p0 : SPoset} {v : (List (Int × Int))} (h : Je p0 = some v) : Ret Try.prog Se [(Ac false) p0] ((slr true 2 (rA2 Ab)) v) := by
 refine Av Amd (Nat.le_of_ble_eq_true rfl) ?_
 unfold Je at h
 refine BslQ.o (rA2 Ab) (Ao (Int × Int)) (by exact fun _ => ⟨rfl, rfl⟩) (by rfl) ?_
 refine LoopQ.o [4, 3, 1] (Mu p0) (Tp p0) h (fun s o h => Afy s o h) (by first | rfl | simp [restrict, look, Ad, V.fz, fzL, V.up, upL, Ae, Af, Ah, slr]) (fun _ => rfl) ?_
 rintro q9_3 h
 try dsimp only at h
 cases h; exact (by rfl)
end Go.Proofs.Ytoikbcagaanhgaa.Ax
