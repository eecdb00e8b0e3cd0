/-
 What the functions compute, as functions on plain data, and that the program does compute it; written by program.
-/
import Derived.Test.YtoikbcagaanhgaaCode
import Derived.Test.YtoikbcagaanhgaaG1
import Derived.Test.YtoikbcagaanhgaaG2
import Derived.Test.YtoikbcagaanhgaaG3
import Derived.Test.YtoikbcagaanhgaaG4
namespace Go.Proofs.Ytoikbcagaanhgaa.Ax
open Go
set_option maxRecDepth 100000
set_option maxHeartbeats 4000000
noncomputable def Dt (o0 : (List (List Bool))) (list0 : (List Int)) : Option Bool :=
 (Gg (list0) ((↑o0.length : Int))).bind fun r1 =>
 some r1
theorem P1 {o0 : (List (List Bool))} {list0 : (List Int)} {v : Bool} (h : Dt o0 list0 = some v) : Ret Try.prog Ii [(slr false 1 (slr false 1 V.bool)) o0, (slr false 1 Ab) list0] (V.bool v) := by
 refine Av Akz (Nat.le_of_ble_eq_true rfl) ?_
 unfold Dt at h
 refine Len.map ?_
 refine CallQ.o V.bool (by rfl) h (fun r h => Qq h) (fun r1 h => ?_)
 cases h; exact (by rfl)
noncomputable def B3 (o0 : List (List Bool)) (list0 : List Int) (x15 : Int) : (Int × (List (List Bool))) → Option ((Int × (List (List Bool))) ⊕ (List (List Bool))) := fun (x22, x5') =>
 if x22 < (↑list0.length : Int) then
 ask ((0 : Int) ≤ x22 ∧ x22 < (↑list0.length : Int)) <|
 ask ((0 : Int) ≤ x15 ∧ x15 < (↑x5'.length : Int)) <|
 ask ((0 : Int) ≤ nth list0 x15.toNat ∧ nth list0 x15.toNat < (↑o0.length : Int)) <|
 ask ((0 : Int) ≤ nth list0 x22.toNat ∧ nth list0 x22.toNat < (↑(nth o0 (nth list0 x15.toNat).toNat).length : Int)) <|
 ask ((0 : Int) ≤ x22 ∧ x22 < (↑(nth x5' x15.toNat).length : Int)) <|
 ask (InI (x22 + (1 : Int))) <|
 some (.inl (x22 + (1 : Int), x5'.set x15.toNat ((nth x5' x15.toNat).set x22.toNat (nth (nth o0 (nth list0 x15.toNat).toNat) (nth list0 x22.toNat).toNat))))
 else
 some (.inr x5')
def H6 (o0 : List (List Bool)) (list0 : List Int) (x15 : Int) : (Int × (List (List Bool))) → St := fun s => [(22, A.val (Ab s.1)), (21, A.val (Ab ((↑list0.length : Int)))), (20, A.val ((slr false 1 Ab) (list0))), (7, A.val (Ab (nth list0 x15.toNat))), (6, A.val (Ab (x15))), (15, A.val (Ab (x15))), (14, A.val (Ab ((↑list0.length : Int)))), (13, A.val ((slr false 1 Ab) (list0))), (5, A.val ((slr true 1 (slr true 1 V.bool)) s.2)), (0, A.val ((slr false 1 (slr false 1 V.bool)) (o0))), (1, A.val ((slr false 1 Ab) (list0)))]
def L1 (o0 : List (List Bool)) (list0 : List Int) (x15 : Int) : (List (List Bool)) → Tgt
 | s => ((Ex.exit 2), [15, 14, 13, 5, 0, 1], [(15, A.val (Ab (x15))), (14, A.val (Ab ((↑list0.length : Int)))), (13, A.val ((slr false 1 Ab) (list0))), (5, A.val ((slr true 1 (slr true 1 V.bool)) s)), (0, A.val ((slr false 1 (slr false 1 V.bool)) (o0))), (1, A.val ((slr false 1 Ab) (list0)))])
theorem Xf {o0 : List (List Bool)} {list0 : List Int} {x15 : Int} (s : (Int × (List (List Bool)))) (o : (Int × (List (List Bool))) ⊕ (List (List Bool))) (h : B3 o0 list0 x15 s = some o) : vc Try.prog Ma (Bp [22, 21, 20, 7, 6, 15, 14, 13, 5, 0, 1] (H6 o0 list0 x15) (L1 o0 list0 x15) o) (H6 o0 list0 x15 s) := by
 obtain ⟨x22, x5'⟩ := s
 unfold B3 at h
 try dsimp only at h
 refine Br.od h (fun p4 h => ?_) (fun p4 h => ?_)
 ·refine Len.map ?_
  refine Ask.o h fun p5 h => ?_
  refine Elem.o (by first | omega | (simp [Am] at *; omega)) ?_
  refine Len.map ?_
  refine Ask.o h fun p6 h => ?_
  refine Cells.one (fun _ => ⟨rfl, rfl⟩) (by first | omega | (simp [Am] at *; omega)) ?_
  refine Len.map ?_
  refine Ask.o h fun p7 h => ?_
  refine Elem.o (by first | omega | (simp [Am] at *; omega)) ?_
  refine Len.map ?_
  refine Ask.o h fun p8 h => ?_
  refine Elem.o (by first | omega | (simp [Am] at *; omega)) ?_
  refine Kid.one (fun _ => ⟨rfl, rfl⟩) (by first | omega | (simp [Am] at *; omega)) ?_
  refine Len.map ?_
  refine Ask.o h fun p9 h => ?_
  refine Kid.one (fun _ => ⟨rfl, rfl⟩) (by first | omega | (simp [Am] at *; omega)) ?_
  refine SetKids.one (fun _ => ⟨rfl, rfl⟩) (nth (nth o0 (nth list0 x15.toNat).toNat) (nth list0 x22.toNat).toNat) (by rfl) (by first | omega | (simp [Am] at *; omega)) ?_
  refine Kid.one (fun _ => ⟨rfl, rfl⟩) (by first | omega | (simp [Am] at *; omega)) ?_
  refine SetKids.one (fun _ => ⟨rfl, rfl⟩) ((nth x5' x15.toNat).set x22.toNat (nth (nth o0 (nth list0 x15.toNat).toNat) (nth list0 x22.toNat).toNat)) (by rfl) (by first | omega | (simp [Am] at *; omega)) ?_
  refine Ask.o h fun p10 h => ?_
  cases h; exact ⟨rfl, rfl⟩
 cases h; exact ⟨rfl, rfl⟩
noncomputable def Ch (o0 : List (List Bool)) (list0 : List Int) : (Int × (List (List Bool))) → Option ((Int × (List (List Bool))) ⊕ (List (List Bool))) := fun (x15, x5) =>
 if x15 < (↑list0.length : Int) then
 ask ((0 : Int) ≤ x15 ∧ x15 < (↑list0.length : Int)) <|
 (Ai (B3 o0 list0 x15) ((0 : Int), x5)).bind fun q11_5 =>
 ask (InI (x15 + (1 : Int))) <|
 some (.inl (x15 + (1 : Int), q11_5))
 else
 some (.inr x5)
def H7 (o0 : List (List Bool)) (list0 : List Int) : (Int × (List (List Bool))) → St := fun s => [(15, A.val (Ab s.1)), (14, A.val (Ab ((↑list0.length : Int)))), (13, A.val ((slr false 1 Ab) (list0))), (5, A.val ((slr true 1 (slr true 1 V.bool)) s.2)), (0, A.val ((slr false 1 (slr false 1 V.bool)) (o0))), (1, A.val ((slr false 1 Ab) (list0)))]
def Mg (_o0 : List (List Bool)) (_list0 : List Int) : (List (List Bool)) → Tgt
 | s => ((Ex.exit 0), [5], [(5, A.val ((slr true 1 (slr true 1 V.bool)) s))])
theorem W9 {o0 : List (List Bool)} {list0 : List Int} (s : (Int × (List (List Bool)))) (o : (Int × (List (List Bool))) ⊕ (List (List Bool))) (h : Ch o0 list0 s = some o) : vc Try.prog Me (Bp [15, 14, 13, 5, 0, 1] (H7 o0 list0) (Mg o0 list0) o) (H7 o0 list0 s) := by
 obtain ⟨x15, x5⟩ := s
 unfold Ch at h
 try dsimp only at h
 refine Br.od h (fun p2 h => ?_) (fun p2 h => ?_)
 ·refine Len.map ?_
  refine Ask.o h fun p3 h => ?_
  refine Elem.o (by first | omega | (simp [Am] at *; omega)) ?_
  refine Len.map ?_
  refine LoopQ.o [22, 21, 20, 7, 6, 15, 14, 13, 5, 0, 1] (H6 o0 list0 x15) (L1 o0 list0 x15) h (fun s o h => Xf s o h) (by first | rfl | simp [restrict, look, Ad, V.fz, fzL, V.up, upL, Ae, Af, Ah, slr]) (fun _ => rfl) ?_
  rintro q11_5 h
  try dsimp only at h
  refine Ask.o h fun p12 h => ?_
  cases h; exact ⟨rfl, rfl⟩
 cases h; exact ⟨rfl, rfl⟩
noncomputable def E1 (o0 : (List (List Bool))) (list0 : (List Int)) : Option (List (List Bool)) :=
 (F0 ((↑list0.length : Int))).bind fun r1 =>
 (Ai (Ch o0 list0) ((0 : Int), r1)).bind fun q13_5 =>
 some q13_5
theorem Aa2 {o0 : (List (List Bool))} {list0 : (List Int)} {v : (List (List Bool))} (h : E1 o0 list0 = some v) : Ret Try.prog Js [(slr false 1 (slr false 1 V.bool)) o0, (slr false 1 Ab) list0] ((slr true 1 (slr true 1 V.bool)) v) := by
 refine Av Abm (Nat.le_of_ble_eq_true rfl) ?_
 unfold E1 at h
 refine Len.map ?_
 refine CallQ.o (slr true 1 (slr true 1 V.bool)) (by rfl) h (fun r h => Sf h) (fun r1 h => ?_)
 refine Len.map ?_
 refine LoopQ.o [15, 14, 13, 5, 0, 1] (H7 o0 list0) (Mg o0 list0) h (fun s o h => W9 s o h) (by first | rfl | simp [restrict, look, Ad, V.fz, fzL, V.up, upL, Ae, Af, Ah, slr]) (fun _ => rfl) ?_
 rintro q13_5 h
 try dsimp only at h
 cases h; exact (by rfl)
noncomputable def Gk (p0 : SPoset) (x0 : Int) (y0 : Int) : Option Bool :=
 ask ((0 : Int) ≤ y0 ∧ y0 < (↑p0.Below.length : Int)) <|
 (Hp (nth p0.Below y0.toNat) (x0)).bind fun r2 =>
 some r2
theorem Qo {p0 : SPoset} {x0 : Int} {y0 : Int} {v : Bool} (h : Gk p0 x0 y0 = some v) : Ret Try.prog Jk [(Ac false) p0, Ab x0, Ab y0] (V.bool v) := by
 refine Av Aqd (Nat.le_of_ble_eq_true rfl) ?_
 unfold Gk at h
 refine Cells.lit rfl rfl ?_
 refine Len.map ?_
 refine Ask.o h fun p1 h => ?_
 refine Elem.o (by first | omega | (simp [Am] at *; omega)) ?_
 refine CallQ.o V.bool (by rfl) h (fun r h => S0 h) (fun r2 h => ?_)
 cases h; exact (by rfl)
noncomputable def Bj (l0 : Slattice) (r3 : List Int) (x26 : Int) (x32 : Int) : (Int × Bool × (List Bool)) → Option ((Int × Bool × (List Bool)) ⊕ (Bool × (List Bool))) := fun (x58, x6''', x5''') =>
 if x58 < (↑[nth (nth l0.meets (nth r3 x26.toNat).toNat) (nth r3 x32.toNat).toNat, nth (nth l0.joins (nth r3 x26.toNat).toNat) (nth r3 x32.toNat).toNat].length : Int) then
 ask ((0 : Int) ≤ x58 ∧ x58 < (↑[nth (nth l0.meets (nth r3 x26.toNat).toNat) (nth r3 x32.toNat).toNat, nth (nth l0.joins (nth r3 x26.toNat).toNat) (nth r3 x32.toNat).toNat].length : Int)) <|
 if (x6''') = true then
 ask ((0 : Int) ≤ nth [nth (nth l0.meets (nth r3 x26.toNat).toNat) (nth r3 x32.toNat).toNat, nth (nth l0.joins (nth r3 x26.toNat).toNat) (nth r3 x32.toNat).toNat] x58.toNat ∧ nth [nth (nth l0.meets (nth r3 x26.toNat).toNat) (nth r3 x32.toNat).toNat, nth (nth l0.joins (nth r3 x26.toNat).toNat) (nth r3 x32.toNat).toNat] x58.toNat < (↑x5'''.length : Int)) <|
 ask (InI (x58 + (1 : Int))) <|
 some (.inl (x58 + (1 : Int), true, x5'''.set (nth [nth (nth l0.meets (nth r3 x26.toNat).toNat) (nth r3 x32.toNat).toNat, nth (nth l0.joins (nth r3 x26.toNat).toNat) (nth r3 x32.toNat).toNat] x58.toNat).toNat true))
 else
 ask ((0 : Int) ≤ nth [nth (nth l0.meets (nth r3 x26.toNat).toNat) (nth r3 x32.toNat).toNat, nth (nth l0.joins (nth r3 x26.toNat).toNat) (nth r3 x32.toNat).toNat] x58.toNat ∧ nth [nth (nth l0.meets (nth r3 x26.toNat).toNat) (nth r3 x32.toNat).toNat, nth (nth l0.joins (nth r3 x26.toNat).toNat) (nth r3 x32.toNat).toNat] x58.toNat < (↑x5'''.length : Int)) <|
 ask ((0 : Int) ≤ nth [nth (nth l0.meets (nth r3 x26.toNat).toNat) (nth r3 x32.toNat).toNat, nth (nth l0.joins (nth r3 x26.toNat).toNat) (nth r3 x32.toNat).toNat] x58.toNat ∧ nth [nth (nth l0.meets (nth r3 x26.toNat).toNat) (nth r3 x32.toNat).toNat, nth (nth l0.joins (nth r3 x26.toNat).toNat) (nth r3 x32.toNat).toNat] x58.toNat < (↑x5'''.length : Int)) <|
 ask (InI (x58 + (1 : Int))) <|
 some (.inl (x58 + (1 : Int), !nth x5''' (nth [nth (nth l0.meets (nth r3 x26.toNat).toNat) (nth r3 x32.toNat).toNat, nth (nth l0.joins (nth r3 x26.toNat).toNat) (nth r3 x32.toNat).toNat] x58.toNat).toNat, x5'''.set (nth [nth (nth l0.meets (nth r3 x26.toNat).toNat) (nth r3 x32.toNat).toNat, nth (nth l0.joins (nth r3 x26.toNat).toNat) (nth r3 x32.toNat).toNat] x58.toNat).toNat true))
 else
 some (.inr (x6''', x5'''))
def F8 (l0 : Slattice) (r3 : List Int) (x26 : Int) (x32 : Int) : (Int × Bool × (List Bool)) → St := fun s => [(56, A.val ((slr true 1 Ab) ([nth (nth l0.meets (nth r3 x26.toNat).toNat) (nth r3 x32.toNat).toNat, nth (nth l0.joins (nth r3 x26.toNat).toNat) (nth r3 x32.toNat).toNat]))), (57, A.val (Ab ((↑[nth (nth l0.meets (nth r3 x26.toNat).toNat) (nth r3 x32.toNat).toNat, nth (nth l0.joins (nth r3 x26.toNat).toNat) (nth r3 x32.toNat).toNat].length : Int)))), (58, A.val (Ab s.1)), (32, A.val (Ab (x32))), (31, A.val (Ab ((↑r3.length : Int)))), (30, A.ref 7 []), (9, A.val (Ab (nth r3 x26.toNat))), (26, A.val (Ab (x26))), (25, A.val (Ab ((↑r3.length : Int)))), (24, A.ref 7 []), (7, A.val ((slr true 1 Ab) (r3))), (6, A.val (V.bool s.2.1)), (5, A.val ((slr true 1 V.bool) s.2.2)), (0, A.val ((rP false (Bb false)) (l0)))]
def J7 (l0 : Slattice) (r3 : List Int) (x26 : Int) (x32 : Int) : (Bool × (List Bool)) → Tgt
 | s => ((Ex.exit 6), [32, 31, 30, 9, 26, 25, 24, 7, 6, 5, 0], [(32, A.val (Ab (x32))), (31, A.val (Ab ((↑r3.length : Int)))), (30, A.ref 7 []), (9, A.val (Ab (nth r3 x26.toNat))), (26, A.val (Ab (x26))), (25, A.val (Ab ((↑r3.length : Int)))), (24, A.ref 7 []), (7, A.val ((slr true 1 Ab) (r3))), (6, A.val (V.bool s.1)), (5, A.val ((slr true 1 V.bool) s.2)), (0, A.val ((rP false (Bb false)) (l0)))])
theorem Tb {l0 : Slattice} {r3 : List Int} {x26 : Int} {x32 : Int} (s : (Int × Bool × (List Bool))) (o : (Int × Bool × (List Bool)) ⊕ (Bool × (List Bool))) (h : Bj l0 r3 x26 x32 s = some o) : vc Try.prog J9 (Bp [56, 57, 58, 32, 31, 30, 9, 26, 25, 24, 7, 6, 5, 0] (F8 l0 r3 x26 x32) (J7 l0 r3 x26 x32) o) (F8 l0 r3 x26 x32 s) := by
 obtain ⟨x58, x6''', x5'''⟩ := s
 unfold Bj at h
 try dsimp only at h
 refine Br.od h (fun p12 h => ?_) (fun p12 h => ?_)
 ·refine Len.map ?_
  refine Ask.o h fun p13 h => ?_
  refine Cells.one (fun _ => ⟨rfl, rfl⟩) (by first | omega | (simp [Am] at *; omega)) ?_
  refine Br.ob h (fun p14 h => ?_) (fun p14 h => ?_)
  ·refine Br.yes ?_
   iterate 4 refine Br.yes ?_
   refine Len.map ?_
   refine Ask.o h fun p15 h => ?_
   refine SetKids.one (fun _ => ⟨rfl, rfl⟩) (true) (by rfl) (by first | omega | (simp [Am] at *; omega)) ?_
   refine Ask.o h fun p16 h => ?_
   cases h; exact ⟨rfl, rfl⟩
  iterate 2 refine Br.no ?_
  refine Len.map ?_
  refine Ask.o h fun p17 h => ?_
  refine Br.no ?_
  refine Cells.one (fun _ => ⟨rfl, rfl⟩) (by first | omega | (simp [Am] at *; omega)) ?_
  iterate 2 refine Br.no ?_
  refine Len.map ?_
  refine Ask.o h fun p18 h => ?_
  refine SetKids.one (fun _ => ⟨rfl, rfl⟩) (true) (by rfl) (by first | omega | (simp [Am] at *; omega)) ?_
  refine Ask.o h fun p19 h => ?_
  cases h; exact ⟨rfl, rfl⟩
 cases h; exact ⟨rfl, rfl⟩
noncomputable def Bl (l0 : Slattice) (r3 : List Int) (x26 : Int) : (Int × Bool × (List Bool)) → Option ((Int × Bool × (List Bool)) ⊕ (Bool × (List Bool))) := fun (x32, x6'', x5'') =>
 if x32 < (↑r3.length : Int) then
 ask ((0 : Int) ≤ x32 ∧ x32 < (↑r3.length : Int)) <|
 ask ((0 : Int) ≤ nth r3 x26.toNat ∧ nth r3 x26.toNat < (↑l0.meets.length : Int)) <|
 ask ((0 : Int) ≤ nth r3 x32.toNat ∧ nth r3 x32.toNat < (↑(nth l0.meets (nth r3 x26.toNat).toNat).length : Int)) <|
 ask ((0 : Int) ≤ nth r3 x26.toNat ∧ nth r3 x26.toNat < (↑l0.joins.length : Int)) <|
 ask ((0 : Int) ≤ nth r3 x32.toNat ∧ nth r3 x32.toNat < (↑(nth l0.joins (nth r3 x26.toNat).toNat).length : Int)) <|
 (Ai (Bj l0 r3 x26 x32) ((0 : Int), x6'', x5'')).bind fun (q20_6, q20_5) =>
 ask (InI (x32 + (1 : Int))) <|
 some (.inl (x32 + (1 : Int), q20_6, q20_5))
 else
 some (.inr (x6'', x5''))
def Ge (l0 : Slattice) (r3 : List Int) (x26 : Int) : (Int × Bool × (List Bool)) → St := fun s => [(32, A.val (Ab s.1)), (31, A.val (Ab ((↑r3.length : Int)))), (30, A.ref 7 []), (9, A.val (Ab (nth r3 x26.toNat))), (26, A.val (Ab (x26))), (25, A.val (Ab ((↑r3.length : Int)))), (24, A.ref 7 []), (7, A.val ((slr true 1 Ab) (r3))), (6, A.val (V.bool s.2.1)), (5, A.val ((slr true 1 V.bool) s.2.2)), (0, A.val ((rP false (Bb false)) (l0)))]
def J8 (l0 : Slattice) (r3 : List Int) (x26 : Int) : (Bool × (List Bool)) → Tgt
 | s => ((Ex.exit 4), [26, 25, 24, 7, 6, 5, 0], [(26, A.val (Ab (x26))), (25, A.val (Ab ((↑r3.length : Int)))), (24, A.ref 7 []), (7, A.val ((slr true 1 Ab) (r3))), (6, A.val (V.bool s.1)), (5, A.val ((slr true 1 V.bool) s.2)), (0, A.val ((rP false (Bb false)) (l0)))])
theorem Sx {l0 : Slattice} {r3 : List Int} {x26 : Int} (s : (Int × Bool × (List Bool))) (o : (Int × Bool × (List Bool)) ⊕ (Bool × (List Bool))) (h : Bl l0 r3 x26 s = some o) : vc Try.prog J4 (Bp [32, 31, 30, 9, 26, 25, 24, 7, 6, 5, 0] (Ge l0 r3 x26) (J8 l0 r3 x26) o) (Ge l0 r3 x26 s) := by
 obtain ⟨x32, x6'', x5''⟩ := s
 unfold Bl at h
 try dsimp only at h
 refine Br.od h (fun p6 h => ?_) (fun p6 h => ?_)
 ·refine Len.map ?_
  refine Ask.o h fun p7 h => ?_
  refine Cells.one (fun _ => ⟨rfl, rfl⟩) (by first | omega | (simp [Am] at *; omega)) ?_
  refine Len.map ?_
  refine Ask.o h fun p8 h => ?_
  refine Elem.o (by first | omega | (simp [Am] at *; omega)) ?_
  refine Len.map ?_
  refine Ask.o h fun p9 h => ?_
  refine Elem.o (by first | omega | (simp [Am] at *; omega)) ?_
  refine Len.map ?_
  refine Ask.o h fun p10 h => ?_
  refine Elem.o (by first | omega | (simp [Am] at *; omega)) ?_
  refine Len.map ?_
  refine Ask.o h fun p11 h => ?_
  refine Elem.o (by first | omega | (simp [Am] at *; omega)) ?_
  refine BslQ.o Ab ([nth (nth l0.meets (nth r3 x26.toNat).toNat) (nth r3 x32.toNat).toNat, nth (nth l0.joins (nth r3 x26.toNat).toNat) (nth r3 x32.toNat).toNat]) (by exact fun _ => ⟨rfl, rfl⟩) (by rfl) ?_
  refine Len.map ?_
  refine LoopQ.o [56, 57, 58, 32, 31, 30, 9, 26, 25, 24, 7, 6, 5, 0] (F8 l0 r3 x26 x32) (J7 l0 r3 x26 x32) h (fun s o h => Tb s o h) (by first | rfl | simp [restrict, look, Ad, V.fz, fzL, V.up, upL, Ae, Af, Ah, slr]) (fun _ => rfl) ?_
  rintro ⟨q20_6, q20_5⟩ h
  try dsimp only at h
  refine Ask.o h fun p21 h => ?_
  cases h; exact ⟨rfl, rfl⟩
 cases h; exact ⟨rfl, rfl⟩
noncomputable def Bk (l0 : Slattice) (r3 : List Int) : (Int × Bool × (List Bool)) → Option ((Int × Bool × (List Bool)) ⊕ (Bool × (List Bool))) := fun (x26, x6', x5') =>
 if x26 < (↑r3.length : Int) then
 ask ((0 : Int) ≤ x26 ∧ x26 < (↑r3.length : Int)) <|
 (Ai (Bl l0 r3 x26) ((0 : Int), x6', x5')).bind fun (q22_6, q22_5) =>
 ask (InI (x26 + (1 : Int))) <|
 some (.inl (x26 + (1 : Int), q22_6, q22_5))
 else
 some (.inr (x6', x5'))
def Ga (l0 : Slattice) (r3 : List Int) : (Int × Bool × (List Bool)) → St := fun s => [(26, A.val (Ab s.1)), (25, A.val (Ab ((↑r3.length : Int)))), (24, A.ref 7 []), (7, A.val ((slr true 1 Ab) (r3))), (6, A.val (V.bool s.2.1)), (5, A.val ((slr true 1 V.bool) s.2.2)), (0, A.val ((rP false (Bb false)) (l0)))]
def Kb (l0 : Slattice) (_r3 : List Int) : (Bool × (List Bool)) → Tgt
 | s => ((Ex.exit 2), [6, 5, 0], [(6, A.val (V.bool s.1)), (5, A.val ((slr true 1 V.bool) s.2)), (0, A.val ((rP false (Bb false)) (l0)))])
theorem Ta {l0 : Slattice} {r3 : List Int} (s : (Int × Bool × (List Bool))) (o : (Int × Bool × (List Bool)) ⊕ (Bool × (List Bool))) (h : Bk l0 r3 s = some o) : vc Try.prog J3 (Bp [26, 25, 24, 7, 6, 5, 0] (Ga l0 r3) (Kb l0 r3) o) (Ga l0 r3 s) := by
 obtain ⟨x26, x6', x5'⟩ := s
 unfold Bk at h
 try dsimp only at h
 refine Br.od h (fun p4 h => ?_) (fun p4 h => ?_)
 ·refine Len.map ?_
  refine Ask.o h fun p5 h => ?_
  refine Cells.one (fun _ => ⟨rfl, rfl⟩) (by first | omega | (simp [Am] at *; omega)) ?_
  refine Len.map ?_
  refine LoopQ.o [32, 31, 30, 9, 26, 25, 24, 7, 6, 5, 0] (Ge l0 r3 x26) (J8 l0 r3 x26) h (fun s o h => Sx s o h) (by first | rfl | simp [restrict, look, Ad, V.fz, fzL, V.up, upL, Ae, Af, Ah, slr]) (fun _ => rfl) ?_
  rintro ⟨q22_6, q22_5⟩ h
  try dsimp only at h
  refine Ask.o h fun p23 h => ?_
  cases h; exact ⟨rfl, rfl⟩
 cases h; exact ⟨rfl, rfl⟩
noncomputable def A8 (l0 : Slattice) : (Bool × (List Bool)) → Option ((Bool × (List Bool)) ⊕ (List Bool)) := fun (x6, x5) =>
 if (x6) = true then
 (Gm (x5)).bind fun r3 =>
 (Ai (Bk l0 r3) ((0 : Int), false, x5)).bind fun (q24_6, q24_5) =>
 some (.inl (q24_6, q24_5))
 else
 some (.inr x5)
def F9 (l0 : Slattice) : (Bool × (List Bool)) → St := fun s => [(6, A.val (V.bool s.1)), (5, A.val ((slr true 1 V.bool) s.2)), (0, A.val ((rP false (Bb false)) (l0)))]
def J2 (_l0 : Slattice) : (List Bool) → Tgt
 | s => ((Ex.exit 0), [5], [(5, A.val ((slr true 1 V.bool) s))])
theorem Sy {l0 : Slattice} (s : (Bool × (List Bool))) (o : (Bool × (List Bool)) ⊕ (List Bool)) (h : A8 l0 s = some o) : vc Try.prog Ka (Bp [6, 5, 0] (F9 l0) (J2 l0) o) (F9 l0 s) := by
 obtain ⟨x6, x5⟩ := s
 unfold A8 at h
 try dsimp only at h
 refine Br.ob h (fun p2 h => ?_) (fun p2 h => ?_)
 ·refine CallQ.rd (slr true 1 Ab) (by first | rfl | simp only [V.fz, Ae, slr] | simp [Ad, V.fz, fzL, V.up, upL, Ae, Af, Ah, slr]) (fun _ => by simp [V.noFz, Aq]) h (fun r h => Xb h) (fun r3 h => ?_)
  refine Len.map ?_
  refine LoopQ.o [26, 25, 24, 7, 6, 5, 0] (Ga l0 r3) (Kb l0 r3) h (fun s o h => Ta s o h) (by first | rfl | simp [restrict, look, Ad, V.fz, fzL, V.up, upL, Ae, Af, Ah, slr]) (fun _ => rfl) ?_
  rintro ⟨q24_6, q24_5⟩ h
  try dsimp only at h
  cases h; exact ⟨rfl, rfl⟩
 cases h; exact ⟨rfl, rfl⟩
noncomputable def Cg (l0 : Slattice) (some0 : (List Int)) : Option (List Int) :=
 (I1 (some0) ((↑l0.order.length : Int))).bind fun r1 =>
 (Ai (A8 l0) (true, r1)).bind fun q25_5 =>
 (Gm (q25_5)).bind fun r26 =>
 some r26
theorem L4 {l0 : Slattice} {some0 : (List Int)} {v : (List Int)} (h : Cg l0 some0 = some v) : Ret Try.prog Fg [(rP false (Bb false)) l0, (slr false 1 Ab) some0] ((slr true 1 Ab) v) := by
 refine Av Xl (Nat.le_of_ble_eq_true rfl) ?_
 unfold Cg at h
 refine Len.map ?_
 refine CallQ.o (slr true 1 V.bool) (by rfl) h (fun r h => Ahw h) (fun r1 h => ?_)
 refine LoopQ.o [6, 5, 0] (F9 l0) (J2 l0) h (fun s o h => Sy s o h) (by first | rfl | simp [restrict, look, Ad, V.fz, fzL, V.up, upL, Ae, Af, Ah, slr]) (fun _ => rfl) ?_
 rintro q25_5 h
 try dsimp only at h
 refine CallQ.rd (slr true 1 Ab) (by first | rfl | simp only [V.fz, Ae, slr] | simp [Ad, V.fz, fzL, V.up, upL, Ae, Af, Ah, slr]) (fun _ => by simp [V.noFz, Aq]) h (fun r h => Xb h) (fun r26 h => ?_)
 cases h; exact (by rfl)
noncomputable def Cp (n0 : Int) (list0 : List Int) : Int → Option (Int ⊕ (Unit ⊕ Unit)) := fun x5 =>
 if x5 < (↑list0.length : Int) then
 ask ((0 : Int) ≤ x5 ∧ x5 < (↑list0.length : Int)) <|
 ask (InI (n0 - (1 : Int))) <|
 (H2 (nth list0 x5.toNat) ((0 : Int)) (n0 - (1 : Int))).bind fun r4 =>
 if (r4) = true then
 ask (InI (x5 + (1 : Int))) <|
 some (.inl (x5 + (1 : Int)))
 else
 some (.inr (.inl ()))
 else
 some (.inr (.inr ()))
def Kl (n0 : Int) (list0 : List Int) : Int → St := fun s => [(5, A.val (Ab s)), (0, A.val (Ab (n0))), (1, A.val ((slr false 1 Ab) (list0)))]
def Rs (_n0 : Int) (_list0 : List Int) : (Unit ⊕ Unit) → Tgt
 | (.inl _s) => (Ex.ret, [4], [(4, A.val (V.bool (false)))])
 | (.inr _s) => ((Ex.exit 0), [], [])
theorem Ado {n0 : Int} {list0 : List Int} (x5 : Int) (o : Int ⊕ (Unit ⊕ Unit)) (h : Cp n0 list0 x5 = some o) : vc Try.prog Qs (Bp [5, 0, 1] (Kl n0 list0) (Rs n0 list0) o) (Kl n0 list0 x5) := by
 unfold Cp at h
 try dsimp only at h
 refine Len.map ?_
 refine Br.od h (fun p1 h => ?_) (fun p1 h => ?_)
 ·refine Len.map ?_
  refine Ask.o h fun p2 h => ?_
  refine Elem.o (by first | omega | (simp [Am] at *; omega)) ?_
  refine Ask.o h fun p3 h => ?_
  refine CallQ.o V.bool (by rfl) h (fun r h => Rn h) (fun r4 h => ?_)
  refine Br.flip ?_
  refine Br.ob h (fun p5 h => ?_) (fun p5 h => ?_)
  ·refine Ask.o h fun p6 h => ?_
   cases h; exact ⟨rfl, rfl⟩
  cases h; exact ⟨rfl, rfl⟩
 cases h; exact ⟨rfl, rfl⟩
noncomputable def Fs (n0 : Int) (list0 : (List Int)) : Option Bool :=
 (Ai (Cp n0 list0) (0 : Int)).bind fun t => match t with
 | (.inl _) => (some false)
 | (.inr _) => (some true)
theorem We {n0 : Int} {list0 : (List Int)} {v : Bool} (h : Fs n0 list0 = some v) : Ret Try.prog J1 [Ab n0, (slr false 1 Ab) list0] (V.bool v) := by
 refine Av Ahb (Nat.le_of_ble_eq_true rfl) ?_
 unfold Fs at h
 refine LoopQ.o [5, 0, 1] (Kl n0 list0) (Rs n0 list0) h (fun s o h => Ado s o h) (by first | rfl | simp [restrict, look, Ad, V.fz, fzL, V.up, upL, Ae, Af, Ah, slr]) (by rintro (_ | _) <;> rfl) ?_
 rintro (⟨⟩ | ⟨⟩) h
 ·try dsimp only at h
  cases h; exact (by rfl)
 try dsimp only at h
 cases h; exact (by rfl)
noncomputable def Bd (o0 : List (List Bool)) (x12 : Int) (_x4 : List (List Int)) : (Int × (List Int)) → Option ((Int × (List Int)) ⊕ (Unit ⊕ (List Int))) := fun (x18, x6) =>
 if x18 < (↑o0.length : Int) then
 (E4 (o0) (fun w_0 => Cf w_0 (o0) (x12) (x18))).bind fun r3 =>
 (E0 (o0) (r3)).bind fun r4 =>
 if r4 < (0 : Int) then
 some (.inr (.inl ()))
 else
 ask ((x6).length + ([r4]).length ≤ LIM) <|
 ask (InI (x18 + (1 : Int))) <|
 some (.inl (x18 + (1 : Int), x6 ++ [r4]))
 else
 some (.inr (.inr x6))
def Hd (o0 : List (List Bool)) (x12 : Int) (x4 : List (List Int)) : (Int × (List Int)) → St := fun s => [(18, A.val (Ab s.1)), (17, A.val (Ab ((↑o0.length : Int)))), (6, A.val ((slr true 1 Ab) s.2)), (5, A.val ((rP true Ab) (x12))), (12, A.val (Ab (x12))), (11, A.val (Ab ((↑o0.length : Int)))), (4, A.val ((slr true 1 (slr true 1 Ab)) (x4))), (1, A.val ((rP true (slr false 1 (slr false 1 V.bool))) (o0)))]
def Lr (o0 : List (List Bool)) (x12 : Int) (x4 : List (List Int)) : (Unit ⊕ (List Int)) → Tgt
 | (.inl _s) => (Ex.ret, [3, 2], [(3, A.val (V.bool (false))), (2, A.val ((slr true 1 (slr true 1 Ab)) (Ao (List Int))))])
 | (.inr s) => ((Ex.exit 2), [6, 12, 11, 4, 1], [(6, A.val ((slr true 1 Ab) s)), (12, A.val (Ab (x12))), (11, A.val (Ab ((↑o0.length : Int)))), (4, A.val ((slr true 1 (slr true 1 Ab)) (x4))), (1, A.val ((rP true (slr false 1 (slr false 1 V.bool))) (o0)))])
theorem Uy {o0 : List (List Bool)} {x12 : Int} {x4 : List (List Int)} (s : (Int × (List Int))) (o : (Int × (List Int)) ⊕ (Unit ⊕ (List Int))) (h : Bd o0 x12 x4 s = some o) : vc Try.prog Ls (Bp [18, 17, 6, 5, 12, 11, 4, 1] (Hd o0 x12 x4) (Lr o0 x12 x4) o) (Hd o0 x12 x4 s) := by
 obtain ⟨x18, x6⟩ := s
 unfold Bd at h
 try dsimp only at h
 refine Br.od h (fun p2 h => ?_) (fun p2 h => ?_)
 ·refine SetKids.lit rfl ?_
  iterate 2 refine Cells.lit rfl rfl ?_
  refine CallP.rd (slr true 1 Ab) (by rfl) (fun _ => by simp [V.noFz, Aq]) h (fun r h => Afp (f_so0 := Ff) (c_so0 := [(rP false (slr false 1 (slr false 1 V.bool))) (o0), (rP false Ab) (x12), (rP false Ab) (x18)]) (fun w_0 v h => Ret.cast (by rfl) (W4 h)) h) (fun r3 h => ?_)
  refine CallQ.rd Ab (by first | rfl | simp only [V.fz, Ae, slr] | simp [Ad, V.fz, fzL, V.up, upL, Ae, Af, Ah, slr]) (fun _ => rfl) h (fun r h => Abp h) (fun r4 h => ?_)
  refine Br.od h (fun p5 h => ?_) (fun p5 h => ?_)
  ·cases h; exact ⟨rfl, rfl⟩
  refine BslQ.o Ab [r4] (by exact fun _ => ⟨rfl, rfl⟩) (by rfl) ?_
  refine NoOwn.o (fun _ => rfl) ?_
  refine AppQ.o (m := 1) Ab (by exact fun _ => ⟨rfl, rfl⟩) (x6) ([r4]) (by rfl) (by rfl) h fun h => ?_
  refine Ask.o h fun p6 h => ?_
  cases h; exact ⟨rfl, rfl⟩
 cases h; exact ⟨rfl, rfl⟩
noncomputable def Bz (o0 : List (List Bool)) : (Int × (List (List Int))) → Option ((Int × (List (List Int))) ⊕ (Unit ⊕ (List (List Int)))) := fun (x12, x4) =>
 if x12 < (↑o0.length : Int) then
 (Ai (Bd o0 x12 x4) ((0 : Int), Ao Int)).bind fun t => match t with
 | (.inl _) => (some (.inr (.inl ())))
 | (.inr q7_6) => (ask ((x4).length + ([q7_6]).length ≤ LIM) <|
 ask (InI (x12 + (1 : Int))) <|
 some (.inl (x12 + (1 : Int), x4 ++ [q7_6])))
 else
 some (.inr (.inr x4))
def He (o0 : List (List Bool)) : (Int × (List (List Int))) → St := fun s => [(12, A.val (Ab s.1)), (11, A.val (Ab ((↑o0.length : Int)))), (4, A.val ((slr true 1 (slr true 1 Ab)) s.2)), (1, A.val ((rP true (slr false 1 (slr false 1 V.bool))) (o0)))]
def Ln (_o0 : List (List Bool)) : (Unit ⊕ (List (List Int))) → Tgt
 | (.inl _s) => (Ex.ret, [3, 2], [(3, A.val (V.bool (false))), (2, A.val ((slr true 1 (slr true 1 Ab)) (Ao (List Int))))])
 | (.inr s) => ((Ex.exit 0), [4], [(4, A.val ((slr true 1 (slr true 1 Ab)) s))])
theorem Uv {o0 : List (List Bool)} (s : (Int × (List (List Int)))) (o : (Int × (List (List Int))) ⊕ (Unit ⊕ (List (List Int)))) (h : Bz o0 s = some o) : vc Try.prog Lo (Bp [12, 11, 4, 1] (He o0) (Ln o0) o) (He o0 s) := by
 obtain ⟨x12, x4⟩ := s
 unfold Bz at h
 try dsimp only at h
 refine Br.od h (fun p1 h => ?_) (fun p1 h => ?_)
 ·refine SetKids.lit rfl ?_
  refine BslQ.o Ab (Ao Int) (by exact fun _ => ⟨rfl, rfl⟩) (by rfl) ?_
  refine Cells.lit rfl rfl ?_
  refine Len.map ?_
  refine LoopQ.o [18, 17, 6, 5, 12, 11, 4, 1] (Hd o0 x12 x4) (Lr o0 x12 x4) h (fun s o h => Uy s o h) (by first | rfl | simp [restrict, look, Ad, V.fz, fzL, V.up, upL, Ae, Af, Ah, slr]) (by rintro (_ | _) <;> rfl) ?_
  rintro (⟨⟩ | q7_6) h
  ·try dsimp only at h
   cases h; exact ⟨rfl, rfl⟩
  try dsimp only at h
  refine BslQ.o (slr true 1 Ab) [q7_6] (by exact fun _ => ⟨rfl, rfl⟩) (by rfl) ?_
  refine NoOwn.own rfl ?_
  refine AppQ.o (m := 1) (slr true 1 Ab) (by exact fun _ => ⟨rfl, rfl⟩) (x4) ([q7_6]) (by rfl) (by rfl) h fun h => ?_
  refine Ask.o h fun p8 h => ?_
  cases h; exact ⟨rfl, rfl⟩
 cases h; exact ⟨rfl, rfl⟩
noncomputable def C0 (o0 : (List (List Bool))) : Option ((List (List Int)) × Bool) :=
 (Ai (Bz o0) ((0 : Int), Ao (List Int))).bind fun t => match t with
 | (.inl _) => (some (Ao (List Int), false))
 | (.inr q9_4) => (some (q9_4, true))
theorem O3 {o0 : (List (List Bool))} {v : ((List (List Int)) × Bool)} (h : C0 o0 = some v) : Ret Try.prog Gf [(slr false 1 (slr false 1 V.bool)) o0] ((fun r => V.tup [(slr true 1 (slr true 1 Ab)) r.1, V.bool r.2]) v) := by
 refine Av Aah (Nat.le_of_ble_eq_true rfl) ?_
 unfold C0 at h
 refine BslQ.o (slr true 1 Ab) (Ao (List Int)) (by exact fun _ => ⟨rfl, rfl⟩) (by rfl) ?_
 refine Cells.lit rfl rfl ?_
 refine Len.map ?_
 refine LoopQ.o [12, 11, 4, 1] (He o0) (Ln o0) h (fun s o h => Uv s o h) (by first | rfl | simp [restrict, look, Ad, V.fz, fzL, V.up, upL, Ae, Af, Ah, slr]) (by rintro (_ | _) <;> rfl) ?_
 rintro (⟨⟩ | q9_4) h
 ·try dsimp only at h
  cases h; exact (by rfl)
 try dsimp only at h
 cases h; exact (by rfl)
noncomputable def T3 (a0 : SOp) (b0 : SOp) : Option Bool :=
 if a0.Arity = b0.Arity then
 (Ht (a0.Table) (b0.Table)).bind fun r2 =>
 some r2
 else
 some false
theorem Ax9 {a0 : SOp} {b0 : SOp} {v : Bool} (h : T3 a0 b0 = some v) : Ret Try.prog Af9 [(Dh false) a0, (Dh false) b0] (V.bool v) := by
 refine Av Azs (Nat.le_of_ble_eq_true rfl) ?_
 unfold T3 at h
 iterate 2 refine Cells.lit rfl rfl ?_
 refine Br.oe h (fun p1 h => ?_) (fun p1 h => ?_)
 ·refine Br.yes ?_
  refine Cells.lit rfl rfl ?_
  iterate 2 refine Br.yes ?_
  refine Cells.lit rfl rfl ?_
  refine Br.yes ?_
  refine CallQ.o V.bool (by rfl) h (fun r h => Zl h) (fun r2 h => ?_)
  refine Br.yes ?_
  cases h; exact (by rfl)
 iterate 5 refine Br.no ?_
 cases h; exact (by rfl)
end Go.Proofs.Ytoikbcagaanhgaa.Ax
