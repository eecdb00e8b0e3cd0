/-
 What the functions compute, as functions on plain data, and that the program does compute it; written by program.
-/
import Derived.Test.YtjinhobffbppbaaCode
import Derived.Test.YtjinhobffbppbaaG1
import Derived.Test.YtjinhobffbppbaaG2
import Derived.Test.YtjinhobffbppbaaG3
import Derived.Test.YtjinhobffbppbaaG5
namespace Go.Proofs.Ytjinhobffbppbaa.Ax
open Go
set_option maxRecDepth 100000
set_option maxHeartbeats 4000000
noncomputable def Cr (a0 : SAlgebra) (t0 : (List Int)) : Option Bool :=
 (Fs (a0)).bind fun r1 =>
 if (r1) = true then
 (Em (a0) (t0)).bind fun r3 =>
 some r3
 else
 some false
theorem Fy {a0 : SAlgebra} {t0 : (List Int)} {v : Bool} (h : Cr a0 t0 = some v) : Ret Try.prog D6 [(Ag false) a0, (slr false 1 Ae) t0] (V.bool v) := by
 refine Bf Zg (Nat.le_of_ble_eq_true rfl) ?_
 unfold Cr at h
 conv => whnf
 refine Cells.lit rfl rfl ?_
 conv => whnf
 refine CallQ.o V.bool (by first | rfl | simp only [Aa, V.fz, fzL, V.up, upL, Ab, Ac, Ad, slr, List.cons_append, List.nil_append] | simp [Aa, V.fz, fzL, V.up, upL, Ab, Ac, Ad, slr]) h (fun r h => Qy h) (fun r1 h => ?_)
 conv => whnf
 refine Br.ob h (fun p2 h => ?_) (fun p2 h => ?_)
 ·conv => whnf
  refine Cells.lit rfl rfl ?_
  conv => whnf
  refine Br.yes ?_
  conv => whnf
  refine Br.yes ?_
  conv => whnf
  refine CallQ.o V.bool (by first | rfl | simp only [Aa, V.fz, fzL, V.up, upL, Ab, Ac, Ad, slr, List.cons_append, List.nil_append] | simp [Aa, V.fz, fzL, V.up, upL, Ab, Ac, Ad, slr]) h (fun r h => Lw h) (fun r3 h => ?_)
  conv => whnf
  refine Br.yes ?_
  conv => whnf
  cases h; exact (by first | rfl | simp only [Ah, Aa, V.fz, fzL, V.up, upL, Ab, Ac, Ad, slr] | simp [Ah, Aa, V.fz, fzL, V.up, upL, Ab, Ac, Ad, slr])
 conv => whnf
 refine Br.no ?_
 conv => whnf
 refine Br.no ?_
 conv => whnf
 refine Br.no ?_
 conv => whnf
 cases h; exact (by first | rfl | simp only [Ah, Aa, V.fz, fzL, V.up, upL, Ab, Ac, Ad, slr] | simp [Ah, Aa, V.fz, fzL, V.up, upL, Ab, Ac, Ad, slr])
noncomputable def C4 (a0 : SAlgebra) (terms0 : List (List Int)) : Int → Option (Int ⊕ (Unit ⊕ Unit)) := fun x5 =>
 if x5 < (↑terms0.length : Int) then
 ask ((0 : Int) ≤ x5 ∧ x5 < (↑terms0.length : Int)) <|
 (Em (a0) (nth terms0 x5.toNat)).bind fun r3 =>
 if (r3) = true then
 ask (InI (x5 + (1 : Int))) <|
 some (.inl (x5 + (1 : Int)))
 else
 some (.inr (.inl ()))
 else
 some (.inr (.inr ()))
def Ir (a0 : SAlgebra) (terms0 : List (List Int)) : Int → St := fun s => [(5, A.val (Ae s)), (2, A.val ((rP true (Ag false)) (a0))), (1, A.val ((slr false 1 (slr false 1 Ae)) (terms0)))]
def Mn (_a0 : SAlgebra) (_terms0 : List (List Int)) : (Unit ⊕ Unit) → Tgt
 | (.inl _s) => (Ex.ret, [4], [(4, A.val (V.bool (false)))])
 | (.inr _s) => ((Ex.exit 0), [], [])
theorem Va {a0 : SAlgebra} {terms0 : List (List Int)} (x5 : Int) (o : Int ⊕ (Unit ⊕ Unit)) (h : C4 a0 terms0 x5 = some o) : vc Try.prog Mi (F6 [5, 2, 1] (Ir a0 terms0) (Mn a0 terms0) o) (Ir a0 terms0 x5) := by
 unfold C4 at h
 try dsimp only at h
 conv => whnf
 refine Len.map ?_
 conv => whnf
 refine Br.od h (fun p1 h => ?_) (fun p1 h => ?_)
 ·conv => whnf
  refine Cells.lit rfl rfl ?_
  conv => whnf
  refine Len.map ?_
  conv => whnf
  refine Ask.o h fun p2 h => ?_
  conv => whnf
  refine Elem.o (by first | omega | (simp [A5] at *; omega)) ?_
  conv => whnf
  refine CallQ.o V.bool (by first | rfl | simp only [Aa, V.fz, fzL, V.up, upL, Ab, Ac, Ad, slr, List.cons_append, List.nil_append] | simp [Aa, V.fz, fzL, V.up, upL, Ab, Ac, Ad, slr]) h (fun r h => Lw h) (fun r3 h => ?_)
  conv => whnf
  refine Br.flip ?_
  conv => whnf
  refine Br.ob h (fun p4 h => ?_) (fun p4 h => ?_)
  ·conv => whnf
   refine Ask.o h fun p5 h => ?_
   conv => whnf
   cases h; exact ⟨rfl, rfl⟩
  conv => whnf
  cases h; exact ⟨rfl, rfl⟩
 conv => whnf
 cases h; exact ⟨rfl, rfl⟩
noncomputable def Gx (a0 : SAlgebra) (terms0 : (List (List Int))) : Option Bool :=
 (Bb (C4 a0 terms0) (0 : Int)).bind fun t => match t with
 | (.inl _) => (some false)
 | (.inr _) => (some true)
theorem Z2 {a0 : SAlgebra} {terms0 : (List (List Int))} {v : Bool} (h : Gx a0 terms0 = some v) : Ret Try.prog Lq [(Ag false) a0, (slr false 1 (slr false 1 Ae)) terms0] (V.bool v) := by
 refine Bf Aa2 (Nat.le_of_ble_eq_true rfl) ?_
 unfold Gx at h
 conv => whnf
 refine LoopQ.o [5, 2, 1] (Ir a0 terms0) (Mn a0 terms0) h (fun s o h => Va s o h) (by first | rfl | simp [restrict, look, Aa, V.fz, fzL, V.up, upL, Ab, Ac, Ad, slr]) (by rintro (_ | _) <;> rfl) ?_
 rintro (⟨⟩ | ⟨⟩) h
 ·try dsimp only at h
  conv => whnf
  cases h; exact (by first | rfl | simp only [Ah, Aa, V.fz, fzL, V.up, upL, Ab, Ac, Ad, slr] | simp [Ah, Aa, V.fz, fzL, V.up, upL, Ab, Ac, Ad, slr])
 try dsimp only at h
 conv => whnf
 cases h; exact (by first | rfl | simp only [Ah, Aa, V.fz, fzL, V.up, upL, Ab, Ac, Ad, slr] | simp [Ah, Aa, V.fz, fzL, V.up, upL, Ab, Ac, Ad, slr])
noncomputable def B8 (self : SAlgebra → List Int → Option Int) (a0 : SAlgebra) (r3 : List (List Int)) : (Int × Int) → Option ((Int × Int) ⊕ Int) := fun (x7, x6) =>
 if x7 < (↑r3.length : Int) then
 ask ((0 : Int) ≤ x7 ∧ x7 < (↑r3.length : Int)) <|
 (self (a0) (nth r3 x7.toNat)).bind fun r6 =>
 (Gv (x6) (r6)).bind fun r7 =>
 ask (InI (x7 + (1 : Int))) <|
 some (.inl (x7 + (1 : Int), r7))
 else
 some (.inr x6)
def Hy (a0 : SAlgebra) (r3 : List (List Int)) : (Int × Int) → St := fun s => [(7, A.val (Ae s.1)), (6, A.val (Ae s.2)), (5, A.val ((slr true 1 (slr true 1 Ae)) (r3))), (2, A.val ((rP true (Ag false)) (a0)))]
def Ln (_a0 : SAlgebra) (_r3 : List (List Int)) : Int → Tgt
 | s => ((Ex.exit 0), [6], [(6, A.val (Ae s))])
theorem Si {self : SAlgebra → List Int → Option Int} {a0 : SAlgebra} {r3 : List (List Int)} (hself : ∀ {w_0 w_1 v}, self w_0 w_1 = some v → Ret Try.prog Da [(Ag false) w_0, (slr false 1 Ae) w_1] (Ae v)) (s : (Int × Int)) (o : (Int × Int) ⊕ Int) (h : B8 self a0 r3 s = some o) : vc Try.prog Ld (F6 [7, 6, 5, 2] (Hy a0 r3) (Ln a0 r3) o) (Hy a0 r3 s) := by
 obtain ⟨x7, x6⟩ := s
 unfold B8 at h
 try dsimp only at h
 conv => whnf
 refine Len.map ?_
 conv => whnf
 refine Br.od h (fun p4 h => ?_) (fun p4 h => ?_)
 ·conv => whnf
  refine Cells.lit rfl rfl ?_
  conv => whnf
  refine Len.map ?_
  conv => whnf
  refine Ask.o h fun p5 h => ?_
  conv => whnf
  refine Cells.one (fun _ => ⟨rfl, rfl⟩) (by first | omega | (simp [A5] at *; omega)) ?_
  conv => whnf
  refine Kid.one (fun _ => ⟨rfl, rfl⟩) (by first | omega | (simp [A5] at *; omega)) ?_
  conv => whnf
  refine CallP.rd Ae (by first | rfl | simp only [Aa, V.fz, fzL, Ab, slr] | simp [Aa, V.fz, fzL, V.up, upL, Ab, Ac, Ad, slr]) (fun _ => rfl) h (fun r h => hself h) (fun r6 h => ?_)
  conv => whnf
  refine CallQ.o Ae (by first | rfl | simp only [Aa, V.fz, fzL, V.up, upL, Ab, Ac, Ad, slr, List.cons_append, List.nil_append] | simp [Aa, V.fz, fzL, V.up, upL, Ab, Ac, Ad, slr]) h (fun r h => Z5 h) (fun r7 h => ?_)
  conv => whnf
  refine Ask.o h fun p8 h => ?_
  conv => whnf
  cases h; exact ⟨rfl, rfl⟩
 conv => whnf
 cases h; exact ⟨rfl, rfl⟩
noncomputable def Ce (self : SAlgebra → (List Int) → Option Int) (a0 : SAlgebra) (t0 : (List Int)) : Option Int :=
 ask ((0 : Int) ≤ (0 : Int) ∧ (0 : Int) < (↑t0.length : Int)) <|
 if nth t0 (Int.toNat (0 : Int)) ≥ (0 : Int) then
 some (0 : Int)
 else
 (F0 (a0) (t0)).bind fun r3 =>
 (Bb (B8 self a0 r3) ((0 : Int), (0 : Int))).bind fun q9_6 =>
 ask (InI (q9_6 + (1 : Int))) <|
 some (q9_6 + (1 : Int))
noncomputable def Bq : Nat → SAlgebra → (List Int) → Option Int
 | 0 => fun _ _ => none
 | n + 1 => Ce (Bq n)
theorem U1 {self : SAlgebra → (List Int) → Option Int} (hself : ∀ {w_0 w_1 v}, self w_0 w_1 = some v → Ret Try.prog Da [(Ag false) w_0, (slr false 1 Ae) w_1] (Ae v)) {a0 : SAlgebra} {t0 : (List Int)} {v : Int} (h : Ce self a0 t0 = some v) : Ret Try.prog Da [(Ag false) a0, (slr false 1 Ae) t0] (Ae v) := by
 refine Bf Yx (Nat.le_of_ble_eq_true rfl) ?_
 unfold Ce at h
 conv => whnf
 refine Len.map ?_
 conv => whnf
 refine Ask.o h fun p1 h => ?_
 conv => whnf
 refine Elem.o (by first | omega | (simp [A5] at *; omega)) ?_
 conv => whnf
 refine Br.od h (fun p2 h => ?_) (fun p2 h => ?_)
 ·conv => whnf
  cases h; exact (by first | rfl | simp only [Ah, Aa, V.fz, fzL, V.up, upL, Ab, Ac, Ad, slr] | simp [Ah, Aa, V.fz, fzL, V.up, upL, Ab, Ac, Ad, slr])
 conv => whnf
 refine Cells.lit rfl rfl ?_
 conv => whnf
 refine CallQ.o (slr true 1 (slr true 1 Ae)) (by first | rfl | simp only [Aa, V.fz, fzL, V.up, upL, Ab, Ac, Ad, slr, List.cons_append, List.nil_append] | simp [Aa, V.fz, fzL, V.up, upL, Ab, Ac, Ad, slr]) h (fun r h => Zf h) (fun r3 h => ?_)
 conv => whnf
 refine LoopQ.o [7, 6, 5, 2] (Hy a0 r3) (Ln a0 r3) h (fun s o h => Si hself s o h) (by first | rfl | simp [restrict, look, Aa, V.fz, fzL, V.up, upL, Ab, Ac, Ad, slr]) (fun _ => rfl) ?_
 rintro q9_6 h
 try dsimp only at h
 conv => whnf
 refine Ask.o h fun p10 h => ?_
 conv => whnf
 cases h; exact (by first | rfl | simp only [Ah, Aa, V.fz, fzL, V.up, upL, Ab, Ac, Ad, slr] | simp [Ah, Aa, V.fz, fzL, V.up, upL, Ab, Ac, Ad, slr])
theorem Mr : ∀ (n : Nat) {a0 : SAlgebra} {t0 : (List Int)} {v : Int}, Bq n a0 t0 = some v → Ret Try.prog Da [(Ag false) a0, (slr false 1 Ae) t0] (Ae v)
 | 0, _, _, _, h => by cases h
 | n + 1, _, _, _, h => U1 (fun h => Mr n h) h
theorem Yj {a0 : SAlgebra} {t0 : (List Int)} {v : Int} (h : (Oh fun n => Bq n a0 t0) = some v) : Ret Try.prog Da [(Ag false) a0, (slr false 1 Ae) t0] (Ae v) := by
 obtain ⟨n, hn⟩ := U3 h
 exact Mr n hn
noncomputable def Cs (_c0 : Sl1Cur) (a0 : SAlgebra) (_depth0 : Int) (_vars0 : Int) : (Int × (List Int)) → Option ((Int × (List Int)) ⊕ (List Int)) := fun (x10, x9) =>
 if x10 < (↑a0.Ops.length : Int) then
 ask ((0 : Int) ≤ x10 ∧ x10 < (↑a0.Ops.length : Int)) <|
 if (nth a0.Ops x10.toNat).Arity = (0 : Int) then
 ask (InI ((-1 : Int) - x10)) <|
 ask ((x9).length + ([(-1 : Int) - x10]).length ≤ LIM) <|
 ask (InI (x10 + (1 : Int))) <|
 some (.inl (x10 + (1 : Int), x9 ++ [(-1 : Int) - x10]))
 else
 ask (InI (x10 + (1 : Int))) <|
 some (.inl (x10 + (1 : Int), x9))
 else
 some (.inr x9)
def Fh (c0 : Sl1Cur) (a0 : SAlgebra) (depth0 : Int) (vars0 : Int) : (Int × (List Int)) → St := fun s => [(10, A.val (Ae s.1)), (9, A.val ((slr true 1 Ae) s.2)), (5, A.val ((rP true (Ag false)) (a0))), (0, A.ref 96 []), (96, A.val ((rP true (Ai false)) (c0))), (2, A.val (Ae (depth0))), (3, A.val (Ae (vars0)))]
def Hx (c0 : Sl1Cur) (a0 : SAlgebra) (depth0 : Int) (vars0 : Int) : (List Int) → Tgt
 | s => ((Ex.exit 0), [9, 5, 0, 96, 2, 3], [(9, A.val ((slr true 1 Ae) s)), (5, A.val ((rP true (Ag false)) (a0))), (0, A.ref 96 []), (96, A.val ((rP true (Ai false)) (c0))), (2, A.val (Ae (depth0))), (3, A.val (Ae (vars0)))])
theorem Ng {c0 : Sl1Cur} {a0 : SAlgebra} {depth0 : Int} {vars0 : Int} (s : (Int × (List Int))) (o : (Int × (List Int)) ⊕ (List Int)) (h : Cs c0 a0 depth0 vars0 s = some o) : vc Try.prog Hv (F6 [10, 9, 5, 0, 96, 2, 3] (Fh c0 a0 depth0 vars0) (Hx c0 a0 depth0 vars0) o) (Fh c0 a0 depth0 vars0 s) := by
 obtain ⟨x10, x9⟩ := s
 unfold Cs at h
 try dsimp only at h
 conv => whnf
 refine Cells.lit rfl rfl ?_
 conv => whnf
 refine Len.map ?_
 conv => whnf
 refine Br.od h (fun p1 h => ?_) (fun p1 h => ?_)
 ·conv => whnf
  refine Cells.lit rfl rfl ?_
  conv => whnf
  refine Len.map ?_
  conv => whnf
  refine Ask.o h fun p2 h => ?_
  conv => whnf
  refine Elem.o (by first | omega | (simp [A5] at *; omega)) ?_
  conv => whnf
  refine Br.oe h (fun p3 h => ?_) (fun p3 h => ?_)
  ·conv => whnf
   refine Ask.o h fun p4 h => ?_
   conv => whnf
   refine BslQ.o Ae ([(-1 : Int) - x10]) (by exact fun _ => ⟨rfl, rfl⟩) (by first | rfl | simp only [Aa, V.fz, fzL, V.up, upL, Ab, Ac, Ad, slr, List.cons_append, List.nil_append] | simp [Aa, V.fz, fzL, V.up, upL, Ab, Ac, Ad, slr]) ?_
   conv => whnf
   refine NoOwn.o (fun _ => rfl) ?_
   conv => whnf
   refine AppQ.o (m := 1) Ae (by exact fun _ => ⟨rfl, rfl⟩) (x9) ([(-1 : Int) - x10]) (by first | rfl | simp only [Aa, V.fz, fzL, V.up, upL, Ab, Ac, Ad, slr, List.cons_append, List.nil_append] | simp [Aa, V.fz, fzL, V.up, upL, Ab, Ac, Ad, slr]) (by first | rfl | simp only [Aa, V.fz, fzL, V.up, upL, Ab, Ac, Ad, slr, List.cons_append, List.nil_append] | simp [Aa, V.fz, fzL, V.up, upL, Ab, Ac, Ad, slr]) h fun h => ?_
   conv => whnf
   refine Ask.o h fun p5 h => ?_
   conv => whnf
   cases h; exact ⟨rfl, rfl⟩
  conv => whnf
  refine Ask.o h fun p6 h => ?_
  conv => whnf
  cases h; exact ⟨rfl, rfl⟩
 conv => whnf
 cases h; exact ⟨rfl, rfl⟩
noncomputable def B2 (self : Sl1Cur → SAlgebra → Int → Int → Option (List Int × Sl1Cur)) (a0 : SAlgebra) (depth0 : Int) (vars0 : Int) (r26 : Int) : (Int × (List Int) × Sl1Cur) → Option ((Int × (List Int) × Sl1Cur) ⊕ ((List Int) × Sl1Cur)) := fun (x13, x12, x96) =>
 ask ((0 : Int) ≤ r26 ∧ r26 < (↑a0.Ops.length : Int)) <|
 if x13 < (nth a0.Ops r26.toNat).Arity then
 ask (InI (depth0 - (1 : Int))) <|
 (self (x96) (a0) (depth0 - (1 : Int)) (vars0)).bind fun (r32, u33) =>
 ask ((x12).length + (r32).length ≤ LIM) <|
 ask (InI (x13 + (1 : Int))) <|
 some (.inl (x13 + (1 : Int), x12 ++ r32, u33))
 else
 some (.inr (x12, x96))
def Fi (a0 : SAlgebra) (depth0 : Int) (vars0 : Int) (r26 : Int) : (Int × (List Int) × Sl1Cur) → St := fun s => [(13, A.val (Ae s.1)), (12, A.val ((slr true 1 Ae) s.2.1)), (11, A.val (Ae (r26))), (5, A.val ((rP true (Ag false)) (a0))), (0, A.ref 96 []), (96, A.val ((rP true (Ai false)) s.2.2)), (2, A.val (Ae (depth0))), (3, A.val (Ae (vars0)))]
def H7 (_a0 : SAlgebra) (_depth0 : Int) (_vars0 : Int) (_r26 : Int) : ((List Int) × Sl1Cur) → Tgt
 | s => ((Ex.exit 2), [12, 96], [(12, A.val ((slr true 1 Ae) s.1)), (96, A.val ((rP true (Ai false)) s.2))])
theorem Nb {self : Sl1Cur → SAlgebra → Int → Int → Option (List Int × Sl1Cur)} {a0 : SAlgebra} {depth0 : Int} {vars0 : Int} {r26 : Int} (hself : ∀ {w_0 w_1 w_2 w_3 v}, self w_0 w_1 w_2 w_3 = some v → Og Try.prog A8 [(rP true (Ai false)) w_0, (Ag false) w_1, Ae w_2, Ae w_3] ((slr true 1 Ae) v.1) 0 ((rP true (Ai false)) v.2)) (s : (Int × (List Int) × Sl1Cur)) (o : (Int × (List Int) × Sl1Cur) ⊕ ((List Int) × Sl1Cur)) (h : B2 self a0 depth0 vars0 r26 s = some o) : vc Try.prog Hj (F6 [13, 12, 11, 5, 0, 96, 2, 3] (Fi a0 depth0 vars0 r26) (H7 a0 depth0 vars0 r26) o) (Fi a0 depth0 vars0 r26 s) := by
 obtain ⟨x13, x12, x96⟩ := s
 unfold B2 at h
 try dsimp only at h
 conv => whnf
 refine Cells.lit rfl rfl ?_
 conv => whnf
 refine Len.map ?_
 conv => whnf
 refine Ask.o h fun p29 h => ?_
 conv => whnf
 refine Elem.o (by first | omega | (simp [A5] at *; omega)) ?_
 conv => whnf
 refine Br.od h (fun p30 h => ?_) (fun p30 h => ?_)
 ·conv => whnf
  refine Cells.lit rfl rfl ?_
  conv => whnf
  refine Ask.o h fun p31 h => ?_
  conv => whnf
  refine CallQ.io (slr true 1 Ae) (rP true (Ai false)) (by first | rfl | simp only [Aa, V.fz, fzL, V.up, upL, Ab, Ac, Ad, slr, List.cons_append, List.nil_append] | simp [Aa, V.fz, fzL, V.up, upL, Ab, Ac, Ad, slr]) rfl (fun _ => rfl) (fun _ => ⟨rfl, rfl⟩) rfl h (fun r h => hself h) (fun r32 u33 h => ?_)
  conv => whnf
  refine NoOwn.o (fun _ => rfl) ?_
  conv => whnf
  refine AppQ.o (m := 1) Ae (by exact fun _ => ⟨rfl, rfl⟩) (x12) (r32) (by first | rfl | simp only [Aa, V.fz, fzL, V.up, upL, Ab, Ac, Ad, slr, List.cons_append, List.nil_append] | simp [Aa, V.fz, fzL, V.up, upL, Ab, Ac, Ad, slr]) (by first | rfl | simp only [Aa, V.fz, fzL, V.up, upL, Ab, Ac, Ad, slr, List.cons_append, List.nil_append] | simp [Aa, V.fz, fzL, V.up, upL, Ab, Ac, Ad, slr]) h fun h => ?_
  conv => whnf
  refine Ask.o h fun p34 h => ?_
  conv => whnf
  cases h; exact ⟨rfl, rfl⟩
 conv => whnf
 cases h; exact ⟨rfl, rfl⟩
noncomputable def Bl (self : Sl1Cur → SAlgebra → Int → Int → Option ((List Int) × Sl1Cur)) (c0 : Sl1Cur) (a0 : SAlgebra) (depth0 : Int) (vars0 : Int) : Option ((List Int) × Sl1Cur) :=
 (Bb (Cs c0 a0 depth0 vars0) ((0 : Int), Au Int)).bind fun q7_9 =>
 ((((if depth0 = (0 : Int) then
 some (true, c0)
 else
 if (↑a0.Ops.length : Int) = (0 : Int) then
 some (true, c0)
 else
 (C7 (c0) ((4 : Int))).bind fun (r10, u11) =>
 some (r10, u11) : Option (Bool × Sl1Cur))).bind fun (q12_45, q12_96) =>
 if (q12_45) = true then
 ((if vars0 = (0 : Int) then
 some (true, q12_96)
 else
 if (↑q7_9.length : Int) > (0 : Int) then
 (C7 (q12_96) ((4 : Int))).bind fun (r16, u17) =>
 some (r16, u17)
 else
 some (false, q12_96) : Option (Bool × Sl1Cur))).bind fun (q18_56, q18_96) =>
 if (q18_56) = true then
 if (↑q7_9.length : Int) = (0 : Int) then
 some (.inl ([(0 : Int)], q18_96))
 else
 (Ak (q18_96) (q7_9)).bind fun (r21, u22) =>
 some (.inl ([r21], u22))
 else
 (Al (q18_96) (vars0)).bind fun (r23, u24) =>
 some (.inl ([r23], u24))
 else
 some (.inr q12_96) : Option (((List Int) × Sl1Cur) ⊕ Sl1Cur))).bind fun t => match t with
 | (.inl (q25_8, q25_96)) => (some (q25_8, q25_96))
 | (.inr q25_96) => ((Al (q25_96) ((↑a0.Ops.length : Int))).bind fun (r26, u27) =>
 ask (InI ((-1 : Int) - r26)) <|
 (Bb (B2 self a0 depth0 vars0 r26) ((0 : Int), [(-1 : Int) - r26], u27)).bind fun (q35_12, q35_96) =>
 some (q35_12, q35_96))
noncomputable def Av : Nat → Sl1Cur → SAlgebra → Int → Int → Option ((List Int) × Sl1Cur)
 | 0 => fun _ _ _ _ => none
 | n + 1 => Bl (Av n)
theorem Oe {self : Sl1Cur → SAlgebra → Int → Int → Option ((List Int) × Sl1Cur)} (hself : ∀ {w_0 w_1 w_2 w_3 v}, self w_0 w_1 w_2 w_3 = some v → Og Try.prog A8 [(rP true (Ai false)) w_0, (Ag false) w_1, Ae w_2, Ae w_3] ((slr true 1 Ae) v.1) 0 ((rP true (Ai false)) v.2)) {c0 : Sl1Cur} {a0 : SAlgebra} {depth0 : Int} {vars0 : Int} {v : ((List Int) × Sl1Cur)} (h : Bl self c0 a0 depth0 vars0 = some v) : Og Try.prog A8 [(rP true (Ai false)) c0, (Ag false) a0, Ae depth0, Ae vars0] ((slr true 1 Ae) v.1) 0 ((rP true (Ai false)) v.2) := by
 refine Nm Qv (Nat.le_of_ble_eq_true rfl) ?_
 unfold Bl at h
 conv => whnf
 refine BslQ.o Ae (Au Int) (by exact fun _ => ⟨rfl, rfl⟩) (by first | rfl | simp only [Aa, V.fz, fzL, V.up, upL, Ab, Ac, Ad, slr, List.cons_append, List.nil_append] | simp [Aa, V.fz, fzL, V.up, upL, Ab, Ac, Ad, slr]) ?_
 conv => whnf
 refine LoopQ.o [10, 9, 5, 0, 96, 2, 3] (Fh c0 a0 depth0 vars0) (Hx c0 a0 depth0 vars0) h (fun s o h => Ng s o h) (by first | rfl | simp [restrict, look, Aa, V.fz, fzL, V.up, upL, Ab, Ac, Ad, slr]) (fun _ => rfl) ?_
 rintro q7_9 h
 try dsimp only at h
 conv => whnf
 refine CutQ.o (fun t : (((List Int) × Sl1Cur) ⊕ Sl1Cur) => match t with | (.inl s) => (Ex.ret, [8, 96], [(8, A.val ((slr true 1 Ae) s.1)), (96, A.val ((rP true (Ai false)) s.2))]) | (.inr s) => (Ex.normal, [5, 0, 96, 2, 3], [(5, A.val ((rP true (Ag false)) (a0))), (0, A.ref 96 []), (96, A.val ((rP true (Ai false)) s)), (2, A.val (Ae (depth0))), (3, A.val (Ae (vars0)))])) h ?_ ?_
 ·intro t h
  conv => whnf
  refine CutQ.o (fun t : (Bool × Sl1Cur) => match t with | s => (Ex.normal, [45, 9, 5, 0, 96, 2, 3], [(45, A.val (V.bool s.1)), (9, A.val ((slr true 1 Ae) (q7_9))), (5, A.val ((rP true (Ag false)) (a0))), (0, A.ref 96 []), (96, A.val ((rP true (Ai false)) s.2)), (2, A.val (Ae (depth0))), (3, A.val (Ae (vars0)))])) h ?_ ?_
  ·intro t h
   conv => whnf
   refine Br.oe h (fun p8 h => ?_) (fun p8 h => ?_)
   ·conv => whnf
    refine Br.yes ?_
    conv => whnf
    refine Br.yes ?_
    conv => whnf
    refine Br.yes ?_
    conv => whnf
    refine Br.yes ?_
    conv => whnf
    refine Br.yes ?_
    conv => whnf
    refine Br.yes ?_
    conv => whnf
    refine Br.yes ?_
    conv => whnf
    cases h; exact ⟨rfl, rfl⟩
   conv => whnf
   refine Br.no ?_
   conv => whnf
   refine Cells.lit rfl rfl ?_
   conv => whnf
   refine Br.no ?_
   conv => whnf
   refine Len.map ?_
   conv => whnf
   refine Br.no ?_
   conv => whnf
   refine Br.no ?_
   conv => whnf
   refine Br.oe h (fun p9 h => ?_) (fun p9 h => ?_)
   ·conv => whnf
    refine Br.yes ?_
    conv => whnf
    refine Br.yes ?_
    conv => whnf
    cases h; exact ⟨rfl, rfl⟩
   conv => whnf
   refine Br.no ?_
   conv => whnf
   refine CallQ.io V.bool (rP true (Ai false)) (by first | rfl | simp only [Aa, V.fz, fzL, V.up, upL, Ab, Ac, Ad, slr, List.cons_append, List.nil_append] | simp [Aa, V.fz, fzL, V.up, upL, Ab, Ac, Ad, slr]) rfl (fun _ => rfl) (fun _ => ⟨rfl, rfl⟩) rfl h (fun r h => I0 h) (fun r10 u11 h => ?_)
   conv => whnf
   refine Br.no ?_
   conv => whnf
   cases h; exact ⟨rfl, rfl⟩
  rintro ⟨q12_45, q12_96⟩ h
  try dsimp only at h
  conv => whnf
  refine Br.ob h (fun p13 h => ?_) (fun p13 h => ?_)
  ·conv => whnf
   refine CutQ.o (fun t : (Bool × Sl1Cur) => match t with | s => (Ex.normal, [56, 9, 0, 96, 3], [(56, A.val (V.bool s.1)), (9, A.val ((slr true 1 Ae) (q7_9))), (0, A.ref 96 []), (96, A.val ((rP true (Ai false)) s.2)), (3, A.val (Ae (vars0)))])) h ?_ ?_
   ·intro t h
    conv => whnf
    refine Br.oe h (fun p14 h => ?_) (fun p14 h => ?_)
    ·conv => whnf
     refine Br.yes ?_
     conv => whnf
     refine Br.yes ?_
     conv => whnf
     refine Br.yes ?_
     conv => whnf
     refine Br.yes ?_
     conv => whnf
     refine Br.yes ?_
     conv => whnf
     cases h; exact ⟨rfl, rfl⟩
    conv => whnf
    refine Br.no ?_
    conv => whnf
    refine Len.map ?_
    conv => whnf
    refine Br.no ?_
    conv => whnf
    refine Br.no ?_
    conv => whnf
    refine Br.od h (fun p15 h => ?_) (fun p15 h => ?_)
    ·conv => whnf
     refine Br.yes ?_
     conv => whnf
     refine CallQ.io V.bool (rP true (Ai false)) (by first | rfl | simp only [Aa, V.fz, fzL, V.up, upL, Ab, Ac, Ad, slr, List.cons_append, List.nil_append] | simp [Aa, V.fz, fzL, V.up, upL, Ab, Ac, Ad, slr]) rfl (fun _ => rfl) (fun _ => ⟨rfl, rfl⟩) rfl h (fun r h => I0 h) (fun r16 u17 h => ?_)
     conv => whnf
     refine Br.no ?_
     conv => whnf
     refine Br.yes ?_
     conv => whnf
     refine Br.no ?_
     conv => whnf
     cases h; exact ⟨rfl, rfl⟩
    conv => whnf
    refine Br.no ?_
    conv => whnf
    refine Br.no ?_
    conv => whnf
    refine Br.no ?_
    conv => whnf
    refine Br.no ?_
    conv => whnf
    cases h; exact ⟨rfl, rfl⟩
   rintro ⟨q18_56, q18_96⟩ h
   try dsimp only at h
   conv => whnf
   refine Br.ob h (fun p19 h => ?_) (fun p19 h => ?_)
   ·conv => whnf
    refine Len.map ?_
    conv => whnf
    refine Br.oe h (fun p20 h => ?_) (fun p20 h => ?_)
    ·conv => whnf
     refine BslQ.o Ae ([(0 : Int)]) (by exact fun _ => ⟨rfl, rfl⟩) (by first | rfl | simp only [Aa, V.fz, fzL, V.up, upL, Ab, Ac, Ad, slr, List.cons_append, List.nil_append] | simp [Aa, V.fz, fzL, V.up, upL, Ab, Ac, Ad, slr]) ?_
     conv => whnf
     cases h; exact ⟨rfl, rfl⟩
    conv => whnf
    refine FrzQ.d (V.sl false (1 : Nat) (List.map Ae q7_9)) (by first | (simp only [slr]; done) | (simp [Kb, V.fz, Ab, slr]; done)) ?_
    conv => whnf
    refine CallQ.io Ae (rP true (Ai false)) (by first | rfl | simp only [Aa, V.fz, fzL, V.up, upL, Ab, Ac, Ad, slr, List.cons_append, List.nil_append] | simp [Aa, V.fz, fzL, V.up, upL, Ab, Ac, Ad, slr]) rfl (fun _ => rfl) (fun _ => ⟨rfl, rfl⟩) rfl h (fun r h => Ap h) (fun r21 u22 h => ?_)
    conv => whnf
    refine BslQ.o Ae [r21] (by exact fun _ => ⟨rfl, rfl⟩) (by first | rfl | simp only [Aa, V.fz, fzL, V.up, upL, Ab, Ac, Ad, slr, List.cons_append, List.nil_append] | simp [Aa, V.fz, fzL, V.up, upL, Ab, Ac, Ad, slr]) ?_
    conv => whnf
    cases h; exact ⟨rfl, rfl⟩
   conv => whnf
   refine CallQ.io Ae (rP true (Ai false)) (by first | rfl | simp only [Aa, V.fz, fzL, V.up, upL, Ab, Ac, Ad, slr, List.cons_append, List.nil_append] | simp [Aa, V.fz, fzL, V.up, upL, Ab, Ac, Ad, slr]) rfl (fun _ => rfl) (fun _ => ⟨rfl, rfl⟩) rfl h (fun r h => Aq h) (fun r23 u24 h => ?_)
   conv => whnf
   refine BslQ.o Ae [r23] (by exact fun _ => ⟨rfl, rfl⟩) (by first | rfl | simp only [Aa, V.fz, fzL, V.up, upL, Ab, Ac, Ad, slr, List.cons_append, List.nil_append] | simp [Aa, V.fz, fzL, V.up, upL, Ab, Ac, Ad, slr]) ?_
   conv => whnf
   cases h; exact ⟨rfl, rfl⟩
  conv => whnf
  cases h; exact ⟨rfl, rfl⟩
 rintro (⟨q25_8, q25_96⟩ | q25_96) h
 ·try dsimp only at h
  conv => whnf
  cases h; exact ⟨(by first | rfl | simp only [Ah, Aa, V.fz, fzL, V.up, upL, Ab, Ac, Ad, slr] | simp [Ah, Aa, V.fz, fzL, V.up, upL, Ab, Ac, Ad, slr]), (by first | rfl | simp only [Ah, Aa, V.fz, fzL, V.up, upL, Ab, Ac, Ad, slr] | simp [Ah, Aa, V.fz, fzL, V.up, upL, Ab, Ac, Ad, slr])⟩
 try dsimp only at h
 conv => whnf
 refine Cells.lit rfl rfl ?_
 conv => whnf
 refine Len.map ?_
 conv => whnf
 refine CallQ.io Ae (rP true (Ai false)) (by first | rfl | simp only [Aa, V.fz, fzL, V.up, upL, Ab, Ac, Ad, slr, List.cons_append, List.nil_append] | simp [Aa, V.fz, fzL, V.up, upL, Ab, Ac, Ad, slr]) rfl (fun _ => rfl) (fun _ => ⟨rfl, rfl⟩) rfl h (fun r h => Aq h) (fun r26 u27 h => ?_)
 conv => whnf
 refine Ask.o h fun p28 h => ?_
 conv => whnf
 refine BslQ.o Ae ([(-1 : Int) - r26]) (by exact fun _ => ⟨rfl, rfl⟩) (by first | rfl | simp only [Aa, V.fz, fzL, V.up, upL, Ab, Ac, Ad, slr, List.cons_append, List.nil_append] | simp [Aa, V.fz, fzL, V.up, upL, Ab, Ac, Ad, slr]) ?_
 conv => whnf
 refine LoopQ.o [13, 12, 11, 5, 0, 96, 2, 3] (Fi a0 depth0 vars0 r26) (H7 a0 depth0 vars0 r26) h (fun s o h => Nb hself s o h) (by first | rfl | simp [restrict, look, Aa, V.fz, fzL, V.up, upL, Ab, Ac, Ad, slr]) (fun _ => rfl) ?_
 rintro ⟨q35_12, q35_96⟩ h
 try dsimp only at h
 conv => whnf
 cases h; exact ⟨(by first | rfl | simp only [Ah, Aa, V.fz, fzL, V.up, upL, Ab, Ac, Ad, slr] | simp [Ah, Aa, V.fz, fzL, V.up, upL, Ab, Ac, Ad, slr]), (by first | rfl | simp only [Ah, Aa, V.fz, fzL, V.up, upL, Ab, Ac, Ad, slr] | simp [Ah, Aa, V.fz, fzL, V.up, upL, Ab, Ac, Ad, slr])⟩
theorem Ib : ∀ (n : Nat) {c0 : Sl1Cur} {a0 : SAlgebra} {depth0 : Int} {vars0 : Int} {v : ((List Int) × Sl1Cur)}, Av n c0 a0 depth0 vars0 = some v → Og Try.prog A8 [(rP true (Ai false)) c0, (Ag false) a0, Ae depth0, Ae vars0] ((slr true 1 Ae) v.1) 0 ((rP true (Ai false)) v.2)
 | 0, _, _, _, _, _, h => by cases h
 | n + 1, _, _, _, _, _, h => Oe (fun h => Ib n h) h
theorem Dv {c0 : Sl1Cur} {a0 : SAlgebra} {depth0 : Int} {vars0 : Int} {v : ((List Int) × Sl1Cur)} (h : (Oh fun n => Av n c0 a0 depth0 vars0) = some v) : Og Try.prog A8 [(rP true (Ai false)) c0, (Ag false) a0, Ae depth0, Ae vars0] ((slr true 1 Ae) v.1) 0 ((rP true (Ai false)) v.2) := by
 obtain ⟨n, hn⟩ := U3 h
 exact Ib n hn
noncomputable def Dr (a0 : SAlgebra) (t0 : (List Int)) (terms0 : (List (List Int))) : Option ((List Int) × Bool) :=
 (B0 (a0) (t0)).bind fun r1 =>
 if (r1) = true then
 if (↑terms0.length : Int) > (6 : Int) then
 some (Au Int, false)
 else
 (Fo (a0) (terms0)).bind fun r4 =>
 if (r4) = true then
 (Ei (t0) (terms0)).bind fun r6 =>
 some r6
 else
 some (Au Int, false)
 else
 some (Au Int, false)
theorem Ql {a0 : SAlgebra} {t0 : (List Int)} {terms0 : (List (List Int))} {v : ((List Int) × Bool)} (h : Dr a0 t0 terms0 = some v) : Ret Try.prog Gm [(Ag false) a0, (slr false 1 Ae) t0, (slr false 1 (slr false 1 Ae)) terms0] ((fun r => V.tup [(slr true 1 Ae) r.1, V.bool r.2]) v) := by
 refine Bf Qx (Nat.le_of_ble_eq_true rfl) ?_
 unfold Dr at h
 conv => whnf
 refine Cells.lit rfl rfl ?_
 conv => whnf
 refine CallQ.o V.bool (by first | rfl | simp only [Aa, V.fz, fzL, V.up, upL, Ab, Ac, Ad, slr, List.cons_append, List.nil_append] | simp [Aa, V.fz, fzL, V.up, upL, Ab, Ac, Ad, slr]) h (fun r h => Ek h) (fun r1 h => ?_)
 conv => whnf
 refine Br.flip ?_
 conv => whnf
 refine Br.ob h (fun p2 h => ?_) (fun p2 h => ?_)
 ·conv => whnf
  refine Br.no ?_
  conv => whnf
  refine Len.map ?_
  conv => whnf
  refine Br.no ?_
  conv => whnf
  refine Br.no ?_
  conv => whnf
  refine Br.od h (fun p3 h => ?_) (fun p3 h => ?_)
  ·conv => whnf
   refine Br.yes ?_
   conv => whnf
   refine Br.yes ?_
   conv => whnf
   refine Br.yes ?_
   conv => whnf
   refine Br.yes ?_
   conv => whnf
   refine Br.yes ?_
   conv => whnf
   refine BslQ.o Ae (Au Int) (by exact fun _ => ⟨rfl, rfl⟩) (by first | rfl | simp only [Aa, V.fz, fzL, V.up, upL, Ab, Ac, Ad, slr, List.cons_append, List.nil_append] | simp [Aa, V.fz, fzL, V.up, upL, Ab, Ac, Ad, slr]) ?_
   conv => whnf
   cases h; exact (by first | rfl | simp only [Ah, Aa, V.fz, fzL, V.up, upL, Ab, Ac, Ad, slr] | simp [Ah, Aa, V.fz, fzL, V.up, upL, Ab, Ac, Ad, slr])
  conv => whnf
  refine Cells.lit rfl rfl ?_
  conv => whnf
  refine Br.no ?_
  conv => whnf
  refine Br.no ?_
  conv => whnf
  refine CallQ.o V.bool (by first | rfl | simp only [Aa, V.fz, fzL, V.up, upL, Ab, Ac, Ad, slr, List.cons_append, List.nil_append] | simp [Aa, V.fz, fzL, V.up, upL, Ab, Ac, Ad, slr]) h (fun r h => Wl h) (fun r4 h => ?_)
  conv => whnf
  refine Br.no ?_
  conv => whnf
  refine Br.no ?_
  conv => whnf
  refine Br.flip ?_
  conv => whnf
  refine Br.ob h (fun p5 h => ?_) (fun p5 h => ?_)
  ·conv => whnf
   refine CallQ.o (fun r => V.tup [(slr true 1 Ae) r.1, V.bool r.2]) (by first | rfl | simp only [Aa, V.fz, fzL, V.up, upL, Ab, Ac, Ad, slr, List.cons_append, List.nil_append] | simp [Aa, V.fz, fzL, V.up, upL, Ab, Ac, Ad, slr]) h (fun r h => Sr h) (fun r6 h => ?_)
   conv => whnf
   cases h; exact (by first | rfl | simp only [Ah, Aa, V.fz, fzL, V.up, upL, Ab, Ac, Ad, slr] | simp [Ah, Aa, V.fz, fzL, V.up, upL, Ab, Ac, Ad, slr])
  conv => whnf
  refine BslQ.o Ae (Au Int) (by exact fun _ => ⟨rfl, rfl⟩) (by first | rfl | simp only [Aa, V.fz, fzL, V.up, upL, Ab, Ac, Ad, slr, List.cons_append, List.nil_append] | simp [Aa, V.fz, fzL, V.up, upL, Ab, Ac, Ad, slr]) ?_
  conv => whnf
  cases h; exact (by first | rfl | simp only [Ah, Aa, V.fz, fzL, V.up, upL, Ab, Ac, Ad, slr] | simp [Ah, Aa, V.fz, fzL, V.up, upL, Ab, Ac, Ad, slr])
 conv => whnf
 refine Br.yes ?_
 conv => whnf
 refine Br.yes ?_
 conv => whnf
 refine Br.yes ?_
 conv => whnf
 refine Br.yes ?_
 conv => whnf
 refine Br.yes ?_
 conv => whnf
 refine Br.yes ?_
 conv => whnf
 refine Br.yes ?_
 conv => whnf
 refine Br.yes ?_
 conv => whnf
 refine Br.yes ?_
 conv => whnf
 refine BslQ.o Ae (Au Int) (by exact fun _ => ⟨rfl, rfl⟩) (by first | rfl | simp only [Aa, V.fz, fzL, V.up, upL, Ab, Ac, Ad, slr, List.cons_append, List.nil_append] | simp [Aa, V.fz, fzL, V.up, upL, Ab, Ac, Ad, slr]) ?_
 conv => whnf
 cases h; exact (by first | rfl | simp only [Ah, Aa, V.fz, fzL, V.up, upL, Ab, Ac, Ad, slr] | simp [Ah, Aa, V.fz, fzL, V.up, upL, Ab, Ac, Ad, slr])
noncomputable def Ds (a0 : SAlgebra) (t0 : (List Int)) (terms0 : (List (List Int))) : Option ((List Int) × Bool) :=
 (Cr (a0) (t0)).bind fun r1 =>
 if (r1) = true then
 if (↑terms0.length : Int) > (6 : Int) then
 some (Au Int, false)
 else
 (Gx (a0) (terms0)).bind fun r4 =>
 if (r4) = true then
 (Dt (t0) (terms0)).bind fun r6 =>
 some r6
 else
 some (Au Int, false)
 else
 some (Au Int, false)
theorem Qw {a0 : SAlgebra} {t0 : (List Int)} {terms0 : (List (List Int))} {v : ((List Int) × Bool)} (h : Ds a0 t0 terms0 = some v) : Ret Try.prog Gi [(Ag false) a0, (slr false 1 Ae) t0, (slr false 1 (slr false 1 Ae)) terms0] ((fun r => V.tup [(slr true 1 Ae) r.1, V.bool r.2]) v) := by
 refine Bf Qf (Nat.le_of_ble_eq_true rfl) ?_
 unfold Ds at h
 conv => whnf
 refine Cells.lit rfl rfl ?_
 conv => whnf
 refine CallQ.o V.bool (by first | rfl | simp only [Aa, V.fz, fzL, V.up, upL, Ab, Ac, Ad, slr, List.cons_append, List.nil_append] | simp [Aa, V.fz, fzL, V.up, upL, Ab, Ac, Ad, slr]) h (fun r h => Fy h) (fun r1 h => ?_)
 conv => whnf
 refine Br.flip ?_
 conv => whnf
 refine Br.ob h (fun p2 h => ?_) (fun p2 h => ?_)
 ·conv => whnf
  refine Br.no ?_
  conv => whnf
  refine Len.map ?_
  conv => whnf
  refine Br.no ?_
  conv => whnf
  refine Br.no ?_
  conv => whnf
  refine Br.od h (fun p3 h => ?_) (fun p3 h => ?_)
  ·conv => whnf
   refine Br.yes ?_
   conv => whnf
   refine Br.yes ?_
   conv => whnf
   refine Br.yes ?_
   conv => whnf
   refine Br.yes ?_
   conv => whnf
   refine Br.yes ?_
   conv => whnf
   refine BslQ.o Ae (Au Int) (by exact fun _ => ⟨rfl, rfl⟩) (by first | rfl | simp only [Aa, V.fz, fzL, V.up, upL, Ab, Ac, Ad, slr, List.cons_append, List.nil_append] | simp [Aa, V.fz, fzL, V.up, upL, Ab, Ac, Ad, slr]) ?_
   conv => whnf
   cases h; exact (by first | rfl | simp only [Ah, Aa, V.fz, fzL, V.up, upL, Ab, Ac, Ad, slr] | simp [Ah, Aa, V.fz, fzL, V.up, upL, Ab, Ac, Ad, slr])
  conv => whnf
  refine Cells.lit rfl rfl ?_
  conv => whnf
  refine Br.no ?_
  conv => whnf
  refine Br.no ?_
  conv => whnf
  refine CallQ.o V.bool (by first | rfl | simp only [Aa, V.fz, fzL, V.up, upL, Ab, Ac, Ad, slr, List.cons_append, List.nil_append] | simp [Aa, V.fz, fzL, V.up, upL, Ab, Ac, Ad, slr]) h (fun r h => Z2 h) (fun r4 h => ?_)
  conv => whnf
  refine Br.no ?_
  conv => whnf
  refine Br.no ?_
  conv => whnf
  refine Br.flip ?_
  conv => whnf
  refine Br.ob h (fun p5 h => ?_) (fun p5 h => ?_)
  ·conv => whnf
   refine CallQ.o (fun r => V.tup [(slr true 1 Ae) r.1, V.bool r.2]) (by first | rfl | simp only [Aa, V.fz, fzL, V.up, upL, Ab, Ac, Ad, slr, List.cons_append, List.nil_append] | simp [Aa, V.fz, fzL, V.up, upL, Ab, Ac, Ad, slr]) h (fun r h => Qh h) (fun r6 h => ?_)
   conv => whnf
   cases h; exact (by first | rfl | simp only [Ah, Aa, V.fz, fzL, V.up, upL, Ab, Ac, Ad, slr] | simp [Ah, Aa, V.fz, fzL, V.up, upL, Ab, Ac, Ad, slr])
  conv => whnf
  refine BslQ.o Ae (Au Int) (by exact fun _ => ⟨rfl, rfl⟩) (by first | rfl | simp only [Aa, V.fz, fzL, V.up, upL, Ab, Ac, Ad, slr, List.cons_append, List.nil_append] | simp [Aa, V.fz, fzL, V.up, upL, Ab, Ac, Ad, slr]) ?_
  conv => whnf
  cases h; exact (by first | rfl | simp only [Ah, Aa, V.fz, fzL, V.up, upL, Ab, Ac, Ad, slr] | simp [Ah, Aa, V.fz, fzL, V.up, upL, Ab, Ac, Ad, slr])
 conv => whnf
 refine Br.yes ?_
 conv => whnf
 refine Br.yes ?_
 conv => whnf
 refine Br.yes ?_
 conv => whnf
 refine Br.yes ?_
 conv => whnf
 refine Br.yes ?_
 conv => whnf
 refine Br.yes ?_
 conv => whnf
 refine Br.yes ?_
 conv => whnf
 refine Br.yes ?_
 conv => whnf
 refine Br.yes ?_
 conv => whnf
 refine BslQ.o Ae (Au Int) (by exact fun _ => ⟨rfl, rfl⟩) (by first | rfl | simp only [Aa, V.fz, fzL, V.up, upL, Ab, Ac, Ad, slr, List.cons_append, List.nil_append] | simp [Aa, V.fz, fzL, V.up, upL, Ab, Ac, Ad, slr]) ?_
 conv => whnf
 cases h; exact (by first | rfl | simp only [Ah, Aa, V.fz, fzL, V.up, upL, Ab, Ac, Ad, slr] | simp [Ah, Aa, V.fz, fzL, V.up, upL, Ab, Ac, Ad, slr])
end Go.Proofs.Ytjinhobffbppbaa.Ax
