/-
 What the functions compute, as functions on plain data, and that the program does compute it; written by program.
-/
import Derived.Test.YtidaaijecmkndaaCode
import Derived.Test.YtidaaijecmkndaaSo5
import Derived.Test.YtidaaijecmkndaaG1
import Derived.Test.YtidaaijecmkndaaG3
import Derived.Test.YtidaaijecmkndaaG5
import Derived.Test.YtidaaijecmkndaaG6
import Derived.Test.YtidaaijecmkndaaG8
namespace Go.Proofs.Ytidaaijecmkndaa.Ax
open Go
set_option maxRecDepth 100000
set_option maxHeartbeats 4000000
noncomputable def Bl (a0 : SAlgebra) (_x8 : Int) (_x7 : List (List Int)) (x6 : List Bool) (r6 : List Bool) : (Int × (List Int)) → Option ((Int × (List Int)) ⊕ (List Int)) := fun (x11, x10) =>
 if x11 < a0.Size then
 ask ((0 : Int) ≤ x11 ∧ x11 < (↑r6.length : Int)) <|
 if (nth r6 x11.toNat) = true then
 ask ((0 : Int) ≤ x11 ∧ x11 < (↑x6.length : Int)) <|
 if (nth x6 x11.toNat) = true then
 ask (InI (x11 + (1 : Int))) <|
 some (.inl (x11 + (1 : Int), x10))
 else
 ask ((x10).length + ([x11]).length ≤ LIM) <|
 ask (InI (x11 + (1 : Int))) <|
 some (.inl (x11 + (1 : Int), x10 ++ [x11]))
 else
 ask (InI (x11 + (1 : Int))) <|
 some (.inl (x11 + (1 : Int), x10))
 else
 some (.inr x10)
def Eu (a0 : SAlgebra) (x8 : Int) (x7 : List (List Int)) (x6 : List Bool) (r6 : List Bool) : (Int × (List Int)) → St := fun s => [(11, A.val (Af s.1)), (10, A.val ((slr true 1 Af) s.2)), (9, A.val ((slr true 1 V.bool) (r6))), (8, A.val (Af (x8))), (7, A.val ((slr true 1 (slr true 1 Af)) (x7))), (6, A.val ((slr true 1 V.bool) (x6))), (2, A.val ((rP true (Ah false)) (a0)))]
def Ht (a0 : SAlgebra) (x8 : Int) (x7 : List (List Int)) (_x6 : List Bool) (r6 : List Bool) : (List Int) → Tgt
 | s => ((Ex.exit 2), [10, 9, 8, 7, 2], [(10, A.val ((slr true 1 Af) s)), (9, A.val ((slr true 1 V.bool) (r6))), (8, A.val (Af (x8))), (7, A.val ((slr true 1 (slr true 1 Af)) (x7))), (2, A.val ((rP true (Ah false)) (a0)))])
theorem Nl {a0 : SAlgebra} {x8 : Int} {x7 : List (List Int)} {x6 : List Bool} {r6 : List Bool} (s : (Int × (List Int))) (o : (Int × (List Int)) ⊕ (List Int)) (h : Bl a0 x8 x7 x6 r6 s = some o) : vc Try.prog Hl (Dl [11, 10, 9, 8, 7, 6, 2] (Eu a0 x8 x7 x6 r6) (Ht a0 x8 x7 x6 r6) o) (Eu a0 x8 x7 x6 r6 s) := by
 obtain ⟨x11, x10⟩ := s
 unfold Bl at h
 try dsimp only at h
 conv => whnf
 refine Cells.lit rfl rfl ?_
 conv => whnf
 refine Br.od h (fun p7 h => ?_) (fun p7 h => ?_)
 ·conv => whnf
  refine Len.map ?_
  conv => whnf
  refine Ask.o h fun p8 h => ?_
  conv => whnf
  refine Cells.one (fun _ => ⟨rfl, rfl⟩) (by first | omega | (simp [Au] at *; omega)) ?_
  conv => whnf
  refine Br.ob h (fun p9 h => ?_) (fun p9 h => ?_)
  ·conv => whnf
   refine Br.yes ?_
   conv => whnf
   refine Br.yes ?_
   conv => whnf
   refine Len.map ?_
   conv => whnf
   refine Ask.o h fun p10 h => ?_
   conv => whnf
   refine Br.yes ?_
   conv => whnf
   refine Cells.one (fun _ => ⟨rfl, rfl⟩) (by first | omega | (simp [Au] at *; omega)) ?_
   conv => whnf
   refine Br.yes ?_
   conv => whnf
   refine Br.yes ?_
   conv => whnf
   refine Br.flip ?_
   conv => whnf
   refine Br.ob h (fun p11 h => ?_) (fun p11 h => ?_)
   ·conv => whnf
    refine Ask.o h fun p12 h => ?_
    conv => whnf
    cases h; exact ⟨rfl, rfl⟩
   conv => whnf
   refine BslQ.o Af [x11] (by exact fun _ => ⟨rfl, rfl⟩) (by first | rfl | simp only [Aa, V.fz, fzL, V.up, upL, Ab, Ac, Ad, slr, List.cons_append, List.nil_append] | simp [Aa, V.fz, fzL, V.up, upL, Ab, Ac, Ad, slr]) ?_
   conv => whnf
   refine NoOwn.o (fun _ => rfl) ?_
   conv => whnf
   refine AppQ.o (m := 1) Af (by exact fun _ => ⟨rfl, rfl⟩) (x10) ([x11]) (by first | rfl | simp only [Aa, V.fz, fzL, V.up, upL, Ab, Ac, Ad, slr, List.cons_append, List.nil_append] | simp [Aa, V.fz, fzL, V.up, upL, Ab, Ac, Ad, slr]) (by first | rfl | simp only [Aa, V.fz, fzL, V.up, upL, Ab, Ac, Ad, slr, List.cons_append, List.nil_append] | simp [Aa, V.fz, fzL, V.up, upL, Ab, Ac, Ad, slr]) h fun h => ?_
   conv => whnf
   refine Ask.o h fun p13 h => ?_
   conv => whnf
   cases h; exact ⟨rfl, rfl⟩
  conv => whnf
  refine Br.no ?_
  conv => whnf
  refine Br.no ?_
  conv => whnf
  refine Br.no ?_
  conv => whnf
  refine Br.no ?_
  conv => whnf
  refine Br.no ?_
  conv => whnf
  refine Br.no ?_
  conv => whnf
  refine Ask.o h fun p14 h => ?_
  conv => whnf
  cases h; exact ⟨rfl, rfl⟩
 conv => whnf
 cases h; exact ⟨rfl, rfl⟩
noncomputable def Bi (a0 : SAlgebra) : (Int × (List (List Int)) × (List Bool)) → Option ((Int × (List (List Int)) × (List Bool)) ⊕ ((List (List Int)) ⊕ (List (List Int)))) := fun (x8, x7, x6) =>
 if x8 ≤ a0.Size then
 (Fl (a0) (x6)).bind fun r6 =>
 (Ap (Bl a0 x8 x7 x6 r6) ((0 : Int), A9 Int)).bind fun q15_10 =>
 if (↑q15_10.length : Int) = (0 : Int) then
 some (.inr (.inl x7))
 else
 ask ((x7).length + ([q15_10]).length ≤ LIM) <|
 ask (InI (x8 + (1 : Int))) <|
 some (.inl (x8 + (1 : Int), x7 ++ [q15_10], r6))
 else
 some (.inr (.inr x7))
def Ew (a0 : SAlgebra) : (Int × (List (List Int)) × (List Bool)) → St := fun s => [(8, A.val (Af s.1)), (7, A.val ((slr true 1 (slr true 1 Af)) s.2.1)), (6, A.val ((slr true 1 V.bool) s.2.2)), (2, A.val ((rP true (Ah false)) (a0)))]
def G5 (_a0 : SAlgebra) : ((List (List Int)) ⊕ (List (List Int))) → Tgt
 | (.inl s) => (Ex.ret, [5, 4], [(5, A.val (V.bool (true))), (4, A.val ((slr true 1 (slr true 1 Af)) s))])
 | (.inr s) => ((Ex.exit 0), [7], [(7, A.val ((slr true 1 (slr true 1 Af)) s))])
theorem Nb {a0 : SAlgebra} (s : (Int × (List (List Int)) × (List Bool))) (o : (Int × (List (List Int)) × (List Bool)) ⊕ ((List (List Int)) ⊕ (List (List Int)))) (h : Bi a0 s = some o) : vc Try.prog Hv (Dl [8, 7, 6, 2] (Ew a0) (G5 a0) o) (Ew a0 s) := by
 obtain ⟨x8, x7, x6⟩ := s
 unfold Bi at h
 try dsimp only at h
 conv => whnf
 refine Cells.lit rfl rfl ?_
 conv => whnf
 refine Br.od h (fun p5 h => ?_) (fun p5 h => ?_)
 ·conv => whnf
  refine Cells.lit rfl rfl ?_
  conv => whnf
  refine CallQ.rd (slr true 1 V.bool) (by first | rfl | simp only [V.fz, fzL, Ab, slr] | simp [Aa, V.fz, fzL, V.up, upL, Ab, Ac, Ad, slr]) (fun _ => by simp [V.noFz, Bo]) h (fun r h => V7 h) (fun r6 h => ?_)
  conv => whnf
  refine BslQ.o Af (A9 Int) (by exact fun _ => ⟨rfl, rfl⟩) (by first | rfl | simp only [Aa, V.fz, fzL, V.up, upL, Ab, Ac, Ad, slr, List.cons_append, List.nil_append] | simp [Aa, V.fz, fzL, V.up, upL, Ab, Ac, Ad, slr]) ?_
  conv => whnf
  refine LoopQ.o [11, 10, 9, 8, 7, 6, 2] (Eu a0 x8 x7 x6 r6) (Ht a0 x8 x7 x6 r6) h (fun s o h => Nl s o h) (by first | rfl | simp [restrict, look, Aa, V.fz, fzL, V.up, upL, Ab, Ac, Ad, slr]) (fun _ => rfl) ?_
  rintro q15_10 h
  try dsimp only at h
  conv => whnf
  refine Len.map ?_
  conv => whnf
  refine Br.oe h (fun p16 h => ?_) (fun p16 h => ?_)
  ·conv => whnf
   cases h; exact ⟨rfl, rfl⟩
  conv => whnf
  refine BslQ.o (slr true 1 Af) [q15_10] (by exact fun _ => ⟨rfl, rfl⟩) (by first | rfl | simp only [Aa, V.fz, fzL, V.up, upL, Ab, Ac, Ad, slr, List.cons_append, List.nil_append] | simp [Aa, V.fz, fzL, V.up, upL, Ab, Ac, Ad, slr]) ?_
  conv => whnf
  refine NoOwn.own rfl ?_
  conv => whnf
  refine AppQ.o (m := 1) (slr true 1 Af) (by exact fun _ => ⟨rfl, rfl⟩) (x7) ([q15_10]) (by first | rfl | simp only [Aa, V.fz, fzL, V.up, upL, Ab, Ac, Ad, slr, List.cons_append, List.nil_append] | simp [Aa, V.fz, fzL, V.up, upL, Ab, Ac, Ad, slr]) (by first | rfl | simp only [Aa, V.fz, fzL, V.up, upL, Ab, Ac, Ad, slr, List.cons_append, List.nil_append] | simp [Aa, V.fz, fzL, V.up, upL, Ab, Ac, Ad, slr]) h fun h => ?_
  conv => whnf
  refine Ask.o h fun p17 h => ?_
  conv => whnf
  cases h; exact ⟨rfl, rfl⟩
 conv => whnf
 cases h; exact ⟨rfl, rfl⟩
noncomputable def Bp (a0 : SAlgebra) (some0 : (List Int)) : Option ((List (List Int)) × Bool) :=
 (Gw (a0) (some0)).bind fun r1 =>
 if (r1) = true then
 (Ji (a0.Size) (some0)).bind fun r3 =>
 (Gu (r3)).bind fun r4 =>
 (Ap (Bi a0) ((0 : Int), [r4], r3)).bind fun t => match t with
 | (.inl q18_4) => (some (q18_4, true))
 | (.inr q18_7) => (some (q18_7, true))
 else
 some (A9 (List Int), false)
theorem P7 {a0 : SAlgebra} {some0 : (List Int)} {v : ((List (List Int)) × Bool)} (h : Bp a0 some0 = some v) : Ret Try.prog Fu [(Ah false) a0, (slr false 1 Af) some0] ((fun r => V.tup [(slr true 1 (slr true 1 Af)) r.1, V.bool r.2]) v) := by
 refine A7 Q1 (Nat.le_of_ble_eq_true rfl) ?_
 unfold Bp at h
 conv => whnf
 refine Cells.lit rfl rfl ?_
 conv => whnf
 refine CallQ.o V.bool (by first | rfl | simp only [Aa, V.fz, fzL, V.up, upL, Ab, Ac, Ad, slr, List.cons_append, List.nil_append] | simp [Aa, V.fz, fzL, V.up, upL, Ab, Ac, Ad, slr]) h (fun r h => V8 h) (fun r1 h => ?_)
 conv => whnf
 refine Br.flip ?_
 conv => whnf
 refine Br.ob h (fun p2 h => ?_) (fun p2 h => ?_)
 ·conv => whnf
  refine Cells.lit rfl rfl ?_
  conv => whnf
  refine CallQ.o (slr true 1 V.bool) (by first | rfl | simp only [Aa, V.fz, fzL, V.up, upL, Ab, Ac, Ad, slr, List.cons_append, List.nil_append] | simp [Aa, V.fz, fzL, V.up, upL, Ab, Ac, Ad, slr]) h (fun r h => Aaw h) (fun r3 h => ?_)
  conv => whnf
  refine CallQ.rd (slr true 1 Af) (by first | rfl | simp only [V.fz, Ab, slr] | simp [Aa, V.fz, fzL, V.up, upL, Ab, Ac, Ad, slr]) (fun _ => by simp [V.noFz, Bo]) h (fun r h => V1 h) (fun r4 h => ?_)
  conv => whnf
  refine BslQ.o (slr true 1 Af) [r4] (by exact fun _ => ⟨rfl, rfl⟩) (by first | rfl | simp only [Aa, V.fz, fzL, V.up, upL, Ab, Ac, Ad, slr, List.cons_append, List.nil_append] | simp [Aa, V.fz, fzL, V.up, upL, Ab, Ac, Ad, slr]) ?_
  conv => whnf
  refine LoopQ.o [8, 7, 6, 2] (Ew a0) (G5 a0) h (fun s o h => Nb s o h) (by first | rfl | simp [restrict, look, Aa, V.fz, fzL, V.up, upL, Ab, Ac, Ad, slr]) (by rintro (_ | _) <;> rfl) ?_
  rintro (q18_4 | q18_7) h
  ·try dsimp only at h
   conv => whnf
   cases h; exact (by first | rfl | simp only [Ag, Aa, V.fz, fzL, V.up, upL, Ab, Ac, Ad, slr] | simp [Ag, Aa, V.fz, fzL, V.up, upL, Ab, Ac, Ad, slr])
  try dsimp only at h
  conv => whnf
  cases h; exact (by first | rfl | simp only [Ag, Aa, V.fz, fzL, V.up, upL, Ab, Ac, Ad, slr] | simp [Ag, Aa, V.fz, fzL, V.up, upL, Ab, Ac, Ad, slr])
 conv => whnf
 refine BslQ.o (slr true 1 Af) (A9 (List Int)) (by exact fun _ => ⟨rfl, rfl⟩) (by first | rfl | simp only [Aa, V.fz, fzL, V.up, upL, Ab, Ac, Ad, slr, List.cons_append, List.nil_append] | simp [Aa, V.fz, fzL, V.up, upL, Ab, Ac, Ad, slr]) ?_
 conv => whnf
 cases h; exact (by first | rfl | simp only [Ag, Aa, V.fz, fzL, V.up, upL, Ab, Ac, Ad, slr] | simp [Ag, Aa, V.fz, fzL, V.up, upL, Ab, Ac, Ad, slr])
noncomputable def Co (a0 : SAlgebra) (sub0 : (List Int)) : Option (Bool × Bool) :=
 (Cr (a0)).bind fun r1 =>
 if (r1) = true then
 (E8 (a0) (sub0)).bind fun r3 =>
 some (r3, true)
 else
 some (false, false)
theorem Ue {a0 : SAlgebra} {sub0 : (List Int)} {v : (Bool × Bool)} (h : Co a0 sub0 = some v) : Ret Try.prog Hi [(Ah false) a0, (slr false 1 Af) sub0] ((fun r => V.tup [V.bool r.1, V.bool r.2]) v) := by
 refine A7 Tl (Nat.le_of_ble_eq_true rfl) ?_
 unfold Co at h
 conv => whnf
 refine Cells.lit rfl rfl ?_
 conv => whnf
 refine CallQ.o V.bool (by first | rfl | simp only [Aa, V.fz, fzL, V.up, upL, Ab, Ac, Ad, slr, List.cons_append, List.nil_append] | simp [Aa, V.fz, fzL, V.up, upL, Ab, Ac, Ad, slr]) h (fun r h => H6 h) (fun r1 h => ?_)
 conv => whnf
 refine Br.flip ?_
 conv => whnf
 refine Br.ob h (fun p2 h => ?_) (fun p2 h => ?_)
 ·conv => whnf
  refine Cells.lit rfl rfl ?_
  conv => whnf
  refine CallQ.o V.bool (by first | rfl | simp only [Aa, V.fz, fzL, V.up, upL, Ab, Ac, Ad, slr, List.cons_append, List.nil_append] | simp [Aa, V.fz, fzL, V.up, upL, Ab, Ac, Ad, slr]) h (fun r h => Mu h) (fun r3 h => ?_)
  conv => whnf
  cases h; exact (by first | rfl | simp only [Ag, Aa, V.fz, fzL, V.up, upL, Ab, Ac, Ad, slr] | simp [Ag, Aa, V.fz, fzL, V.up, upL, Ab, Ac, Ad, slr])
 conv => whnf
 cases h; exact (by first | rfl | simp only [Ag, Aa, V.fz, fzL, V.up, upL, Ab, Ac, Ad, slr] | simp [Ag, Aa, V.fz, fzL, V.up, upL, Ab, Ac, Ad, slr])
noncomputable def Cj (x0 : List Int) (y0 : List Int) : (Int × (List Int)) → Option ((Int × (List Int)) ⊕ (List Int)) := fun (x9, x8) =>
 if x9 < (↑x0.length : Int) then
 ask ((0 : Int) ≤ x9 ∧ x9 < (↑x0.length : Int)) <|
 (Jw (y0) (nth x0 x9.toNat)).bind fun r10 =>
 if (r10) = true then
 ask ((0 : Int) ≤ x9 ∧ x9 < (↑x0.length : Int)) <|
 ask ((x8).length + ([nth x0 x9.toNat]).length ≤ LIM) <|
 ask (InI (x9 + (1 : Int))) <|
 some (.inl (x9 + (1 : Int), x8 ++ [nth x0 x9.toNat]))
 else
 ask (InI (x9 + (1 : Int))) <|
 some (.inl (x9 + (1 : Int), x8))
 else
 some (.inr x8)
def I7 (x0 : List Int) (y0 : List Int) : (Int × (List Int)) → St := fun s => [(9, A.val (Af s.1)), (8, A.val ((slr true 1 Af) s.2)), (1, A.val ((slr false 1 Af) (x0))), (2, A.val ((slr false 1 Af) (y0)))]
def Nj (_x0 : List Int) (_y0 : List Int) : (List Int) → Tgt
 | s => ((Ex.exit 0), [8], [(8, A.val ((slr true 1 Af) s))])
theorem Wt {x0 : List Int} {y0 : List Int} (s : (Int × (List Int))) (o : (Int × (List Int)) ⊕ (List Int)) (h : Cj x0 y0 s = some o) : vc Try.prog Nh (Dl [9, 8, 1, 2] (I7 x0 y0) (Nj x0 y0) o) (I7 x0 y0 s) := by
 obtain ⟨x9, x8⟩ := s
 unfold Cj at h
 try dsimp only at h
 conv => whnf
 refine Len.map ?_
 conv => whnf
 refine Br.od h (fun p8 h => ?_) (fun p8 h => ?_)
 ·conv => whnf
  refine Len.map ?_
  conv => whnf
  refine Ask.o h fun p9 h => ?_
  conv => whnf
  refine Elem.o (by first | omega | (simp [Au] at *; omega)) ?_
  conv => whnf
  refine CallQ.o V.bool (by first | rfl | simp only [Aa, V.fz, fzL, V.up, upL, Ab, Ac, Ad, slr, List.cons_append, List.nil_append] | simp [Aa, V.fz, fzL, V.up, upL, Ab, Ac, Ad, slr]) h (fun r h => Ai4 h) (fun r10 h => ?_)
  conv => whnf
  refine Br.ob h (fun p11 h => ?_) (fun p11 h => ?_)
  ·conv => whnf
   refine Len.map ?_
   conv => whnf
   refine Ask.o h fun p12 h => ?_
   conv => whnf
   refine Elem.o (by first | omega | (simp [Au] at *; omega)) ?_
   conv => whnf
   refine BslQ.o Af ([nth x0 x9.toNat]) (by exact fun _ => ⟨rfl, rfl⟩) (by first | rfl | simp only [Aa, V.fz, fzL, V.up, upL, Ab, Ac, Ad, slr, List.cons_append, List.nil_append] | simp [Aa, V.fz, fzL, V.up, upL, Ab, Ac, Ad, slr]) ?_
   conv => whnf
   refine NoOwn.o (fun _ => rfl) ?_
   conv => whnf
   refine AppQ.o (m := 1) Af (by exact fun _ => ⟨rfl, rfl⟩) (x8) ([nth x0 x9.toNat]) (by first | rfl | simp only [Aa, V.fz, fzL, V.up, upL, Ab, Ac, Ad, slr, List.cons_append, List.nil_append] | simp [Aa, V.fz, fzL, V.up, upL, Ab, Ac, Ad, slr]) (by first | rfl | simp only [Aa, V.fz, fzL, V.up, upL, Ab, Ac, Ad, slr, List.cons_append, List.nil_append] | simp [Aa, V.fz, fzL, V.up, upL, Ab, Ac, Ad, slr]) h fun h => ?_
   conv => whnf
   refine Ask.o h fun p13 h => ?_
   conv => whnf
   cases h; exact ⟨rfl, rfl⟩
  conv => whnf
  refine Ask.o h fun p14 h => ?_
  conv => whnf
  cases h; exact ⟨rfl, rfl⟩
 conv => whnf
 cases h; exact ⟨rfl, rfl⟩
noncomputable def Gj (a0 : SAlgebra) (x0 : (List Int)) (y0 : (List Int)) : Option ((List Int) × Bool) :=
 (((Cw (a0)).bind fun r1 =>
 if (r1) = true then
 (Dt (a0) (x0)).bind fun r3 =>
 if (r3) = true then
 (Dt (a0) (y0)).bind fun r5 =>
 if (r5) = true then
 some (.inl ())
 else
 some (.inr ())
 else
 some (.inr ())
 else
 some (.inr ()) : Option (Unit ⊕ Unit))).bind fun t => match t with
 | (.inl _) => ((Ap (Cj x0 y0) ((0 : Int), A9 Int)).bind fun q15_8 =>
 some (q15_8, true))
 | (.inr _) => (some (A9 Int, false))
theorem Ab7 {a0 : SAlgebra} {x0 : (List Int)} {y0 : (List Int)} {v : ((List Int) × Bool)} (h : Gj a0 x0 y0 = some v) : Ret Try.prog Me [(Ah false) a0, (slr false 1 Af) x0, (slr false 1 Af) y0] ((fun r => V.tup [(slr true 1 Af) r.1, V.bool r.2]) v) := by
 refine A7 Abj (Nat.le_of_ble_eq_true rfl) ?_
 unfold Gj at h
 conv => whnf
 refine BslQ.o Af (A9 Int) (by exact fun _ => ⟨rfl, rfl⟩) (by first | rfl | simp only [Aa, V.fz, fzL, V.up, upL, Ab, Ac, Ad, slr, List.cons_append, List.nil_append] | simp [Aa, V.fz, fzL, V.up, upL, Ab, Ac, Ad, slr]) ?_
 conv => whnf
 refine CutQ.o (fun t : (Unit ⊕ Unit) => match t with | (.inl s) => (Ex.normal, [8, 1, 2], [(8, A.val ((slr true 1 Af) (A9 Int))), (1, A.val ((slr false 1 Af) (x0))), (2, A.val ((slr false 1 Af) (y0)))]) | (.inr s) => (Ex.ret, [7, 6], [(7, A.val (V.bool (false))), (6, A.val ((slr true 1 Af) (A9 Int)))])) h ?_ ?_
 ·intro t h
  conv => whnf
  refine Cells.lit rfl rfl ?_
  conv => whnf
  refine CallQ.o V.bool (by first | rfl | simp only [Aa, V.fz, fzL, V.up, upL, Ab, Ac, Ad, slr, List.cons_append, List.nil_append] | simp [Aa, V.fz, fzL, V.up, upL, Ab, Ac, Ad, slr]) h (fun r h => Iw h) (fun r1 h => ?_)
  conv => whnf
  refine Br.flip ?_
  conv => whnf
  refine Br.ob h (fun p2 h => ?_) (fun p2 h => ?_)
  ·conv => whnf
   refine Cells.lit rfl rfl ?_
   conv => whnf
   refine Br.no ?_
   conv => whnf
   refine Br.no ?_
   conv => whnf
   refine CallQ.o V.bool (by first | rfl | simp only [Aa, V.fz, fzL, V.up, upL, Ab, Ac, Ad, slr, List.cons_append, List.nil_append] | simp [Aa, V.fz, fzL, V.up, upL, Ab, Ac, Ad, slr]) h (fun r h => Lv h) (fun r3 h => ?_)
   conv => whnf
   refine Br.no ?_
   conv => whnf
   refine Br.no ?_
   conv => whnf
   refine Br.flip ?_
   conv => whnf
   refine Br.ob h (fun p4 h => ?_) (fun p4 h => ?_)
   ·conv => whnf
    refine Cells.lit rfl rfl ?_
    conv => whnf
    refine Br.no ?_
    conv => whnf
    refine Br.no ?_
    conv => whnf
    refine CallQ.o V.bool (by first | rfl | simp only [Aa, V.fz, fzL, V.up, upL, Ab, Ac, Ad, slr, List.cons_append, List.nil_append] | simp [Aa, V.fz, fzL, V.up, upL, Ab, Ac, Ad, slr]) h (fun r h => Lv h) (fun r5 h => ?_)
    conv => whnf
    refine Br.no ?_
    conv => whnf
    refine Br.no ?_
    conv => whnf
    refine Br.flip ?_
    conv => whnf
    refine Br.ob h (fun p6 h => ?_) (fun p6 h => ?_)
    ·conv => whnf
     cases h; exact ⟨rfl, rfl⟩
    conv => whnf
    cases h; exact ⟨rfl, rfl⟩
   conv => whnf
   refine Br.yes ?_
   conv => whnf
   refine Br.yes ?_
   conv => whnf
   refine Br.yes ?_
   conv => whnf
   refine Br.yes ?_
   conv => whnf
   refine Br.yes ?_
   conv => whnf
   cases h; exact ⟨rfl, rfl⟩
  conv => whnf
  refine Br.yes ?_
  conv => whnf
  refine Br.yes ?_
  conv => whnf
  refine Br.yes ?_
  conv => whnf
  refine Br.yes ?_
  conv => whnf
  refine Br.yes ?_
  conv => whnf
  refine Br.yes ?_
  conv => whnf
  refine Br.yes ?_
  conv => whnf
  refine Br.yes ?_
  conv => whnf
  refine Br.yes ?_
  conv => whnf
  refine Br.yes ?_
  conv => whnf
  cases h; exact ⟨rfl, rfl⟩
 rintro (⟨⟩ | ⟨⟩) h
 ·try dsimp only at h
  conv => whnf
  refine LoopQ.o [9, 8, 1, 2] (I7 x0 y0) (Nj x0 y0) h (fun s o h => Wt s o h) (by first | rfl | simp [restrict, look, Aa, V.fz, fzL, V.up, upL, Ab, Ac, Ad, slr]) (fun _ => rfl) ?_
  rintro q15_8 h
  try dsimp only at h
  conv => whnf
  cases h; exact (by first | rfl | simp only [Ag, Aa, V.fz, fzL, V.up, upL, Ab, Ac, Ad, slr] | simp [Ag, Aa, V.fz, fzL, V.up, upL, Ab, Ac, Ad, slr])
 try dsimp only at h
 conv => whnf
 cases h; exact (by first | rfl | simp only [Ag, Aa, V.fz, fzL, V.up, upL, Ab, Ac, Ad, slr] | simp [Ag, Aa, V.fz, fzL, V.up, upL, Ab, Ac, Ad, slr])
noncomputable def Gl (a0 : SAlgebra) (x0 : (List Int)) (y0 : (List Int)) : Option ((List Int) × Bool) :=
 (((Cw (a0)).bind fun r1 =>
 if (r1) = true then
 (Dt (a0) (x0)).bind fun r3 =>
 if (r3) = true then
 (Dt (a0) (y0)).bind fun r5 =>
 if (r5) = true then
 some (.inl ())
 else
 some (.inr ())
 else
 some (.inr ())
 else
 some (.inr ()) : Option (Unit ⊕ Unit))).bind fun t => match t with
 | (.inl _) => ((H3 (x0)).bind fun r8 =>
 ask ((r8).length + (y0).length ≤ LIM) <|
 (Dq (a0) (r8 ++ y0)).bind fun r9 =>
 some (r9, true))
 | (.inr _) => (some (A9 Int, false))
theorem Ab5 {a0 : SAlgebra} {x0 : (List Int)} {y0 : (List Int)} {v : ((List Int) × Bool)} (h : Gl a0 x0 y0 = some v) : Ret Try.prog L8 [(Ah false) a0, (slr false 1 Af) x0, (slr false 1 Af) y0] ((fun r => V.tup [(slr true 1 Af) r.1, V.bool r.2]) v) := by
 refine A7 Ab9 (Nat.le_of_ble_eq_true rfl) ?_
 unfold Gl at h
 conv => whnf
 refine CutQ.o (fun t : (Unit ⊕ Unit) => match t with | (.inl s) => (Ex.normal, [3, 1, 2], [(3, A.val ((rP true (Ah false)) (a0))), (1, A.val ((slr false 1 Af) (x0))), (2, A.val ((slr false 1 Af) (y0)))]) | (.inr s) => (Ex.ret, [7, 6], [(7, A.val (V.bool (false))), (6, A.val ((slr true 1 Af) (A9 Int)))])) h ?_ ?_
 ·intro t h
  conv => whnf
  refine Cells.lit rfl rfl ?_
  conv => whnf
  refine CallQ.o V.bool (by first | rfl | simp only [Aa, V.fz, fzL, V.up, upL, Ab, Ac, Ad, slr, List.cons_append, List.nil_append] | simp [Aa, V.fz, fzL, V.up, upL, Ab, Ac, Ad, slr]) h (fun r h => Iw h) (fun r1 h => ?_)
  conv => whnf
  refine Br.flip ?_
  conv => whnf
  refine Br.ob h (fun p2 h => ?_) (fun p2 h => ?_)
  ·conv => whnf
   refine Cells.lit rfl rfl ?_
   conv => whnf
   refine Br.no ?_
   conv => whnf
   refine Br.no ?_
   conv => whnf
   refine CallQ.o V.bool (by first | rfl | simp only [Aa, V.fz, fzL, V.up, upL, Ab, Ac, Ad, slr, List.cons_append, List.nil_append] | simp [Aa, V.fz, fzL, V.up, upL, Ab, Ac, Ad, slr]) h (fun r h => Lv h) (fun r3 h => ?_)
   conv => whnf
   refine Br.no ?_
   conv => whnf
   refine Br.no ?_
   conv => whnf
   refine Br.flip ?_
   conv => whnf
   refine Br.ob h (fun p4 h => ?_) (fun p4 h => ?_)
   ·conv => whnf
    refine Cells.lit rfl rfl ?_
    conv => whnf
    refine Br.no ?_
    conv => whnf
    refine Br.no ?_
    conv => whnf
    refine CallQ.o V.bool (by first | rfl | simp only [Aa, V.fz, fzL, V.up, upL, Ab, Ac, Ad, slr, List.cons_append, List.nil_append] | simp [Aa, V.fz, fzL, V.up, upL, Ab, Ac, Ad, slr]) h (fun r h => Lv h) (fun r5 h => ?_)
    conv => whnf
    refine Br.no ?_
    conv => whnf
    refine Br.no ?_
    conv => whnf
    refine Br.flip ?_
    conv => whnf
    refine Br.ob h (fun p6 h => ?_) (fun p6 h => ?_)
    ·conv => whnf
     cases h; exact ⟨rfl, rfl⟩
    conv => whnf
    refine BslQ.o Af (A9 Int) (by exact fun _ => ⟨rfl, rfl⟩) (by first | rfl | simp only [Aa, V.fz, fzL, V.up, upL, Ab, Ac, Ad, slr, List.cons_append, List.nil_append] | simp [Aa, V.fz, fzL, V.up, upL, Ab, Ac, Ad, slr]) ?_
    conv => whnf
    cases h; exact ⟨rfl, rfl⟩
   conv => whnf
   refine Br.yes ?_
   conv => whnf
   refine Br.yes ?_
   conv => whnf
   refine Br.yes ?_
   conv => whnf
   refine Br.yes ?_
   conv => whnf
   refine Br.yes ?_
   conv => whnf
   refine BslQ.o Af (A9 Int) (by exact fun _ => ⟨rfl, rfl⟩) (by first | rfl | simp only [Aa, V.fz, fzL, V.up, upL, Ab, Ac, Ad, slr, List.cons_append, List.nil_append] | simp [Aa, V.fz, fzL, V.up, upL, Ab, Ac, Ad, slr]) ?_
   conv => whnf
   cases h; exact ⟨rfl, rfl⟩
  conv => whnf
  refine Br.yes ?_
  conv => whnf
  refine Br.yes ?_
  conv => whnf
  refine Br.yes ?_
  conv => whnf
  refine Br.yes ?_
  conv => whnf
  refine Br.yes ?_
  conv => whnf
  refine Br.yes ?_
  conv => whnf
  refine Br.yes ?_
  conv => whnf
  refine Br.yes ?_
  conv => whnf
  refine Br.yes ?_
  conv => whnf
  refine Br.yes ?_
  conv => whnf
  refine BslQ.o Af (A9 Int) (by exact fun _ => ⟨rfl, rfl⟩) (by first | rfl | simp only [Aa, V.fz, fzL, V.up, upL, Ab, Ac, Ad, slr, List.cons_append, List.nil_append] | simp [Aa, V.fz, fzL, V.up, upL, Ab, Ac, Ad, slr]) ?_
  conv => whnf
  cases h; exact ⟨rfl, rfl⟩
 rintro (⟨⟩ | ⟨⟩) h
 ·try dsimp only at h
  conv => whnf
  refine Cells.lit rfl rfl ?_
  conv => whnf
  refine CallP.o (slr true 1 Af) (by first | rfl | simp only [Aa, V.fz, fzL, V.up, upL, Ab, Ac, Ad, slr, List.cons_append, List.nil_append] | simp [Aa, V.fz, fzL, V.up, upL, Ab, Ac, Ad, slr]) h (fun r h => Y0 h) (fun r8 h => ?_)
  conv => whnf
  refine AppQ.o (m := 1) Af (by exact fun _ => ⟨rfl, rfl⟩) (r8) (y0) (by first | rfl | simp only [Aa, V.fz, fzL, V.up, upL, Ab, Ac, Ad, slr, List.cons_append, List.nil_append] | simp [Aa, V.fz, fzL, V.up, upL, Ab, Ac, Ad, slr]) (by first | rfl | simp only [Aa, V.fz, fzL, V.up, upL, Ab, Ac, Ad, slr, List.cons_append, List.nil_append] | simp [Aa, V.fz, fzL, V.up, upL, Ab, Ac, Ad, slr]) h fun h => ?_
  conv => whnf
  refine CallQ.rd (slr true 1 Af) (by first | rfl | simp only [V.fz, fzL, Ab, slr] | simp [Aa, V.fz, fzL, V.up, upL, Ab, Ac, Ad, slr]) (fun _ => by simp [V.noFz, Bo]) h (fun r h => N0 h) (fun r9 h => ?_)
  conv => whnf
  cases h; exact (by first | rfl | simp only [Ag, Aa, V.fz, fzL, V.up, upL, Ab, Ac, Ad, slr] | simp [Ag, Aa, V.fz, fzL, V.up, upL, Ab, Ac, Ad, slr])
 try dsimp only at h
 conv => whnf
 cases h; exact (by first | rfl | simp only [Ag, Aa, V.fz, fzL, V.up, upL, Ab, Ac, Ad, slr] | simp [Ag, Aa, V.fz, fzL, V.up, upL, Ab, Ac, Ad, slr])
noncomputable def Da (a0 : SAlgebra) : (Int × (List Int) × Sl1Cur) → Option ((Int × (List Int) × Sl1Cur) ⊕ ((List Int) × Sl1Cur)) := fun (x6, x5, x27) =>
 if x6 > (0 : Int) then
 (Du (x27) (a0)).bind fun (r8, u9) =>
 ask ((x5).length + ([r8]).length ≤ LIM) <|
 ask (InI (x6 - (1 : Int))) <|
 some (.inl (x6 - (1 : Int), x5 ++ [r8], u9))
 else
 some (.inr (x5, x27))
def G0 (a0 : SAlgebra) : (Int × (List Int) × Sl1Cur) → St := fun s => [(6, A.val (Af s.1)), (5, A.val ((slr true 1 Af) s.2.1)), (3, A.val ((rP true (Ah false)) (a0))), (0, A.ref 27 []), (27, A.val ((rP true (Aj false)) s.2.2))]
def J8 (_a0 : SAlgebra) : ((List Int) × Sl1Cur) → Tgt
 | s => ((Ex.exit 0), [5, 27], [(5, A.val ((slr true 1 Af) s.1)), (27, A.val ((rP true (Aj false)) s.2))])
theorem Ta {a0 : SAlgebra} (s : (Int × (List Int) × Sl1Cur)) (o : (Int × (List Int) × Sl1Cur) ⊕ ((List Int) × Sl1Cur)) (h : Da a0 s = some o) : vc Try.prog Kb (Dl [6, 5, 3, 0, 27] (G0 a0) (J8 a0) o) (G0 a0 s) := by
 obtain ⟨x6, x5, x27⟩ := s
 unfold Da at h
 try dsimp only at h
 conv => whnf
 refine Br.od h (fun p7 h => ?_) (fun p7 h => ?_)
 ·conv => whnf
  refine Cells.lit rfl rfl ?_
  conv => whnf
  refine CallQ.io Af (rP true (Aj false)) (by first | rfl | simp only [Aa, V.fz, fzL, V.up, upL, Ab, Ac, Ad, slr, List.cons_append, List.nil_append] | simp [Aa, V.fz, fzL, V.up, upL, Ab, Ac, Ad, slr]) rfl (fun _ => rfl) (fun _ => ⟨rfl, rfl⟩) rfl h (fun r h => To h) (fun r8 u9 h => ?_)
  conv => whnf
  refine BslQ.o Af [r8] (by exact fun _ => ⟨rfl, rfl⟩) (by first | rfl | simp only [Aa, V.fz, fzL, V.up, upL, Ab, Ac, Ad, slr, List.cons_append, List.nil_append] | simp [Aa, V.fz, fzL, V.up, upL, Ab, Ac, Ad, slr]) ?_
  conv => whnf
  refine NoOwn.o (fun _ => rfl) ?_
  conv => whnf
  refine AppQ.o (m := 1) Af (by exact fun _ => ⟨rfl, rfl⟩) (x5) ([r8]) (by first | rfl | simp only [Aa, V.fz, fzL, V.up, upL, Ab, Ac, Ad, slr, List.cons_append, List.nil_append] | simp [Aa, V.fz, fzL, V.up, upL, Ab, Ac, Ad, slr]) (by first | rfl | simp only [Aa, V.fz, fzL, V.up, upL, Ab, Ac, Ad, slr, List.cons_append, List.nil_append] | simp [Aa, V.fz, fzL, V.up, upL, Ab, Ac, Ad, slr]) h fun h => ?_
  conv => whnf
  refine Ask.o h fun p10 h => ?_
  conv => whnf
  cases h; exact ⟨rfl, rfl⟩
 conv => whnf
 cases h; exact ⟨rfl, rfl⟩
noncomputable def Es (c0 : Sl1Cur) (a0 : SAlgebra) : Option ((List Int) × Sl1Cur) :=
 (A3 (c0) ((24 : Int))).bind fun (r1, u2) =>
 ask ((11 : Int) ≠ (0 : Int) ∧ InI (r1.tdiv (11 : Int))) <|
 ask (InI ((6 : Int) + r1.tdiv (11 : Int))) <|
 ask (0 ≤ (0 : Int) ∧ (0 : Int) ≤ (6 : Int) + r1.tdiv (11 : Int) ∧ (6 : Int) + r1.tdiv (11 : Int) ≤ (([(0 : Int), (1 : Int), (1 : Int), (2 : Int), (2 : Int), (3 : Int), (20 : Int), (21 : Int)].length : Nat) : Int)) <|
 (A2 (u2) (List.take (((6 : Int) + r1.tdiv (11 : Int)).toNat - Int.toNat (0 : Int)) (List.drop (Int.toNat (0 : Int)) [(0 : Int), (1 : Int), (1 : Int), (2 : Int), (2 : Int), (3 : Int), (20 : Int), (21 : Int)]))).bind fun (r5, u6) =>
 (Ap (Da a0) (r5, A9 Int, u6)).bind fun (q11_5, q11_27) =>
 some (q11_5, q11_27)
theorem Xe {c0 : Sl1Cur} {a0 : SAlgebra} {v : ((List Int) × Sl1Cur)} (h : Es c0 a0 = some v) : Vm Try.prog I5 [(rP true (Aj false)) c0, (Ah false) a0] ((slr true 1 Af) v.1) 0 ((rP true (Aj false)) v.2) := by
 refine N8 Xd (Nat.le_of_ble_eq_true rfl) ?_
 unfold Es at h
 conv => whnf
 refine BslQ.o Af (A9 Int) (by exact fun _ => ⟨rfl, rfl⟩) (by first | rfl | simp only [Aa, V.fz, fzL, V.up, upL, Ab, Ac, Ad, slr, List.cons_append, List.nil_append] | simp [Aa, V.fz, fzL, V.up, upL, Ab, Ac, Ad, slr]) ?_
 conv => whnf
 refine BslQ.o Af ([(0 : Int), (1 : Int), (1 : Int), (2 : Int), (2 : Int), (3 : Int), (20 : Int), (21 : Int)]) (by exact fun _ => ⟨rfl, rfl⟩) (by first | rfl | simp only [Aa, V.fz, fzL, V.up, upL, Ab, Ac, Ad, slr, List.cons_append, List.nil_append] | simp [Aa, V.fz, fzL, V.up, upL, Ab, Ac, Ad, slr]) ?_
 conv => whnf
 refine CallQ.io Af (rP true (Aj false)) (by first | rfl | simp only [Aa, V.fz, fzL, V.up, upL, Ab, Ac, Ad, slr, List.cons_append, List.nil_append] | simp [Aa, V.fz, fzL, V.up, upL, Ab, Ac, Ad, slr]) rfl (fun _ => rfl) (fun _ => ⟨rfl, rfl⟩) rfl h (fun r h => Bd h) (fun r1 u2 h => ?_)
 conv => whnf
 refine Ask.o h fun p3 h => ?_
 conv => whnf
 refine Ask.o h fun p4 h => ?_
 conv => whnf
 refine SlcQ.lst (xs := [(0 : Int), (1 : Int), (1 : Int), (2 : Int), (2 : Int), (3 : Int), (20 : Int), (21 : Int)]) Af (by first | rfl | simp only [Aa, V.fz, fzL, V.up, upL, Ab, Ac, Ad, slr, List.cons_append, List.nil_append] | simp [Aa, V.fz, fzL, V.up, upL, Ab, Ac, Ad, slr]) h fun h => ?_
 conv => whnf
 refine CallQ.io Af (rP true (Aj false)) (by first | rfl | simp only [Aa, V.fz, fzL, V.up, upL, Ab, Ac, Ad, slr, List.cons_append, List.nil_append] | simp [Aa, V.fz, fzL, V.up, upL, Ab, Ac, Ad, slr]) rfl (fun _ => rfl) (fun _ => ⟨rfl, rfl⟩) rfl h (fun r h => Bf h) (fun r5 u6 h => ?_)
 conv => whnf
 refine LoopQ.o [6, 5, 3, 0, 27] (G0 a0) (J8 a0) h (fun s o h => Ta s o h) (by first | rfl | simp [restrict, look, Aa, V.fz, fzL, V.up, upL, Ab, Ac, Ad, slr]) (fun _ => rfl) ?_
 rintro ⟨q11_5, q11_27⟩ h
 try dsimp only at h
 conv => whnf
 cases h; exact ⟨(by first | rfl | simp only [Ag, Aa, V.fz, fzL, V.up, upL, Ab, Ac, Ad, slr] | simp [Ag, Aa, V.fz, fzL, V.up, upL, Ab, Ac, Ad, slr]), (by first | rfl | simp only [Ag, Aa, V.fz, fzL, V.up, upL, Ab, Ac, Ad, slr] | simp [Ag, Aa, V.fz, fzL, V.up, upL, Ab, Ac, Ad, slr])⟩
noncomputable def Ft (a0 : SAlgebra) (x0 : (List Int)) (y0 : (List Int)) : Option Bool :=
 (Cr (a0)).bind fun r1 =>
 if (r1) = true then
 (E8 (a0) (x0)).bind fun r3 =>
 if (r3) = true then
 (E8 (a0) (y0)).bind fun r5 =>
 some r5
 else
 some false
 else
 some false
theorem Ui {a0 : SAlgebra} {x0 : (List Int)} {y0 : (List Int)} {v : Bool} (h : Ft a0 x0 y0 = some v) : Ret Try.prog Jx [(Ah false) a0, (slr false 1 Af) x0, (slr false 1 Af) y0] (V.bool v) := by
 refine A7 Aev (Nat.le_of_ble_eq_true rfl) ?_
 unfold Ft at h
 conv => whnf
 refine Cells.lit rfl rfl ?_
 conv => whnf
 refine CallQ.o V.bool (by first | rfl | simp only [Aa, V.fz, fzL, V.up, upL, Ab, Ac, Ad, slr, List.cons_append, List.nil_append] | simp [Aa, V.fz, fzL, V.up, upL, Ab, Ac, Ad, slr]) h (fun r h => H6 h) (fun r1 h => ?_)
 conv => whnf
 refine Br.ob h (fun p2 h => ?_) (fun p2 h => ?_)
 ·conv => whnf
  refine Cells.lit rfl rfl ?_
  conv => whnf
  refine Br.yes ?_
  conv => whnf
  refine Br.yes ?_
  conv => whnf
  refine CallQ.o V.bool (by first | rfl | simp only [Aa, V.fz, fzL, V.up, upL, Ab, Ac, Ad, slr, List.cons_append, List.nil_append] | simp [Aa, V.fz, fzL, V.up, upL, Ab, Ac, Ad, slr]) h (fun r h => Mu h) (fun r3 h => ?_)
  conv => whnf
  refine Br.yes ?_
  conv => whnf
  refine Br.ob h (fun p4 h => ?_) (fun p4 h => ?_)
  ·conv => whnf
   refine Cells.lit rfl rfl ?_
   conv => whnf
   refine Br.yes ?_
   conv => whnf
   refine Br.yes ?_
   conv => whnf
   refine CallQ.o V.bool (by first | rfl | simp only [Aa, V.fz, fzL, V.up, upL, Ab, Ac, Ad, slr, List.cons_append, List.nil_append] | simp [Aa, V.fz, fzL, V.up, upL, Ab, Ac, Ad, slr]) h (fun r h => Mu h) (fun r5 h => ?_)
   conv => whnf
   refine Br.yes ?_
   conv => whnf
   cases h; exact (by first | rfl | simp only [Ag, Aa, V.fz, fzL, V.up, upL, Ab, Ac, Ad, slr] | simp [Ag, Aa, V.fz, fzL, V.up, upL, Ab, Ac, Ad, slr])
  conv => whnf
  refine Br.no ?_
  conv => whnf
  refine Br.no ?_
  conv => whnf
  refine Br.no ?_
  conv => whnf
  cases h; exact (by first | rfl | simp only [Ag, Aa, V.fz, fzL, V.up, upL, Ab, Ac, Ad, slr] | simp [Ag, Aa, V.fz, fzL, V.up, upL, Ab, Ac, Ad, slr])
 conv => whnf
 refine Br.no ?_
 conv => whnf
 refine Br.no ?_
 conv => whnf
 refine Br.no ?_
 conv => whnf
 refine Br.no ?_
 conv => whnf
 refine Br.no ?_
 conv => whnf
 refine Br.no ?_
 conv => whnf
 refine Br.no ?_
 conv => whnf
 cases h; exact (by first | rfl | simp only [Ag, Aa, V.fz, fzL, V.up, upL, Ab, Ac, Ad, slr] | simp [Ag, Aa, V.fz, fzL, V.up, upL, Ab, Ac, Ad, slr])
noncomputable def D1 (a0 : SAlgebra) : (Int × (List (List Int))) → Option ((Int × (List (List Int))) ⊕ (List (List Int))) := fun (x4, x3) =>
 ask ((0 : Int) ≤ a0.Size) <|
 if x4 < Anr (1 : Int) a0.Size then
 (Io (x4)).bind fun r3 =>
 (E8 (a0) (r3)).bind fun r4 =>
 if (r4) = true then
 ask ((x3).length + ([r3]).length ≤ LIM) <|
 ask (InI (x4 + (1 : Int))) <|
 some (.inl (x4 + (1 : Int), x3 ++ [r3]))
 else
 ask (InI (x4 + (1 : Int))) <|
 some (.inl (x4 + (1 : Int), x3))
 else
 some (.inr x3)
def Jz (a0 : SAlgebra) : (Int × (List (List Int))) → St := fun s => [(4, A.val (Af s.1)), (3, A.val ((slr true 1 (slr true 1 Af)) s.2)), (1, A.val ((rP true (Ah false)) (a0)))]
def Oh (_a0 : SAlgebra) : (List (List Int)) → Tgt
 | s => ((Ex.exit 0), [3], [(3, A.val ((slr true 1 (slr true 1 Af)) s))])
theorem Yr {a0 : SAlgebra} (s : (Int × (List (List Int)))) (o : (Int × (List (List Int))) ⊕ (List (List Int))) (h : D1 a0 s = some o) : vc Try.prog Od (Dl [4, 3, 1] (Jz a0) (Oh a0) o) (Jz a0 s) := by
 obtain ⟨x4, x3⟩ := s
 unfold D1 at h
 try dsimp only at h
 conv => whnf
 refine Cells.lit rfl rfl ?_
 conv => whnf
 refine Ask.o h fun p1 h => ?_
 conv => whnf
 refine Br.od h (fun p2 h => ?_) (fun p2 h => ?_)
 ·conv => whnf
  refine CallQ.o (slr true 1 Af) (by first | rfl | simp only [Aa, V.fz, fzL, V.up, upL, Ab, Ac, Ad, slr, List.cons_append, List.nil_append] | simp [Aa, V.fz, fzL, V.up, upL, Ab, Ac, Ad, slr]) h (fun r h => Ags h) (fun r3 h => ?_)
  conv => whnf
  refine Cells.lit rfl rfl ?_
  conv => whnf
  refine CallQ.rd V.bool (by first | rfl | simp only [V.fz, fzL, Ab, slr] | simp [Aa, V.fz, fzL, V.up, upL, Ab, Ac, Ad, slr]) (fun _ => rfl) h (fun r h => Mu h) (fun r4 h => ?_)
  conv => whnf
  refine Br.ob h (fun p5 h => ?_) (fun p5 h => ?_)
  ·conv => whnf
   refine BslQ.o (slr true 1 Af) [r3] (by exact fun _ => ⟨rfl, rfl⟩) (by first | rfl | simp only [Aa, V.fz, fzL, V.up, upL, Ab, Ac, Ad, slr, List.cons_append, List.nil_append] | simp [Aa, V.fz, fzL, V.up, upL, Ab, Ac, Ad, slr]) ?_
   conv => whnf
   refine NoOwn.own rfl ?_
   conv => whnf
   refine AppQ.o (m := 1) (slr true 1 Af) (by exact fun _ => ⟨rfl, rfl⟩) (x3) ([r3]) (by first | rfl | simp only [Aa, V.fz, fzL, V.up, upL, Ab, Ac, Ad, slr, List.cons_append, List.nil_append] | simp [Aa, V.fz, fzL, V.up, upL, Ab, Ac, Ad, slr]) (by first | rfl | simp only [Aa, V.fz, fzL, V.up, upL, Ab, Ac, Ad, slr, List.cons_append, List.nil_append] | simp [Aa, V.fz, fzL, V.up, upL, Ab, Ac, Ad, slr]) h fun h => ?_
   conv => whnf
   refine Ask.o h fun p6 h => ?_
   conv => whnf
   cases h; exact ⟨rfl, rfl⟩
  conv => whnf
  refine Ask.o h fun p7 h => ?_
  conv => whnf
  cases h; exact ⟨rfl, rfl⟩
 conv => whnf
 cases h; exact ⟨rfl, rfl⟩
noncomputable def Hp (a0 : SAlgebra) : Option (List (List Int)) :=
 (Ap (D1 a0) ((0 : Int), A9 (List Int))).bind fun q8_3 =>
 (E5 (q8_3) (fun w_0 w_1 => C1 w_0 w_1)).bind fun (_r9, u10) =>
 some u10
theorem Adj {a0 : SAlgebra} {v : (List (List Int))} (h : Hp a0 = some v) : Ret Try.prog Nq [(Ah false) a0] ((slr true 1 (slr true 1 Af)) v) := by
 refine A7 Acm (Nat.le_of_ble_eq_true rfl) ?_
 unfold Hp at h
 conv => whnf
 refine BslQ.o (slr true 1 Af) (A9 (List Int)) (by exact fun _ => ⟨rfl, rfl⟩) (by first | rfl | simp only [Aa, V.fz, fzL, V.up, upL, Ab, Ac, Ad, slr, List.cons_append, List.nil_append] | simp [Aa, V.fz, fzL, V.up, upL, Ab, Ac, Ad, slr]) ?_
 conv => whnf
 refine LoopQ.o [4, 3, 1] (Jz a0) (Oh a0) h (fun s o h => Yr s o h) (by first | rfl | simp [restrict, look, Aa, V.fz, fzL, V.up, upL, Ab, Ac, Ad, slr]) (fun _ => rfl) ?_
 rintro q8_3 h
 try dsimp only at h
 conv => whnf
 refine CallQ.io (fun r => V.tup []) (slr true 1 (slr true 1 Af)) (by first | rfl | simp only [Aa, V.fz, fzL, V.up, upL, Ab, Ac, Ad, slr, List.cons_append, List.nil_append] | simp [Aa, V.fz, fzL, V.up, upL, Ab, Ac, Ad, slr]) rfl (fun _ => rfl) (fun _ => ⟨rfl, rfl⟩) rfl h (fun r h => Abp (f_order0 := Fr) (c_order0 := []) (fun w_0 w_1 v h => Ret.cast (by first | rfl | simp only [Aa, V.fz, fzL, V.up, upL, Ab, Ac, Ad, slr, List.cons_append, List.nil_append] | simp [Aa, V.fz, fzL, V.up, upL, Ab, Ac, Ad, slr]) (Vl h)) h) (fun r9 u10 h => ?_)
 conv => whnf
 cases h; exact (by first | rfl | simp only [Ag, Aa, V.fz, fzL, V.up, upL, Ab, Ac, Ad, slr] | simp [Ag, Aa, V.fz, fzL, V.up, upL, Ab, Ac, Ad, slr])
end Go.Proofs.Ytidaaijecmkndaa.Ax
