/-
 What the functions compute, as functions on plain data, and that the program does compute it; written by program.
-/
import Derived.Test.YtjcekpmojnnmbaaCode
import Derived.Test.YtjcekpmojnnmbaaG1
import Derived.Test.YtjcekpmojnnmbaaG3
import Derived.Test.YtjcekpmojnnmbaaG4
import Derived.Test.YtjcekpmojnnmbaaG5
import Derived.Test.YtjcekpmojnnmbaaG6
import Derived.Test.YtjcekpmojnnmbaaG8
import Derived.Test.YtjcekpmojnnmbaaG9
namespace Go.Proofs.Ytjcekpmojnnmbaa.Ax
open Go
set_option maxRecDepth 100000
set_option maxHeartbeats 4000000
noncomputable def Dr (_a0 : SAlgebra) (_k0 : Int) (gens0 : List (List Int)) (_r1 : Int) : (Int × (List (List Int))) → Option ((Int × (List (List Int))) ⊕ (List (List Int))) := fun (x12, x11) =>
 if x12 < (↑gens0.length : Int) then
 ask ((0 : Int) ≤ x12 ∧ x12 < (↑gens0.length : Int)) <|
 (F8 (nth gens0 x12.toNat)).bind fun r4 =>
 ask ((x11).length + ([r4]).length ≤ LIM) <|
 ask (InI (x12 + (1 : Int))) <|
 some (.inl (x12 + (1 : Int), x11 ++ [r4]))
 else
 some (.inr x11)
def Ls (a0 : SAlgebra) (k0 : Int) (gens0 : List (List Int)) (r1 : Int) : (Int × (List (List Int))) → St := fun s => [(12, A.val (Ae s.1)), (11, A.val ((slr true 1 (slr true 1 Ae)) s.2)), (10, A.val (Ae (r1))), (9, A.val ((slr true 1 (slr true 1 Ae)) (Ap (List Int)))), (8, A.val ((slr true 1 (slr true 1 Ae)) (Ap (List Int)))), (3, A.val ((rP true (A5 false)) (a0))), (1, A.val (Ae (k0))), (2, A.val ((slr false 1 (slr false 1 Ae)) (gens0)))]
def Sj (a0 : SAlgebra) (k0 : Int) (_gens0 : List (List Int)) (r1 : Int) : (List (List Int)) → Tgt
 | s => ((Ex.exit 0), [11, 10, 9, 8, 3, 1], [(11, A.val ((slr true 1 (slr true 1 Ae)) s)), (10, A.val (Ae (r1))), (9, A.val ((slr true 1 (slr true 1 Ae)) (Ap (List Int)))), (8, A.val ((slr true 1 (slr true 1 Ae)) (Ap (List Int)))), (3, A.val ((rP true (A5 false)) (a0))), (1, A.val (Ae (k0)))])
theorem Adt {a0 : SAlgebra} {k0 : Int} {gens0 : List (List Int)} {r1 : Int} (s : (Int × (List (List Int)))) (o : (Int × (List (List Int))) ⊕ (List (List Int))) (h : Dr a0 k0 gens0 r1 s = some o) : vc Try.prog Sg (C6 [12, 11, 10, 9, 8, 3, 1, 2] (Ls a0 k0 gens0 r1) (Sj a0 k0 gens0 r1) o) (Ls a0 k0 gens0 r1 s) := by
 obtain ⟨x12, x11⟩ := s
 unfold Dr at h
 try dsimp only at h
 refine Len.map <| Br.od h (fun p2 h => ?_) (fun p2 h => ?_)
 ·refine Len.map <| Ask.o h fun p3 h => Elem.o (by first | omega | (simp [A4] at * <;> omega)) <| CallQ.o (slr true 1 Ae) (by rfl) h (fun r h => Qc h) (fun r4 h => ?_)
  refine BslQ.o (slr true 1 Ae) [r4] (by exact fun _ => ⟨rfl, rfl⟩) (by first | rfl | (simp only [Aa, V.fz, fzL, V.up, upL, Ab, Ac, Ad, slr, List.cons_append, List.nil_append]; done) | simp [Aa, V.fz, fzL, V.up, upL, Ab, Ac, Ad, slr]) <| NoOwn.own rfl <| AppQ.o (m := 1) (slr true 1 Ae) (by exact fun _ => ⟨rfl, rfl⟩) (x11) ([r4]) (by rfl) (by rfl) h fun h => Ask.o h fun p5 h => ?_
  cases h; exact ⟨rfl, rfl⟩
 cases h; exact ⟨rfl, rfl⟩
noncomputable def Gf (a0 : SAlgebra) (k0 : Int) (_r1 : Int) : (Int × (List (List Int))) → Option ((Int × (List (List Int))) ⊕ (List (List Int))) := fun (x13, x11) =>
 if x13 < (↑a0.Ops.length : Int) then
 ask ((0 : Int) ≤ x13 ∧ x13 < (↑a0.Ops.length : Int)) <|
 if (nth a0.Ops x13.toNat).Arity = (0 : Int) then
 (Ha (a0) (x13) (Ap (List Int)) (k0)).bind fun r10 =>
 ask ((x11).length + ([r10]).length ≤ LIM) <|
 ask (InI (x13 + (1 : Int))) <|
 some (.inl (x13 + (1 : Int), x11 ++ [r10]))
 else
 ask (InI (x13 + (1 : Int))) <|
 some (.inl (x13 + (1 : Int), x11))
 else
 some (.inr x11)
def L2 (a0 : SAlgebra) (k0 : Int) (r1 : Int) : (Int × (List (List Int))) → St := fun s => [(13, A.val (Ae s.1)), (11, A.val ((slr true 1 (slr true 1 Ae)) s.2)), (10, A.val (Ae (r1))), (9, A.val ((slr true 1 (slr true 1 Ae)) (Ap (List Int)))), (8, A.val ((slr true 1 (slr true 1 Ae)) (Ap (List Int)))), (3, A.val ((rP true (A5 false)) (a0))), (1, A.val (Ae (k0)))]
def Rv (a0 : SAlgebra) (k0 : Int) (r1 : Int) : (List (List Int)) → Tgt
 | s => ((Ex.exit 2), [11, 10, 9, 8, 3, 1], [(11, A.val ((slr true 1 (slr true 1 Ae)) s)), (10, A.val (Ae (r1))), (9, A.val ((slr true 1 (slr true 1 Ae)) (Ap (List Int)))), (8, A.val ((slr true 1 (slr true 1 Ae)) (Ap (List Int)))), (3, A.val ((rP true (A5 false)) (a0))), (1, A.val (Ae (k0)))])
theorem Ac1 {a0 : SAlgebra} {k0 : Int} {r1 : Int} (s : (Int × (List (List Int)))) (o : (Int × (List (List Int))) ⊕ (List (List Int))) (h : Gf a0 k0 r1 s = some o) : vc Try.prog Sf (C6 [13, 11, 10, 9, 8, 3, 1] (L2 a0 k0 r1) (Rv a0 k0 r1) o) (L2 a0 k0 r1 s) := by
 obtain ⟨x13, x11⟩ := s
 unfold Gf at h
 try dsimp only at h
 refine Cells.lit rfl rfl <| Len.map <| Br.od h (fun p7 h => ?_) (fun p7 h => ?_)
 ·refine Cells.lit rfl rfl <| Len.map <| Ask.o h fun p8 h => Elem.o (by first | omega | (simp [A4] at * <;> omega)) <| Br.oe h (fun p9 h => ?_) (fun p9 h => ?_)
  ·refine Cells.lit rfl rfl <| BslQ.o (slr true 1 Ae) (Ap (List Int)) (by exact fun _ => ⟨rfl, rfl⟩) (by first | rfl | (simp only [Aa, V.fz, fzL, V.up, upL, Ab, Ac, Ad, slr, List.cons_append, List.nil_append]; done) | simp [Aa, V.fz, fzL, V.up, upL, Ab, Ac, Ad, slr]) <| CallQ.rd (slr true 1 Ae) (by rfl) (fun _ => by simp [V.noFz, Dc]) h (fun r h => Xp h) (fun r10 h => ?_)
   refine BslQ.o (slr true 1 Ae) [r10] (by exact fun _ => ⟨rfl, rfl⟩) (by first | rfl | (simp only [Aa, V.fz, fzL, V.up, upL, Ab, Ac, Ad, slr, List.cons_append, List.nil_append]; done) | simp [Aa, V.fz, fzL, V.up, upL, Ab, Ac, Ad, slr]) <| NoOwn.own rfl <| AppQ.o (m := 1) (slr true 1 Ae) (by exact fun _ => ⟨rfl, rfl⟩) (x11) ([r10]) (by rfl) (by rfl) h fun h => Ask.o h fun p11 h => ?_
   cases h; exact ⟨rfl, rfl⟩
  refine Ask.o h fun p12 h => ?_
  cases h; exact ⟨rfl, rfl⟩
 cases h; exact ⟨rfl, rfl⟩
noncomputable def Gb (_a0 : SAlgebra) (_k0 : Int) (_r1 : Int) (q13_11 : List (List Int)) : (Int × (List (List Int)) × (List (List Int))) → Option ((Int × (List (List Int)) × (List (List Int))) ⊕ ((List (List Int)) × (List (List Int)))) := fun (x14, x9, x8) =>
 if x14 < (↑q13_11.length : Int) then
 ask ((0 : Int) ≤ x14 ∧ x14 < (↑q13_11.length : Int)) <|
 (Ff (x8) (nth q13_11 x14.toNat)).bind fun r16 =>
 if (r16.snd) = true then
 ask (InI (x14 + (1 : Int))) <|
 some (.inl (x14 + (1 : Int), x9, x8))
 else
 ask ((0 : Int) ≤ x14 ∧ x14 < (↑q13_11.length : Int)) <|
 (Fc (x8) (nth q13_11 x14.toNat)).bind fun r20 =>
 ask ((0 : Int) ≤ x14 ∧ x14 < (↑q13_11.length : Int)) <|
 ask ((x9).length + ([nth q13_11 x14.toNat]).length ≤ LIM) <|
 ask (InI (x14 + (1 : Int))) <|
 some (.inl (x14 + (1 : Int), x9 ++ [nth q13_11 x14.toNat], r20))
 else
 some (.inr (x9, x8))
def Lm (a0 : SAlgebra) (k0 : Int) (r1 : Int) (q13_11 : List (List Int)) : (Int × (List (List Int)) × (List (List Int))) → St := fun s => [(11, A.val ((slr true 1 (slr false 1 Ae)) (q13_11))), (14, A.val (Ae s.1)), (10, A.val (Ae (r1))), (9, A.val ((slr true 1 (slr false 1 Ae)) s.2.1)), (8, A.val ((slr true 1 (slr false 1 Ae)) s.2.2)), (3, A.val ((rP true (A5 false)) (a0))), (1, A.val (Ae (k0)))]
def R0 (a0 : SAlgebra) (k0 : Int) (r1 : Int) (_q13_11 : List (List Int)) : ((List (List Int)) × (List (List Int))) → Tgt
 | s => ((Ex.exit 4), [10, 9, 8, 3, 1], [(10, A.val (Ae (r1))), (9, A.val ((slr true 1 (slr false 1 Ae)) s.1)), (8, A.val ((slr true 1 (slr false 1 Ae)) s.2)), (3, A.val ((rP true (A5 false)) (a0))), (1, A.val (Ae (k0)))])
theorem Acu {a0 : SAlgebra} {k0 : Int} {r1 : Int} {q13_11 : List (List Int)} (s : (Int × (List (List Int)) × (List (List Int)))) (o : (Int × (List (List Int)) × (List (List Int))) ⊕ ((List (List Int)) × (List (List Int)))) (h : Gb a0 k0 r1 q13_11 s = some o) : vc Try.prog Rk (C6 [11, 14, 10, 9, 8, 3, 1] (Lm a0 k0 r1 q13_11) (R0 a0 k0 r1 q13_11) o) (Lm a0 k0 r1 q13_11 s) := by
 obtain ⟨x14, x9, x8⟩ := s
 unfold Gb at h
 try dsimp only at h
 refine Len.map <| Br.od h (fun p14 h => ?_) (fun p14 h => ?_)
 ·refine Len.map <| Ask.o h fun p15 h => Cells.one (fun _ => ⟨rfl, rfl⟩) (by first | omega | (simp [A4] at * <;> omega)) <| CallQ.rd (fun r => V.tup [Ae r.1, V.bool r.2]) (by first | rfl | simp only [Aa, V.fz, Ab, slr] | simp [Aa, V.fz, fzL, V.up, upL, Ab, Ac, Ad, slr]) (fun _ => by simp [V.noFz, Cs]) h (fun r h => Tl h) (fun r16 h => ?_)
  refine Br.flip <| Br.ob h (fun p17 h => ?_) (fun p17 h => ?_)
  ·refine Ask.o h fun p18 h => ?_
   cases h; exact ⟨rfl, rfl⟩
  refine Len.map <| Ask.o h fun p19 h => Cells.one (fun _ => ⟨rfl, rfl⟩) (by first | omega | (simp [A4] at * <;> omega)) <| CallQ.give (slr true 1 (slr false 1 Ae)) (by rfl) rfl (fun _ => rfl) rfl h (fun r h => P1 h) (fun r20 h => ?_)
  refine Len.map <| Ask.o h fun p21 h => Cells.one (fun _ => ⟨rfl, rfl⟩) (by first | omega | (simp [A4] at * <;> omega)) <| BslQ.o (slr false 1 Ae) ([nth q13_11 x14.toNat]) (by exact fun _ => ⟨rfl, rfl⟩) (by first | rfl | (simp only [Aa, V.fz, fzL, V.up, upL, Ab, Ac, Ad, slr, List.cons_append, List.nil_append]; done) | simp [Aa, V.fz, fzL, V.up, upL, Ab, Ac, Ad, slr]) <| NoOwn.o (fun _ => rfl) <| AppQ.o (m := 1) (slr false 1 Ae) (by exact fun _ => ⟨rfl, rfl⟩) (x9) ([nth q13_11 x14.toNat]) (by rfl) (by rfl) h fun h => Ask.o h fun p22 h => ?_
  cases h; exact ⟨rfl, rfl⟩
 cases h; exact ⟨rfl, rfl⟩
noncomputable def Ek (a0 : SAlgebra) (k0 : Int) (r1 : Int) (x17 : Int) (x18 : Int) : (Bool × (List Int) × (List (List Int)) × (List (List Int))) → Option ((Bool × (List Int) × (List (List Int)) × (List (List Int))) ⊕ ((List (List Int)) × (List (List Int)))) := fun (x20, x19, x9'', x8'') =>
 ((if (x20) = true then
 if (↑x9''.length : Int) ≤ r1 then
 some (.inl ())
 else
 some (.inr ())
 else
 some (.inr ()) : Option (Unit ⊕ Unit))).bind fun t => match t with
 | (.inl _) => ((((Lt (x19) (x17)).bind fun r34 =>
 if (r34) = true then
 (Ht (x9'') (x19)).bind fun (r36, u37) =>
 (Ha (a0) (x18) (r36) (k0)).bind fun r38 =>
 (Ff (x8'') (r38)).bind fun r39 =>
 if (r39.snd) = true then
 some (u37, x8'')
 else
 (Fc (x8'') (r38)).bind fun r41 =>
 ask ((u37).length + ([r38]).length ≤ LIM) <|
 some (u37 ++ [r38], r41)
 else
 some (x9'', x8'') : Option ((List (List Int)) × (List (List Int))))).bind fun (q42_9, q42_8) =>
 ask (InI (x17 + (1 : Int))) <|
 (H4 (x19) (x17 + (1 : Int))).bind fun r44 =>
 some (.inl (r44.snd, r44.fst, q42_9, q42_8)))
 | (.inr _) => (some (.inr (x9'', x8'')))
def Lv (a0 : SAlgebra) (k0 : Int) (r1 : Int) (x17 : Int) (x18 : Int) : (Bool × (List Int) × (List (List Int)) × (List (List Int))) → St := fun s => [(20, A.val (V.bool s.1)), (19, A.val ((slr true 1 Ae) s.2.1)), (18, A.val (Ae (x18))), (17, A.val (Ae (x17))), (10, A.val (Ae (r1))), (9, A.val ((slr true 1 (slr false 1 Ae)) s.2.2.1)), (8, A.val ((slr true 1 (slr false 1 Ae)) s.2.2.2)), (3, A.val ((rP true (A5 false)) (a0))), (1, A.val (Ae (k0)))]
def So (a0 : SAlgebra) (k0 : Int) (r1 : Int) (x17 : Int) (x18 : Int) : ((List (List Int)) × (List (List Int))) → Tgt
 | s => ((Ex.exit 10), [18, 17, 10, 9, 8, 3, 1], [(18, A.val (Ae (x18))), (17, A.val (Ae (x17))), (10, A.val (Ae (r1))), (9, A.val ((slr true 1 (slr false 1 Ae)) s.1)), (8, A.val ((slr true 1 (slr false 1 Ae)) s.2)), (3, A.val ((rP true (A5 false)) (a0))), (1, A.val (Ae (k0)))])
theorem Acm {a0 : SAlgebra} {k0 : Int} {r1 : Int} {x17 : Int} {x18 : Int} (s : (Bool × (List Int) × (List (List Int)) × (List (List Int)))) (o : (Bool × (List Int) × (List (List Int)) × (List (List Int))) ⊕ ((List (List Int)) × (List (List Int)))) (h : Ek a0 k0 r1 x17 x18 s = some o) : vc Try.prog Sk (C6 [20, 19, 18, 17, 10, 9, 8, 3, 1] (Lv a0 k0 r1 x17 x18) (So a0 k0 r1 x17 x18) o) (Lv a0 k0 r1 x17 x18 s) := by
 obtain ⟨x20, x19, x9'', x8''⟩ := s
 unfold Ek at h
 try dsimp only at h
 refine CutQ.o (fun t : (Unit ⊕ Unit) => match t with | (.inl s) => (Ex.normal, [19, 18, 17, 10, 9, 8, 3, 1], [(19, A.val ((slr true 1 Ae) (x19))), (18, A.val (Ae (x18))), (17, A.val (Ae (x17))), (10, A.val (Ae (r1))), (9, A.val ((slr true 1 (slr false 1 Ae)) (x9''))), (8, A.val ((slr true 1 (slr false 1 Ae)) (x8''))), (3, A.val ((rP true (A5 false)) (a0))), (1, A.val (Ae (k0)))]) | (.inr s) => ((Ex.exit 10), [18, 17, 10, 9, 8, 3, 1], [(18, A.val (Ae (x18))), (17, A.val (Ae (x17))), (10, A.val (Ae (r1))), (9, A.val ((slr true 1 (slr false 1 Ae)) (x9''))), (8, A.val ((slr true 1 (slr false 1 Ae)) (x8''))), (3, A.val ((rP true (A5 false)) (a0))), (1, A.val (Ae (k0)))])) h ?_ ?_
 ·intro t h
  refine Br.ob h (fun p31 h => ?_) (fun p31 h => ?_)
  ·refine Br.yes <| Len.map <| Br.yes <| Br.yes <| Br.yes <| Br.od h (fun p32 h => ?_) (fun p32 h => ?_)
   ·cases h; exact ⟨rfl, rfl⟩
   cases h; exact ⟨rfl, rfl⟩
  refine Br.no <| Br.no <| Br.no <| Br.no <| Br.no ?_
  cases h; exact ⟨rfl, rfl⟩
 rintro (⟨⟩ | ⟨⟩) h
 ·try dsimp only at h
  refine FrzQ.d (V.sl false (1 : Nat) (List.map Ae x19)) (by first | (simp only [slr]; done) | (simp [As, V.fz, Ab, slr]; done) | (simp [As, V.fz, fzL, Ab, slr]; done)) <| CutQ.o (fun t : ((List (List Int)) × (List (List Int))) => match t with | s => (Ex.normal, [19, 18, 17, 10, 9, 8, 3, 1], [(19, A.val ((slr false 1 Ae) (x19))), (18, A.val (Ae (x18))), (17, A.val (Ae (x17))), (10, A.val (Ae (r1))), (9, A.val ((slr true 1 (slr false 1 Ae)) s.1)), (8, A.val ((slr true 1 (slr false 1 Ae)) s.2)), (3, A.val ((rP true (A5 false)) (a0))), (1, A.val (Ae (k0)))])) h ?_ ?_
  ·intro t h
   refine CallQ.o V.bool (by rfl) h (fun r h => Aos h) (fun r34 h => ?_)
   refine Br.ob h (fun p35 h => ?_) (fun p35 h => ?_)
   ·refine Cells.lit rfl rfl <| LendP.io (slr false 1 (slr false 1 Ae)) (slr true 1 (slr false 1 Ae)) (by rfl) (fun _ => rfl) (fun _ => ⟨rfl, rfl⟩) (fun _ => rfl) h (fun r h => Agk h) (fun r36 u37 h => ?_)
    refine CallQ.o (slr true 1 Ae) (by rfl) h (fun r h => Xp h) (fun r38 h => ?_)
    refine CallQ.rd (fun r => V.tup [Ae r.1, V.bool r.2]) (by first | rfl | simp only [V.fz, V.up, Ab, slr] | simp [Aa, V.fz, fzL, V.up, upL, Ab, Ac, Ad, slr]) (fun _ => by simp [V.noFz, Cs]) h (fun r h => Tl h) (fun r39 h => ?_)
    refine Br.flip <| Br.ob h (fun p40 h => ?_) (fun p40 h => ?_)
    ·cases h; exact ⟨rfl, rfl⟩
    refine CallQ.give (slr true 1 (slr false 1 Ae)) (by first | rfl | simp only [V.fz, V.up, Ab, slr] | simp [Aa, V.fz, fzL, V.up, upL, Ab, Ac, Ad, slr]) rfl (fun _ => rfl) rfl h (fun r h => P1 h) (fun r41 h => ?_)
    refine BslQ.o (slr false 1 Ae) [r38] (by exact fun _ => ⟨rfl, rfl⟩) (by first | rfl | (simp only [V.fz, V.up, Ab]; done) | simp [V.fz, V.up, Ab, slr]) <| NoOwn.o (fun _ => rfl) <| AppQ.o (m := 1) (slr false 1 Ae) (by exact fun _ => ⟨rfl, rfl⟩) (u37) ([r38]) (by rfl) (by rfl) h fun h => ?_
    cases h; exact ⟨rfl, rfl⟩
   cases h; exact ⟨rfl, rfl⟩
  rintro ⟨q42_9, q42_8⟩ h
  try dsimp only at h
  refine Ask.o h fun p43 h => CallQ.o (fun r => V.tup [(slr true 1 Ae) r.1, V.bool r.2]) (by rfl) h (fun r h => Aj5 h) (fun r44 h => ?_)
  cases h; exact ⟨rfl, rfl⟩
 try dsimp only at h
 cases h; exact ⟨rfl, rfl⟩
noncomputable def Ej (a0 : SAlgebra) (k0 : Int) (r1 : Int) (x17 : Int) : (Int × (List (List Int)) × (List (List Int))) → Option ((Int × (List (List Int)) × (List (List Int))) ⊕ ((List (List Int)) × (List (List Int)))) := fun (x18, x9', x8') =>
 if x18 < (↑a0.Ops.length : Int) then
 ask ((0 : Int) ≤ x18 ∧ x18 < (↑a0.Ops.length : Int)) <|
 ask ((0 : Int) ≤ (nth a0.Ops x18.toNat).Arity ∧ (nth a0.Ops x18.toNat).Arity ≤ (↑LIM : Int)) <|
 ask ((0 : Int) ≤ x18 ∧ x18 < (↑a0.Ops.length : Int)) <|
 (Al (Ek a0 k0 r1 x17 x18) (decide ((nth a0.Ops x18.toNat).Arity > (0 : Int)), List.replicate (nth a0.Ops x18.toNat).Arity.toNat (0 : Int), x9', x8')).bind fun (q45_9, q45_8) =>
 ask (InI (x18 + (1 : Int))) <|
 some (.inl (x18 + (1 : Int), q45_9, q45_8))
 else
 some (.inr (x9', x8'))
def Lw (a0 : SAlgebra) (k0 : Int) (r1 : Int) (x17 : Int) : (Int × (List (List Int)) × (List (List Int))) → St := fun s => [(18, A.val (Ae s.1)), (17, A.val (Ae (x17))), (10, A.val (Ae (r1))), (9, A.val ((slr true 1 (slr false 1 Ae)) s.2.1)), (8, A.val ((slr true 1 (slr false 1 Ae)) s.2.2)), (3, A.val ((rP true (A5 false)) (a0))), (1, A.val (Ae (k0)))]
def Sp (a0 : SAlgebra) (k0 : Int) (r1 : Int) (x17 : Int) : ((List (List Int)) × (List (List Int))) → Tgt
 | s => ((Ex.exit 8), [17, 10, 9, 8, 3, 1], [(17, A.val (Ae (x17))), (10, A.val (Ae (r1))), (9, A.val ((slr true 1 (slr false 1 Ae)) s.1)), (8, A.val ((slr true 1 (slr false 1 Ae)) s.2)), (3, A.val ((rP true (A5 false)) (a0))), (1, A.val (Ae (k0)))])
theorem Ab6 {a0 : SAlgebra} {k0 : Int} {r1 : Int} {x17 : Int} (s : (Int × (List (List Int)) × (List (List Int)))) (o : (Int × (List (List Int)) × (List (List Int))) ⊕ ((List (List Int)) × (List (List Int)))) (h : Ej a0 k0 r1 x17 s = some o) : vc Try.prog R8 (C6 [18, 17, 10, 9, 8, 3, 1] (Lw a0 k0 r1 x17) (Sp a0 k0 r1 x17) o) (Lw a0 k0 r1 x17 s) := by
 obtain ⟨x18, x9', x8'⟩ := s
 unfold Ej at h
 try dsimp only at h
 refine Cells.lit rfl rfl <| Len.map <| Br.od h (fun p27 h => ?_) (fun p27 h => ?_)
 ·refine Cells.lit rfl rfl <| Len.map <| Ask.o h fun p28 h => Elem.o (by first | omega | (simp [A4] at * <;> omega)) <| Ask.o h fun p29 h => MkQ.o Ae ((0 : Int)) rfl <| Cells.lit rfl rfl <| Len.map <| Ask.o h fun p30 h => Elem.o (by first | omega | (simp [A4] at * <;> omega)) <| LoopQ.o [20, 19, 18, 17, 10, 9, 8, 3, 1] (Lv a0 k0 r1 x17 x18) (So a0 k0 r1 x17 x18) h (fun s o h => Acm s o h) (by rfl) (fun _ => rfl) ?_
  rintro ⟨q45_9, q45_8⟩ h
  try dsimp only at h
  refine Ask.o h fun p46 h => ?_
  cases h; exact ⟨rfl, rfl⟩
 cases h; exact ⟨rfl, rfl⟩
noncomputable def F6 (a0 : SAlgebra) (k0 : Int) (r1 : Int) : (Int × (List (List Int)) × (List (List Int))) → Option ((Int × (List (List Int)) × (List (List Int))) ⊕ (List (List Int))) := fun (x17, x9, x8) =>
 ((if x17 < (↑x9.length : Int) then
 if (↑x9.length : Int) ≤ r1 then
 some (.inl ())
 else
 some (.inr ())
 else
 some (.inr ()) : Option (Unit ⊕ Unit))).bind fun t => match t with
 | (.inl _) => ((Al (Ej a0 k0 r1 x17) ((0 : Int), x9, x8)).bind fun (q47_9, q47_8) =>
 ask (InI (x17 + (1 : Int))) <|
 some (.inl (x17 + (1 : Int), q47_9, q47_8)))
 | (.inr _) => (some (.inr x8))
def Lz (a0 : SAlgebra) (k0 : Int) (r1 : Int) : (Int × (List (List Int)) × (List (List Int))) → St := fun s => [(17, A.val (Ae s.1)), (10, A.val (Ae (r1))), (9, A.val ((slr true 1 (slr false 1 Ae)) s.2.1)), (8, A.val ((slr true 1 (slr false 1 Ae)) s.2.2)), (3, A.val ((rP true (A5 false)) (a0))), (1, A.val (Ae (k0)))]
def Rr (_a0 : SAlgebra) (_k0 : Int) (r1 : Int) : (List (List Int)) → Tgt
 | s => ((Ex.exit 6), [10, 8], [(10, A.val (Ae (r1))), (8, A.val ((slr true 1 (slr false 1 Ae)) s))])
theorem Acl {a0 : SAlgebra} {k0 : Int} {r1 : Int} (s : (Int × (List (List Int)) × (List (List Int)))) (o : (Int × (List (List Int)) × (List (List Int))) ⊕ (List (List Int))) (h : F6 a0 k0 r1 s = some o) : vc Try.prog Rp (C6 [17, 10, 9, 8, 3, 1] (Lz a0 k0 r1) (Rr a0 k0 r1) o) (Lz a0 k0 r1 s) := by
 obtain ⟨x17, x9, x8⟩ := s
 unfold F6 at h
 try dsimp only at h
 refine CutQ.o (fun t : (Unit ⊕ Unit) => match t with | (.inl s) => (Ex.normal, [17, 10, 9, 8, 3, 1], [(17, A.val (Ae (x17))), (10, A.val (Ae (r1))), (9, A.val ((slr true 1 (slr false 1 Ae)) (x9))), (8, A.val ((slr true 1 (slr false 1 Ae)) (x8))), (3, A.val ((rP true (A5 false)) (a0))), (1, A.val (Ae (k0)))]) | (.inr s) => ((Ex.exit 6), [10, 8], [(10, A.val (Ae (r1))), (8, A.val ((slr true 1 (slr false 1 Ae)) (x8)))])) h ?_ ?_
 ·intro t h
  refine Len.map <| Br.od h (fun p24 h => ?_) (fun p24 h => ?_)
  ·refine Br.yes <| Len.map <| Br.yes <| Br.yes <| Br.yes <| Br.od h (fun p25 h => ?_) (fun p25 h => ?_)
   ·cases h; exact ⟨rfl, rfl⟩
   cases h; exact ⟨rfl, rfl⟩
  refine Br.no <| Br.no <| Br.no <| Br.no <| Br.no ?_
  cases h; exact ⟨rfl, rfl⟩
 rintro (⟨⟩ | ⟨⟩) h
 ·try dsimp only at h
  refine LoopQ.o [18, 17, 10, 9, 8, 3, 1] (Lw a0 k0 r1 x17) (Sp a0 k0 r1 x17) h (fun s o h => Ab6 s o h) (by rfl) (fun _ => rfl) ?_
  rintro ⟨q47_9, q47_8⟩ h
  try dsimp only at h
  refine Ask.o h fun p48 h => ?_
  cases h; exact ⟨rfl, rfl⟩
 try dsimp only at h
 cases h; exact ⟨rfl, rfl⟩
noncomputable def G4 (a0 : SAlgebra) (k0 : Int) (gens0 : (List (List Int))) : Option ((List (List Int)) × Bool) :=
 (J8 (a0)).bind fun r1 =>
 (Al (Dr a0 k0 gens0 r1) ((0 : Int), Ap (List Int))).bind fun q6_11 =>
 (Al (Gf a0 k0 r1) ((0 : Int), q6_11)).bind fun q13_11 =>
 (Al (Gb a0 k0 r1 q13_11) ((0 : Int), Ap (List Int), Ap (List Int))).bind fun (q23_9, q23_8) =>
 (Al (F6 a0 k0 r1) ((0 : Int), q23_9, q23_8)).bind fun q49_8 =>
 some (q49_8, decide ((↑q49_8.length : Int) ≤ r1))
theorem Ajw {a0 : SAlgebra} {k0 : Int} {gens0 : (List (List Int))} {v : ((List (List Int)) × Bool)} (h : G4 a0 k0 gens0 = some v) : Ret Try.prog Q9 [(A5 false) a0, Ae k0, (slr false 1 (slr false 1 Ae)) gens0] ((fun r => V.tup [(slr true 1 (slr false 1 Ae)) r.1, V.bool r.2]) v) := by
 refine A7 Ahe (Nat.le_of_ble_eq_true rfl) ?_
 unfold G4 at h
 refine BslQ.o (slr true 1 Ae) (Ap (List Int)) (by exact fun _ => ⟨rfl, rfl⟩) (by first | rfl | (simp only [Aa, V.fz, fzL, V.up, upL, Ab, Ac, Ad, slr, List.cons_append, List.nil_append]; done) | simp [Aa, V.fz, fzL, V.up, upL, Ab, Ac, Ad, slr]) <| BslQ.o (slr true 1 Ae) (Ap (List Int)) (by exact fun _ => ⟨rfl, rfl⟩) (by first | rfl | (simp only [Aa, V.fz, fzL, V.up, upL, Ab, Ac, Ad, slr, List.cons_append, List.nil_append]; done) | simp [Aa, V.fz, fzL, V.up, upL, Ab, Ac, Ad, slr]) <| Cells.lit rfl rfl <| CallQ.o Ae (by rfl) h (fun r h => Aki h) (fun r1 h => ?_)
 refine BslQ.o (slr true 1 Ae) (Ap (List Int)) (by exact fun _ => ⟨rfl, rfl⟩) (by first | rfl | (simp only [Aa, V.fz, fzL, V.up, upL, Ab, Ac, Ad, slr, List.cons_append, List.nil_append]; done) | simp [Aa, V.fz, fzL, V.up, upL, Ab, Ac, Ad, slr]) <| LoopQ.o [12, 11, 10, 9, 8, 3, 1, 2] (Ls a0 k0 gens0 r1) (Sj a0 k0 gens0 r1) h (fun s o h => Adt s o h) (by rfl) (fun _ => rfl) ?_
 rintro q6_11 h
 try dsimp only at h
 refine LoopQ.o [13, 11, 10, 9, 8, 3, 1] (L2 a0 k0 r1) (Rv a0 k0 r1) h (fun s o h => Ac1 s o h) (by rfl) (fun _ => rfl) ?_
 rintro q13_11 h
 try dsimp only at h
 refine FrzQ.d (V.sl true (1 : Nat) (List.map (slr false (1 : Nat) Ae) q13_11)) (by first | (simp only [V.fzAt, M2, Ab, slr]; done) | exact Eq.trans (b := V.sl true (1 : Nat) (List.map (slr false (1 : Nat) Ae) q13_11)) rfl (by simp only [Ac])) <| LoopQ.o [11, 14, 10, 9, 8, 3, 1] (Lm a0 k0 r1 q13_11) (R0 a0 k0 r1 q13_11) h (fun s o h => Acu s o h) (by rfl) (fun _ => rfl) ?_
 rintro ⟨q23_9, q23_8⟩ h
 try dsimp only at h
 refine LoopQ.o [17, 10, 9, 8, 3, 1] (Lz a0 k0 r1) (Rr a0 k0 r1) h (fun s o h => Acl s o h) (by rfl) (fun _ => rfl) ?_
 rintro q49_8 h
 try dsimp only at h
 refine Len.map ?_
 cases h; exact (by rfl)
noncomputable def E3 (r0 : SRelation) : Option ((List (List Int)) × Bool) :=
 (Ds ((2 : Int)) (r0)).bind fun r1 =>
 if (r1) = true then
 (Dz (r0)).bind fun r3 =>
 some (r3, true)
 else
 some (Ap (List Int), false)
theorem Y1 {r0 : SRelation} {v : ((List (List Int)) × Bool)} (h : E3 r0 = some v) : Ret Try.prog Jx [(Ah false) r0] ((fun r => V.tup [(slr false 1 (slr false 1 Ae)) r.1, V.bool r.2]) v) := by
 refine Ajv Zi (Nat.le_of_ble_eq_true rfl) ?_
 unfold E3 at h
 conv => whnf
 refine Cells.lit rfl rfl ?_
 conv => whnf
 refine CallQ.o V.bool (by rfl) h (fun r h => L7 h) (fun r1 h => ?_)
 conv => whnf
 refine Br.flip ?_
 conv => whnf
 refine Br.ob h (fun p2 h => ?_) (fun p2 h => ?_)
 ·conv => whnf
  refine Cells.lit rfl rfl ?_
  conv => whnf
  refine CallQ.o (slr true 1 (slr false 1 Ae)) (by rfl) h (fun r h => Pw h) (fun r3 h => ?_)
  conv => whnf
  cases h; exact (by first | rfl | simp only [Ai, V.fz, fzL, V.up, Ab, slr] | simp [Ai, Aa, V.fz, fzL, V.up, upL, Ab, Ac, Ad, slr])
 conv => whnf
 refine BslQ.o (slr true 1 Ae) (Ap (List Int)) (by exact fun _ => ⟨rfl, rfl⟩) (by first | rfl | (simp only [Aa, V.fz, fzL, V.up, upL, Ab, Ac, Ad, slr, List.cons_append, List.nil_append]; done) | simp [Aa, V.fz, fzL, V.up, upL, Ab, Ac, Ad, slr]) ?_
 conv => whnf
 cases h; exact (by rfl)
noncomputable def E2 (r0 : SRelation) : Option ((List (List Int)) × Bool) :=
 (Fw ((2 : Int)) (r0)).bind fun r1 =>
 if (r1) = true then
 (F4 (r0)).bind fun r3 =>
 some (r3, true)
 else
 some (Ap (List Int), false)
theorem Y6 {r0 : SRelation} {v : ((List (List Int)) × Bool)} (h : E2 r0 = some v) : Ret Try.prog Jy [(Ah false) r0] ((fun r => V.tup [(slr false 1 (slr false 1 Ae)) r.1, V.bool r.2]) v) := by
 refine Ajv Yy (Nat.le_of_ble_eq_true rfl) ?_
 unfold E2 at h
 conv => whnf
 refine Cells.lit rfl rfl ?_
 conv => whnf
 refine CallQ.o V.bool (by rfl) h (fun r h => Q4 h) (fun r1 h => ?_)
 conv => whnf
 refine Br.flip ?_
 conv => whnf
 refine Br.ob h (fun p2 h => ?_) (fun p2 h => ?_)
 ·conv => whnf
  refine Cells.lit rfl rfl ?_
  conv => whnf
  refine CallQ.o (slr true 1 (slr false 1 Ae)) (by rfl) h (fun r h => V5 h) (fun r3 h => ?_)
  conv => whnf
  cases h; exact (by first | rfl | simp only [Ai, V.fz, fzL, V.up, Ab, slr] | simp [Ai, Aa, V.fz, fzL, V.up, upL, Ab, Ac, Ad, slr])
 conv => whnf
 refine BslQ.o (slr true 1 Ae) (Ap (List Int)) (by exact fun _ => ⟨rfl, rfl⟩) (by first | rfl | (simp only [Aa, V.fz, fzL, V.up, upL, Ab, Ac, Ad, slr, List.cons_append, List.nil_append]; done) | simp [Aa, V.fz, fzL, V.up, upL, Ab, Ac, Ad, slr]) ?_
 conv => whnf
 cases h; exact (by rfl)
end Go.Proofs.Ytjcekpmojnnmbaa.Ax
