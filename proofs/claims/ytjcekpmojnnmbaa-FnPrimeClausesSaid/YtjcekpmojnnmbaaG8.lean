/-
 What the functions compute, as functions on plain data, and that the program does compute it; written by program.
-/
import Derived.Test.YtjcekpmojnnmbaaCode
import Derived.Test.YtjcekpmojnnmbaaG1
import Derived.Test.YtjcekpmojnnmbaaG2
import Derived.Test.YtjcekpmojnnmbaaG3
import Derived.Test.YtjcekpmojnnmbaaG4
import Derived.Test.YtjcekpmojnnmbaaG5
import Derived.Test.YtjcekpmojnnmbaaG6
import Derived.Test.YtjcekpmojnnmbaaG7
namespace Go.Proofs.Ytjcekpmojnnmbaa.Ax
open Go
set_option maxRecDepth 100000
set_option maxHeartbeats 4000000
noncomputable def Ci (n0 : Int) (arity0 : Int) (_x8 : Int) (_x7 : SRelation) : (Int × (List Int) × Sl1Cur) → Option ((Int × (List Int) × Sl1Cur) ⊕ ((List Int) × Sl1Cur)) := fun (x10, x9, x94') =>
 if x10 < arity0 then
 (Bb (x94') (n0)).bind fun (r10, u11) =>
 ask ((x9).length + ([r10]).length ≤ LIM) <|
 ask (InI (x10 + (1 : Int))) <|
 some (.inl (x10 + (1 : Int), x9 ++ [r10], u11))
 else
 some (.inr (x9, x94'))
def Gm (n0 : Int) (arity0 : Int) (x8 : Int) (x7 : SRelation) : (Int × (List Int) × Sl1Cur) → St := fun s => [(10, A.val (Ae s.1)), (9, A.val ((slr true 1 Ae) s.2.1)), (8, A.val (Ae (x8))), (7, A.val ((rP true (Aj)) (x7))), (6, A.val ((rP true (Aj)) ({ Arity := (0 : Int), Tuples := Ap (List Int) }))), (0, A.ref 94 []), (94, A.val ((rP true (Am false)) s.2.2)), (1, A.val (Ae (n0))), (2, A.val (Ae (arity0)))]
def J6 (n0 : Int) (arity0 : Int) (x8 : Int) (x7 : SRelation) : ((List Int) × Sl1Cur) → Tgt
 | s => ((Ex.exit 2), [9, 8, 7, 6, 0, 94, 1, 2], [(9, A.val ((slr true 1 Ae) s.1)), (8, A.val (Ae (x8))), (7, A.val ((rP true (Aj)) (x7))), (6, A.val ((rP true (Aj)) ({ Arity := (0 : Int), Tuples := Ap (List Int) }))), (0, A.ref 94 []), (94, A.val ((rP true (Am false)) s.2)), (1, A.val (Ae (n0))), (2, A.val (Ae (arity0)))])
theorem Ta {n0 : Int} {arity0 : Int} {x8 : Int} {x7 : SRelation} (s : (Int × (List Int) × Sl1Cur)) (o : (Int × (List Int) × Sl1Cur) ⊕ ((List Int) × Sl1Cur)) (h : Ci n0 arity0 x8 x7 s = some o) : vc Try.prog Ka (C6 [10, 9, 8, 7, 6, 0, 94, 1, 2] (Gm n0 arity0 x8 x7) (J6 n0 arity0 x8 x7) o) (Gm n0 arity0 x8 x7 s) := by
 obtain ⟨x10, x9, x94'⟩ := s
 unfold Ci at h
 try dsimp only at h
 refine Br.od h (fun p9 h => ?_) (fun p9 h => ?_)
 ·refine CallQ.io Ae (rP true (Am false)) (by rfl) rfl (fun _ => rfl) (fun _ => ⟨rfl, rfl⟩) rfl h (fun r h => Bz h) (fun r10 u11 h => ?_)
  refine BslQ.o Ae [r10] (by exact fun _ => ⟨rfl, rfl⟩) (by first | rfl | (simp only [Aa, V.fz, fzL, V.up, upL, Ab, Ac, Ad, slr, List.cons_append, List.nil_append]; done) | simp [Aa, V.fz, fzL, V.up, upL, Ab, Ac, Ad, slr]) <| NoOwn.o (fun _ => rfl) <| AppQ.o (m := 1) Ae (by exact fun _ => ⟨rfl, rfl⟩) (x9) ([r10]) (by rfl) (by rfl) h fun h => Ask.o h fun p12 h => ?_
  cases h; exact ⟨rfl, rfl⟩
 cases h; exact ⟨rfl, rfl⟩
noncomputable def Dd (n0 : Int) (arity0 : Int) : (Int × SRelation × Sl1Cur) → Option ((Int × SRelation × Sl1Cur) ⊕ (SRelation × Sl1Cur)) := fun (x8, x7, x94) =>
 if x8 > (0 : Int) then
 (Al (Ci n0 arity0 x8 x7) ((0 : Int), Ap Int, x94)).bind fun (q13_9, q13_94) =>
 (Fc (x7.Tuples) (q13_9)).bind fun r14 =>
 ask (InI (x8 - (1 : Int))) <|
 some (.inl (x8 - (1 : Int), { Arity := x7.Arity, Tuples := r14 }, q13_94))
 else
 some (.inr (x7, x94))
def Gg (n0 : Int) (arity0 : Int) : (Int × SRelation × Sl1Cur) → St := fun s => [(8, A.val (Ae s.1)), (7, A.val ((rP true (Aj)) s.2.1)), (6, A.val ((rP true (Aj)) ({ Arity := (0 : Int), Tuples := Ap (List Int) }))), (0, A.ref 94 []), (94, A.val ((rP true (Am false)) s.2.2)), (1, A.val (Ae (n0))), (2, A.val (Ae (arity0)))]
def J7 (n0 : Int) (arity0 : Int) : (SRelation × Sl1Cur) → Tgt
 | s => ((Ex.exit 0), [7, 6, 0, 94, 1, 2], [(7, A.val ((rP true (Aj)) s.1)), (6, A.val ((rP true (Aj)) ({ Arity := (0 : Int), Tuples := Ap (List Int) }))), (0, A.ref 94 []), (94, A.val ((rP true (Am false)) s.2)), (1, A.val (Ae (n0))), (2, A.val (Ae (arity0)))])
theorem Sx {n0 : Int} {arity0 : Int} (s : (Int × SRelation × Sl1Cur)) (o : (Int × SRelation × Sl1Cur) ⊕ (SRelation × Sl1Cur)) (h : Dd n0 arity0 s = some o) : vc Try.prog Kc (C6 [8, 7, 6, 0, 94, 1, 2] (Gg n0 arity0) (J7 n0 arity0) o) (Gg n0 arity0 s) := by
 obtain ⟨x8, x7, x94⟩ := s
 unfold Dd at h
 try dsimp only at h
 refine Br.od h (fun p8 h => ?_) (fun p8 h => ?_)
 ·refine BslQ.o Ae (Ap Int) (by exact fun _ => ⟨rfl, rfl⟩) (by first | rfl | (simp only [Aa, V.fz, fzL, V.up, upL, Ab, Ac, Ad, slr, List.cons_append, List.nil_append]; done) | simp [Aa, V.fz, fzL, V.up, upL, Ab, Ac, Ad, slr]) <| LoopQ.o [10, 9, 8, 7, 6, 0, 94, 1, 2] (Gm n0 arity0 x8 x7) (J6 n0 arity0 x8 x7) h (fun s o h => Ta s o h) (by rfl) (fun _ => rfl) ?_
  rintro ⟨q13_9, q13_94⟩ h
  try dsimp only at h
  refine FrzQ.d (V.sl false (1 : Nat) (List.map Ae q13_9)) (by first | (simp only [slr]; done) | (simp [As, V.fz, Ab, slr]; done) | (simp [As, V.fz, fzL, Ab, slr]; done)) <| Cells.lit rfl rfl <| Kid.lit rfl rfl <| CallQ.give (slr true 1 (slr false 1 Ae)) (by rfl) rfl (fun _ => rfl) rfl h (fun r h => P1 h) (fun r14 h => ?_)
  refine Kid.lit rfl rfl <| SetKids.lit rfl <| SetKids.lit rfl <| Ask.o h fun p15 h => ?_
  cases h; exact ⟨rfl, rfl⟩
 cases h; exact ⟨rfl, rfl⟩
noncomputable def Db (c0 : Sl1Cur) (n0 : Int) (arity0 : Int) : Option (SRelation × Sl1Cur) :=
 (((Ny (n0)).bind fun r1 =>
 if (r1) = true then
 (Fh (arity0) ((1 : Int)) ((3 : Int))).bind fun r3 =>
 if (r3) = true then
 some (.inl ())
 else
 some (.inr ())
 else
 some (.inr ()) : Option (Unit ⊕ Unit))).bind fun t => match t with
 | (.inl _) => ((Bj (c0) ([(0 : Int), (1 : Int), (2 : Int), (3 : Int), (4 : Int), (6 : Int), (9 : Int)])).bind fun (r6, u7) =>
 (Al (Dd n0 arity0) (r6, { Arity := arity0, Tuples := Ap (List Int) }, u7)).bind fun (q16_7, q16_94) =>
 ((if arity0 = (2 : Int) then
 (C5 (q16_94) ((3 : Int))).bind fun (r18, u19) =>
 if (r18) = true then
 (Ch (u19) (n0)).bind fun (r21, u22) =>
 (Da (r21)).bind fun r23 =>
 some (r23, u22)
 else
 some (q16_7, u19)
 else
 some (q16_7, q16_94) : Option (SRelation × Sl1Cur))).bind fun (q24_7, q24_94) =>
 (((C5 (q24_94) ((12 : Int))).bind fun (r25, u26) =>
 if (r25) = true then
 (Dg (n0) (arity0)).bind fun r28 =>
 some (r28, u26)
 else
 some (q24_7, u26) : Option (SRelation × Sl1Cur))).bind fun (q29_7, q29_94) =>
 (Bb (q29_94) ((40 : Int))).bind fun (r30, u31) =>
 if r30 = (0 : Int) then
 (Bj (u31) ([(0 : Int), (4 : Int), (-1 : Int)])).bind fun (r33, u34) =>
 some ({ Arity := r33, Tuples := q29_7.Tuples }, u34)
 else
 if r30 = (1 : Int) then
 ask ((0 : Int) ≤ arity0 ∧ arity0 ≤ (↑LIM : Int)) <|
 ask ((q29_7.Tuples).length + ([List.replicate arity0.toNat (0 : Int)]).length ≤ LIM) <|
 some ({ Arity := q29_7.Arity, Tuples := q29_7.Tuples ++ [List.replicate arity0.toNat (0 : Int)] }, u31)
 else
 if r30 = (2 : Int) then
 if (↑q29_7.Tuples.length : Int) > (0 : Int) then
 (Bj (u31) ([(-1 : Int), n0, (0 : Int)])).bind fun (r39, u40) =>
 ask ((0 : Int) ≤ (0 : Int) ∧ (0 : Int) < (↑q29_7.Tuples.length : Int)) <|
 some ({ Arity := q29_7.Arity, Tuples := q29_7.Tuples.set (Int.toNat (0 : Int)) [r39] }, u40)
 else
 some (q29_7, u31)
 else
 some (q29_7, u31))
 | (.inr _) => (some ({ Arity := arity0, Tuples := Ap (List Int) }, c0))
theorem Mo {c0 : Sl1Cur} {n0 : Int} {arity0 : Int} {v : (SRelation × Sl1Cur)} (h : Db c0 n0 arity0 = some v) : Sr Try.prog Fx [(rP true (Am false)) c0, Ae n0, Ae arity0] ((Aj) v.1) 0 ((rP true (Am false)) v.2) := by
 refine Yv W5 (Nat.le_of_ble_eq_true rfl) ?_
 unfold Db at h
 refine BslQ.o (slr true 1 Ae) (Ap (List Int)) (by exact fun _ => ⟨rfl, rfl⟩) (by first | rfl | (simp only [Aa, V.fz, fzL, V.up, upL, Ab, Ac, Ad, slr, List.cons_append, List.nil_append]; done) | simp [Aa, V.fz, fzL, V.up, upL, Ab, Ac, Ad, slr]) <| SetKids.lit rfl <| CutQ.o (fun t : (Unit ⊕ Unit) => match t with | (.inl s) => (Ex.normal, [7, 6, 0, 94, 1, 2], [(7, A.val ((rP true (Aj)) ({ Arity := arity0, Tuples := Ap (List Int) }))), (6, A.val ((rP true (Aj)) ({ Arity := (0 : Int), Tuples := Ap (List Int) }))), (0, A.ref 94 []), (94, A.val ((rP true (Am false)) (c0))), (1, A.val (Ae (n0))), (2, A.val (Ae (arity0)))]) | (.inr s) => (Ex.ret, [6, 94], [(6, A.val ((rP true (Aj)) ({ Arity := arity0, Tuples := Ap (List Int) }))), (94, A.val ((rP true (Am false)) (c0)))])) h ?_ ?_
 ·intro t h
  refine CallQ.o V.bool (by rfl) h (fun r h => Akm h) (fun r1 h => ?_)
  refine Br.flip <| Br.ob h (fun p2 h => ?_) (fun p2 h => ?_)
  ·refine Br.no <| CallQ.o V.bool (by rfl) h (fun r h => K1 h) (fun r3 h => ?_)
   refine Br.no <| Br.no <| Br.flip <| Br.ob h (fun p4 h => ?_) (fun p4 h => ?_)
   ·cases h; exact ⟨rfl, rfl⟩
   refine Cells.lit rfl rfl <| SetKids.lit rfl ?_
   cases h; exact ⟨rfl, rfl⟩
  refine Br.yes <| Br.yes <| Br.yes <| Br.yes <| Cells.lit rfl rfl <| SetKids.lit rfl ?_
  cases h; exact ⟨rfl, rfl⟩
 rintro (⟨⟩ | ⟨⟩) h
 ·try dsimp only at h
  refine BslQ.o Ae ([(0 : Int), (1 : Int), (2 : Int), (3 : Int), (4 : Int), (6 : Int), (9 : Int)]) (by exact fun _ => ⟨rfl, rfl⟩) (by first | rfl | (simp only [Aa, V.fz, fzL, V.up, upL, Ab, Ac, Ad, slr, List.cons_append, List.nil_append]; done) | simp [Aa, V.fz, fzL, V.up, upL, Ab, Ac, Ad, slr]) <| CallQ.io Ae (rP true (Am false)) (by first | rfl | (simp only [Aa, As, V.fz, fzL, Ab, Ac, slr]; done) | simp [Aa, As, V.fz, fzL, V.up, upL, Ab, Ac, Ad, slr]) rfl (fun _ => rfl) (fun _ => ⟨rfl, rfl⟩) rfl h (fun r h => C1 h) (fun r6 u7 h => ?_)
  refine LoopQ.o [8, 7, 6, 0, 94, 1, 2] (Gg n0 arity0) (J7 n0 arity0) h (fun s o h => Sx s o h) (by rfl) (fun _ => rfl) ?_
  rintro ⟨q16_7, q16_94⟩ h
  try dsimp only at h
  refine CutQ.o (fun t : (SRelation × Sl1Cur) => match t with | s => (Ex.normal, [7, 6, 0, 94, 1, 2], [(7, A.val ((rP true (Aj)) s.1)), (6, A.val ((rP true (Aj)) ({ Arity := (0 : Int), Tuples := Ap (List Int) }))), (0, A.ref 94 []), (94, A.val ((rP true (Am false)) s.2)), (1, A.val (Ae (n0))), (2, A.val (Ae (arity0)))])) h ?_ ?_
  ·intro t h
   refine Br.oe h (fun p17 h => ?_) (fun p17 h => ?_)
   ·refine Br.yes <| CallQ.io V.bool (rP true (Am false)) (by rfl) rfl (fun _ => rfl) (fun _ => ⟨rfl, rfl⟩) rfl h (fun r h => M4 h) (fun r18 u19 h => ?_)
    refine Br.yes <| Br.ob h (fun p20 h => ?_) (fun p20 h => ?_)
    ·refine CallQ.io (slr false 1 Ae) (rP true (Am false)) (by rfl) rfl (fun _ => rfl) (fun _ => ⟨rfl, rfl⟩) rfl h (fun r h => Sr.frz (Tc h) (by first | rfl | simp only [V.fz, Ab, slr] | simp [Aa, V.fz, fzL, V.up, upL, Ab, Ac, Ad, slr])) (fun r21 u22 h => ?_)
     refine CallQ.o (Aj) (by rfl) h (fun r h => W9 h) (fun r23 h => ?_)
     refine SetKids.lit rfl ?_
     cases h; exact ⟨rfl, rfl⟩
    cases h; exact ⟨rfl, rfl⟩
   refine Br.no <| Br.no <| Br.no ?_
   cases h; exact ⟨rfl, rfl⟩
  rintro ⟨q24_7, q24_94⟩ h
  try dsimp only at h
  refine CutQ.o (fun t : (SRelation × Sl1Cur) => match t with | s => (Ex.normal, [7, 6, 0, 94, 1, 2], [(7, A.val ((rP true (Aj)) s.1)), (6, A.val ((rP true (Aj)) ({ Arity := (0 : Int), Tuples := Ap (List Int) }))), (0, A.ref 94 []), (94, A.val ((rP true (Am false)) s.2)), (1, A.val (Ae (n0))), (2, A.val (Ae (arity0)))])) h ?_ ?_
  ·intro t h
   refine CallQ.io V.bool (rP true (Am false)) (by rfl) rfl (fun _ => rfl) (fun _ => ⟨rfl, rfl⟩) rfl h (fun r h => M4 h) (fun r25 u26 h => ?_)
   refine Br.ob h (fun p27 h => ?_) (fun p27 h => ?_)
   ·refine CallQ.o (Aj) (by rfl) h (fun r h => Xe h) (fun r28 h => ?_)
    refine SetKids.lit rfl ?_
    cases h; exact ⟨rfl, rfl⟩
   cases h; exact ⟨rfl, rfl⟩
  rintro ⟨q29_7, q29_94⟩ h
  try dsimp only at h
  refine CallQ.io Ae (rP true (Am false)) (by rfl) rfl (fun _ => rfl) (fun _ => ⟨rfl, rfl⟩) rfl h (fun r h => Bz h) (fun r30 u31 h => ?_)
  refine Br.oe h (fun p32 h => ?_) (fun p32 h => ?_)
  ·refine BslQ.o Ae ([(0 : Int), (4 : Int), (-1 : Int)]) (by exact fun _ => ⟨rfl, rfl⟩) (by first | rfl | (simp only [Aa, V.fz, fzL, V.up, upL, Ab, Ac, Ad, slr, List.cons_append, List.nil_append]; done) | simp [Aa, V.fz, fzL, V.up, upL, Ab, Ac, Ad, slr]) <| CallQ.io Ae (rP true (Am false)) (by first | rfl | (simp only [Aa, As, V.fz, fzL, Ab, Ac, slr]; done) | simp [Aa, As, V.fz, fzL, V.up, upL, Ab, Ac, Ad, slr]) rfl (fun _ => rfl) (fun _ => ⟨rfl, rfl⟩) rfl h (fun r h => C1 h) (fun r33 u34 h => ?_)
   refine SetKids.lit rfl <| Cells.lit rfl rfl <| SetKids.lit rfl ?_
   cases h; exact ⟨(by rfl), (by rfl)⟩
  refine Br.oe h (fun p35 h => ?_) (fun p35 h => ?_)
  ·refine Cells.lit rfl rfl <| Ask.o h fun p36 h => MkQ.o Ae ((0 : Int)) rfl <| FrzQ.d (V.sl false (1 : Nat) (List.map Ae (List.replicate arity0.toNat (0 : Int)))) (by first | (simp only [As, Ac]; done) | (simp [As, V.fz, Ab, Ac, slr]; done) | (simp [As, V.fz, fzL, Ab, slr]; done)) <| BslQ.o (slr false 1 Ae) ([List.replicate arity0.toNat (0 : Int)]) (by exact fun _ => ⟨rfl, rfl⟩) (by first | rfl | (simp only [Aa, V.fz, fzL, V.up, upL, Ab, Ac, Ad, slr, List.cons_append, List.nil_append]; done) | simp [Aa, V.fz, fzL, V.up, upL, Ab, Ac, Ad, slr]) <| NoOwn.o (fun _ => rfl) <| Kid.lit rfl rfl <| Kid.lit rfl rfl <| SetKids.lit rfl <| AppQ.o (m := 1) (slr false 1 Ae) (by exact fun _ => ⟨rfl, rfl⟩) (q29_7.Tuples) ([List.replicate arity0.toNat (0 : Int)]) (by rfl) (by rfl) h fun h => SetKids.lit rfl <| Cells.lit rfl rfl <| SetKids.lit rfl ?_
   cases h; exact ⟨(by rfl), (by rfl)⟩
  refine Br.oe h (fun p37 h => ?_) (fun p37 h => ?_)
  ·refine Cells.lit rfl rfl <| Kid.lit rfl rfl <| Len.map <| Br.od h (fun p38 h => ?_) (fun p38 h => ?_)
   ·refine Cells.lit rfl rfl <| BslQ.o Ae ([(-1 : Int), n0, (0 : Int)]) (by exact fun _ => ⟨rfl, rfl⟩) (by first | rfl | (simp only [Aa, V.fz, fzL, V.up, upL, Ab, Ac, Ad, slr, List.cons_append, List.nil_append]; done) | simp [Aa, V.fz, fzL, V.up, upL, Ab, Ac, Ad, slr]) <| FrzQ.d (V.sl false (1 : Nat) (List.map Ae [(-1 : Int), n0, (0 : Int)])) (by first | (simp only [As, Ac]; done) | (simp [As, V.fz, Ab, Ac, slr]; done) | (simp [As, V.fz, fzL, Ab, slr]; done)) <| LendP.io Ae (rP true (Am false)) (by rfl) (fun _ => rfl) (fun _ => ⟨rfl, rfl⟩) (fun _ => rfl) h (fun r h => C1 h) (fun r39 u40 h => ?_)
    refine BslQ.o Ae [r39] (by exact fun _ => ⟨rfl, rfl⟩) (by first | rfl | (simp only [Aa, V.fz, fzL, V.up, upL, Ab, Ac, Ad, slr, List.cons_append, List.nil_append]; done) | simp [Aa, V.fz, fzL, V.up, upL, Ab, Ac, Ad, slr]) <| FrzQ.d (V.sl false (1 : Nat) (List.map Ae [r39])) (by first | (simp only [As, Ac]; done) | (simp [As, V.fz, Ab, Ac, slr]; done) | (simp [As, V.fz, fzL, Ab, slr]; done)) <| Kid.lit rfl rfl <| Len.map <| Ask.o h fun p41 h => Kid.lit rfl rfl <| SetKids.one (fun _ => ⟨rfl, rfl⟩) ([r39]) (by rfl) (by first | omega | (simp [A4] at * <;> omega)) <| Kid.lit rfl rfl <| SetKids.lit rfl <| Cells.lit rfl rfl <| SetKids.lit rfl ?_
    cases h; exact ⟨(by rfl), (by rfl)⟩
   refine Cells.lit rfl rfl <| SetKids.lit rfl ?_
   cases h; exact ⟨(by rfl), (by rfl)⟩
  refine Cells.lit rfl rfl <| SetKids.lit rfl ?_
  cases h; exact ⟨(by rfl), (by rfl)⟩
 try dsimp only at h
 cases h; exact ⟨(by rfl), (by rfl)⟩
noncomputable def Cc (r0 : SRelation) (r1 : List (List Int)) (x13 : Int) (_x3 : List (List Int)) : (Int × Bool) → Option ((Int × Bool) ⊕ Bool) := fun (x23, x6) =>
 if x23 < (↑(nth r1 x13.toNat).length : Int) then
 if (x6) = true then
 (Jl (nth r1 x13.toNat) (x23)).bind fun r7 =>
 (G1 (r0.Tuples) (r7)).bind fun r8 =>
 ask (InI (x23 + (1 : Int))) <|
 some (.inl (x23 + (1 : Int), !r8))
 else
 ask (InI (x23 + (1 : Int))) <|
 some (.inl (x23 + (1 : Int), false))
 else
 some (.inr x6)
def Hh (r0 : SRelation) (r1 : List (List Int)) (x13 : Int) (x3 : List (List Int)) : (Int × Bool) → St := fun s => [(23, A.val (Ae s.1)), (22, A.val (Ae ((↑(nth r1 x13.toNat).length : Int)))), (6, A.val (V.bool s.2)), (5, A.val ((slr false 1 Ae) (nth r1 x13.toNat))), (13, A.val (Ae (x13))), (12, A.val (Ae ((↑r1.length : Int)))), (11, A.val ((slr false 1 (slr false 1 Ae)) (r1))), (3, A.val ((slr true 1 (slr false 1 Ae)) (x3))), (1, A.val ((rP true (Ah false)) (r0)))]
def L6 (r0 : SRelation) (r1 : List (List Int)) (x13 : Int) (x3 : List (List Int)) : Bool → Tgt
 | s => ((Ex.exit 2), [6, 5, 13, 12, 11, 3, 1], [(6, A.val (V.bool s)), (5, A.val ((slr false 1 Ae) (nth r1 x13.toNat))), (13, A.val (Ae (x13))), (12, A.val (Ae ((↑r1.length : Int)))), (11, A.val ((slr false 1 (slr false 1 Ae)) (r1))), (3, A.val ((slr true 1 (slr false 1 Ae)) (x3))), (1, A.val ((rP true (Ah false)) (r0)))])
theorem Vl {r0 : SRelation} {r1 : List (List Int)} {x13 : Int} {x3 : List (List Int)} (s : (Int × Bool)) (o : (Int × Bool) ⊕ Bool) (h : Cc r0 r1 x13 x3 s = some o) : vc Try.prog Lr (C6 [23, 22, 6, 5, 13, 12, 11, 3, 1] (Hh r0 r1 x13 x3) (L6 r0 r1 x13 x3) o) (Hh r0 r1 x13 x3 s) := by
 obtain ⟨x23, x6⟩ := s
 unfold Cc at h
 try dsimp only at h
 refine Br.od h (fun p5 h => ?_) (fun p5 h => ?_)
 ·refine Br.ob h (fun p6 h => ?_) (fun p6 h => ?_)
  ·refine Br.yes <| Cells.lit rfl rfl <| Br.yes <| Br.yes <| Br.yes <| CallP.o (slr true 1 Ae) (by rfl) h (fun r h => Ahp h) (fun r7 h => ?_)
   refine Br.yes <| CallQ.rd V.bool (by first | rfl | simp only [V.fz, Ab, slr] | simp [Aa, V.fz, fzL, V.up, upL, Ab, Ac, Ad, slr]) (fun _ => rfl) h (fun r h => X3 h) (fun r8 h => ?_)
   refine Br.yes <| Br.yes <| Ask.o h fun p9 h => ?_
   cases h; exact ⟨rfl, rfl⟩
  refine Br.no <| Br.no <| Br.no <| Br.no <| Br.no <| Br.no <| Br.no <| Ask.o h fun p10 h => ?_
  cases h; exact ⟨rfl, rfl⟩
 cases h; exact ⟨rfl, rfl⟩
noncomputable def Cb (r0 : SRelation) (r1 : List (List Int)) : (Int × (List (List Int))) → Option ((Int × (List (List Int))) ⊕ (List (List Int))) := fun (x13, x3) =>
 if x13 < (↑r1.length : Int) then
 ask ((0 : Int) ≤ x13 ∧ x13 < (↑r1.length : Int)) <|
 (G1 (r0.Tuples) (nth r1 x13.toNat)).bind fun r4 =>
 (Al (Cc r0 r1 x13 x3) ((0 : Int), r4)).bind fun q11_6 =>
 if (q11_6) = true then
 ask ((x3).length + ([nth r1 x13.toNat]).length ≤ LIM) <|
 ask (InI (x13 + (1 : Int))) <|
 some (.inl (x13 + (1 : Int), x3 ++ [nth r1 x13.toNat]))
 else
 ask (InI (x13 + (1 : Int))) <|
 some (.inl (x13 + (1 : Int), x3))
 else
 some (.inr x3)
def Hi (r0 : SRelation) (r1 : List (List Int)) : (Int × (List (List Int))) → St := fun s => [(13, A.val (Ae s.1)), (12, A.val (Ae ((↑r1.length : Int)))), (11, A.val ((slr false 1 (slr false 1 Ae)) (r1))), (3, A.val ((slr true 1 (slr false 1 Ae)) s.2)), (1, A.val ((rP true (Ah false)) (r0)))]
def Lp (_r0 : SRelation) (_r1 : List (List Int)) : (List (List Int)) → Tgt
 | s => ((Ex.exit 0), [3], [(3, A.val ((slr true 1 (slr false 1 Ae)) s))])
theorem Vj {r0 : SRelation} {r1 : List (List Int)} (s : (Int × (List (List Int)))) (o : (Int × (List (List Int))) ⊕ (List (List Int))) (h : Cb r0 r1 s = some o) : vc Try.prog Ma (C6 [13, 12, 11, 3, 1] (Hi r0 r1) (Lp r0 r1) o) (Hi r0 r1 s) := by
 obtain ⟨x13, x3⟩ := s
 unfold Cb at h
 try dsimp only at h
 refine Br.od h (fun p2 h => ?_) (fun p2 h => ?_)
 ·refine Len.map <| Ask.o h fun p3 h => Elem.o (by first | omega | (simp [A4] at * <;> omega)) <| Cells.lit rfl rfl <| CallQ.o V.bool (by rfl) h (fun r h => X3 h) (fun r4 h => ?_)
  refine Len.map <| LoopQ.o [23, 22, 6, 5, 13, 12, 11, 3, 1] (Hh r0 r1 x13 x3) (L6 r0 r1 x13 x3) h (fun s o h => Vl s o h) (by rfl) (fun _ => rfl) ?_
  rintro q11_6 h
  try dsimp only at h
  refine Br.ob h (fun p12 h => ?_) (fun p12 h => ?_)
  ·refine BslQ.o (slr false 1 Ae) ([nth r1 x13.toNat]) (by exact fun _ => ⟨rfl, rfl⟩) (by first | rfl | (simp only [Aa, V.fz, fzL, V.up, upL, Ab, Ac, Ad, slr, List.cons_append, List.nil_append]; done) | simp [Aa, V.fz, fzL, V.up, upL, Ab, Ac, Ad, slr]) <| NoOwn.o (fun _ => rfl) <| AppQ.o (m := 1) (slr false 1 Ae) (by exact fun _ => ⟨rfl, rfl⟩) (x3) ([nth r1 x13.toNat]) (by rfl) (by rfl) h fun h => Ask.o h fun p13 h => ?_
   cases h; exact ⟨rfl, rfl⟩
  refine Ask.o h fun p14 h => ?_
  cases h; exact ⟨rfl, rfl⟩
 cases h; exact ⟨rfl, rfl⟩
noncomputable def Dz (r0 : SRelation) : Option (List (List Int)) :=
 (F7 (r0.Arity)).bind fun r1 =>
 (Al (Cb r0 r1) ((0 : Int), Ap (List Int))).bind fun q15_3 =>
 some q15_3
theorem Pw {r0 : SRelation} {v : (List (List Int))} (h : Dz r0 = some v) : Ret Try.prog Gx [(Ah false) r0] ((slr true 1 (slr false 1 Ae)) v) := by
 refine A7 Y5 (Nat.le_of_ble_eq_true rfl) ?_
 unfold Dz at h
 refine BslQ.o (slr true 1 Ae) (Ap (List Int)) (by exact fun _ => ⟨rfl, rfl⟩) (by first | rfl | (simp only [Aa, V.fz, fzL, V.up, upL, Ab, Ac, Ad, slr, List.cons_append, List.nil_append]; done) | simp [Aa, V.fz, fzL, V.up, upL, Ab, Ac, Ad, slr]) <| Cells.lit rfl rfl <| CallQ.o (slr false 1 (slr false 1 Ae)) (by rfl) h (fun r h => Ret.frz (Ack h) (by first | rfl | simp only [V.fz, Ab, slr] | simp [Aa, V.fz, fzL, V.up, upL, Ab, Ac, Ad, slr])) (fun r1 h => ?_)
 refine Len.map <| LoopQ.o [13, 12, 11, 3, 1] (Hi r0 r1) (Lp r0 r1) h (fun s o h => Vj s o h) (by rfl) (fun _ => rfl) ?_
 rintro q15_3 h
 try dsimp only at h
 cases h; exact (by rfl)
end Go.Proofs.Ytjcekpmojnnmbaa.Ax
