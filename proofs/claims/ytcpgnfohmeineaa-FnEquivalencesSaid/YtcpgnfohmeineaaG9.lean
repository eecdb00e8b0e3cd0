/-
 What the functions compute, as functions on plain data, and that the program does compute it; written by program.
-/
import Derived.Test.YtcpgnfohmeineaaCode
import Derived.Test.YtcpgnfohmeineaaG1
import Derived.Test.YtcpgnfohmeineaaG2
import Derived.Test.YtcpgnfohmeineaaG3
import Derived.Test.YtcpgnfohmeineaaG5
import Derived.Test.YtcpgnfohmeineaaG6
import Derived.Test.YtcpgnfohmeineaaG7
namespace Go.Proofs.Ytcpgnfohmeineaa.Ax
open Go
set_option maxRecDepth 100000
set_option maxHeartbeats 4000000
noncomputable def Mw (n0 : Int) (op0 : SOp) (r0 : SRelation) : Option Bool :=
 (Dl (n0) (r0)).bind fun r1 =>
 if (r1) = true then
 (Lu (op0) (n0)).bind fun r3 =>
 if (r3) = true then
 (Er ((↑r0.Tuples.length : Int)) (op0.Arity)).bind fun r5 =>
 some (decide (r5 ≤ (70000 : Int)))
 else
 some false
 else
 some false
theorem Ag2 {n0 : Int} {op0 : SOp} {r0 : SRelation} {v : Bool} (h : Mw n0 op0 r0 = some v) : Ret Try.prog R3 [Af n0, (A7 false) op0, (Ai false) r0] (V.bool v) := by
 refine A8 Aiq (Nat.le_of_ble_eq_true rfl) ?_
 unfold Mw at h
 conv => whnf
 refine Cells.lit rfl rfl ?_
 conv => whnf
 refine CallQ.o V.bool (by rfl) h (fun r h => Rd h) (fun r1 h => ?_)
 conv => whnf
 refine Br.ob h (fun p2 h => ?_) (fun p2 h => ?_)
 ·conv => whnf
  refine Cells.lit rfl rfl ?_
  conv => whnf
  refine Br.yes ?_
  conv => whnf
  refine Br.yes ?_
  conv => whnf
  refine CallQ.o V.bool (by rfl) h (fun r h => Aff h) (fun r3 h => ?_)
  conv => whnf
  refine Br.yes ?_
  conv => whnf
  refine Br.ob h (fun p4 h => ?_) (fun p4 h => ?_)
  ·conv => whnf
   refine Br.yes ?_
   conv => whnf
   refine Cells.lit rfl rfl ?_
   conv => whnf
   refine Br.yes ?_
   conv => whnf
   refine Len.map ?_
   conv => whnf
   refine Br.yes ?_
   conv => whnf
   refine Br.yes ?_
   conv => whnf
   refine Cells.lit rfl rfl ?_
   conv => whnf
   refine Br.yes ?_
   conv => whnf
   refine CallQ.o Af (by rfl) h (fun r h => Wr h) (fun r5 h => ?_)
   conv => whnf
   refine Br.yes ?_
   conv => whnf
   refine Br.yes ?_
   conv => whnf
   cases h; exact (by rfl)
  conv => whnf
  refine Br.no ?_
  conv => whnf
  refine Br.no ?_
  conv => whnf
  refine Br.no ?_
  conv => whnf
  refine Br.no ?_
  conv => whnf
  refine Br.no ?_
  conv => whnf
  refine Br.no ?_
  conv => whnf
  refine Br.no ?_
  conv => whnf
  cases h; exact (by rfl)
 conv => whnf
 refine Br.no ?_
 conv => whnf
 refine Br.no ?_
 conv => whnf
 refine Br.no ?_
 conv => whnf
 refine Br.no ?_
 conv => whnf
 refine Br.no ?_
 conv => whnf
 refine Br.no ?_
 conv => whnf
 refine Br.no ?_
 conv => whnf
 refine Br.no ?_
 conv => whnf
 refine Br.no ?_
 conv => whnf
 refine Br.no ?_
 conv => whnf
 refine Br.no ?_
 conv => whnf
 cases h; exact (by rfl)
noncomputable def D5 (c0 : Sl1Cur) : Option (Int × Sl1Cur) :=
 (Ar (c0) ((24 : Int))).bind fun (r1, u2) =>
 ask ((11 : Int) ≠ (0 : Int) ∧ InI (r1.tdiv (11 : Int))) <|
 ask (InI ((8 : Int) + r1.tdiv (11 : Int))) <|
 ask (0 ≤ (0 : Int) ∧ (0 : Int) ≤ (8 : Int) + r1.tdiv (11 : Int) ∧ (8 : Int) + r1.tdiv (11 : Int) ≤ (([(2 : Int), (3 : Int), (3 : Int), (4 : Int), (2 : Int), (1 : Int), (5 : Int), (8 : Int), (0 : Int), (9 : Int)].length : Nat) : Int)) <|
 (A1 (u2) (List.take (((8 : Int) + r1.tdiv (11 : Int)).toNat - Int.toNat (0 : Int)) (List.drop (Int.toNat (0 : Int)) [(2 : Int), (3 : Int), (3 : Int), (4 : Int), (2 : Int), (1 : Int), (5 : Int), (8 : Int), (0 : Int), (9 : Int)]))).bind fun (r5, u6) =>
 some (r5, u6)
theorem Qd {c0 : Sl1Cur} {v : (Int × Sl1Cur)} (h : D5 c0 = some v) : Qs Try.prog Hi [(rP true (Aj false)) c0] (Af v.1) 0 ((rP true (Aj false)) v.2) := by
 refine Lh Z6 (Nat.le_of_ble_eq_true rfl) ?_
 unfold D5 at h
 conv => whnf
 refine BslQ.o Af ([(2 : Int), (3 : Int), (3 : Int), (4 : Int), (2 : Int), (1 : Int), (5 : Int), (8 : Int), (0 : Int), (9 : Int)]) (by exact fun _ => ⟨rfl, rfl⟩) (by rfl) ?_
 conv => whnf
 refine CallQ.io Af (rP true (Aj false)) (by rfl) rfl (fun _ => rfl) (fun _ => ⟨rfl, rfl⟩) rfl h (fun r h => Aw h) (fun r1 u2 h => ?_)
 conv => whnf
 refine Ask.o h fun p3 h => ?_
 conv => whnf
 refine Ask.o h fun p4 h => ?_
 conv => whnf
 refine SlcQ.lst (xs := [(2 : Int), (3 : Int), (3 : Int), (4 : Int), (2 : Int), (1 : Int), (5 : Int), (8 : Int), (0 : Int), (9 : Int)]) Af (by rfl) h fun h => ?_
 conv => whnf
 refine CallQ.io Af (rP true (Aj false)) (by rfl) rfl (fun _ => rfl) (fun _ => ⟨rfl, rfl⟩) rfl h (fun r h => Ba h) (fun r5 u6 h => ?_)
 conv => whnf
 cases h; exact ⟨(by rfl), (by rfl)⟩
noncomputable def Cj (n0 : Int) (arity0 : Int) (_x8 : Int) (_x7 : SRelation) : (Int × (List Int) × Sl1Cur) → Option ((Int × (List Int) × Sl1Cur) ⊕ ((List Int) × Sl1Cur)) := fun (x10, x9, x94') =>
 if x10 < arity0 then
 (Ar (x94') (n0)).bind fun (r10, u11) =>
 ask ((x9).length + ([r10]).length ≤ LIM) <|
 ask (InI (x10 + (1 : Int))) <|
 some (.inl (x10 + (1 : Int), x9 ++ [r10], u11))
 else
 some (.inr (x9, x94'))
def Hc (n0 : Int) (arity0 : Int) (x8 : Int) (x7 : SRelation) : (Int × (List Int) × Sl1Cur) → St := fun s => [(10, A.val (Af s.1)), (9, A.val ((slr true 1 Af) s.2.1)), (8, A.val (Af (x8))), (7, A.val ((rP true (Am)) (x7))), (6, A.val ((rP true (Am)) ({ Arity := (0 : Int), Tuples := Av (List Int) }))), (0, A.ref 94 []), (94, A.val ((rP true (Aj false)) s.2.2)), (1, A.val (Af (n0))), (2, A.val (Af (arity0)))]
def Kt (n0 : Int) (arity0 : Int) (x8 : Int) (x7 : SRelation) : ((List Int) × Sl1Cur) → Tgt
 | s => ((Ex.exit 2), [9, 8, 7, 6, 0, 94, 1, 2], [(9, A.val ((slr true 1 Af) s.1)), (8, A.val (Af (x8))), (7, A.val ((rP true (Am)) (x7))), (6, A.val ((rP true (Am)) ({ Arity := (0 : Int), Tuples := Av (List Int) }))), (0, A.ref 94 []), (94, A.val ((rP true (Aj false)) s.2)), (1, A.val (Af (n0))), (2, A.val (Af (arity0)))])
theorem Tm {n0 : Int} {arity0 : Int} {x8 : Int} {x7 : SRelation} (s : (Int × (List Int) × Sl1Cur)) (o : (Int × (List Int) × Sl1Cur) ⊕ ((List Int) × Sl1Cur)) (h : Cj n0 arity0 x8 x7 s = some o) : vc Try.prog K5 (Cu [10, 9, 8, 7, 6, 0, 94, 1, 2] (Hc n0 arity0 x8 x7) (Kt n0 arity0 x8 x7) o) (Hc n0 arity0 x8 x7 s) := by
 obtain ⟨x10, x9, x94'⟩ := s
 unfold Cj at h
 try dsimp only at h
 conv => whnf
 refine Br.od h (fun p9 h => ?_) (fun p9 h => ?_)
 ·conv => whnf
  refine CallQ.io Af (rP true (Aj false)) (by rfl) rfl (fun _ => rfl) (fun _ => ⟨rfl, rfl⟩) rfl h (fun r h => Aw h) (fun r10 u11 h => ?_)
  conv => whnf
  refine BslQ.o Af [r10] (by exact fun _ => ⟨rfl, rfl⟩) (by rfl) ?_
  conv => whnf
  refine NoOwn.o (fun _ => rfl) ?_
  conv => whnf
  refine AppQ.o (m := 1) Af (by exact fun _ => ⟨rfl, rfl⟩) (x9) ([r10]) (by rfl) (by rfl) h fun h => ?_
  conv => whnf
  refine Ask.o h fun p12 h => ?_
  conv => whnf
  cases h; exact ⟨rfl, rfl⟩
 conv => whnf
 cases h; exact ⟨rfl, rfl⟩
noncomputable def Dh (n0 : Int) (arity0 : Int) : (Int × SRelation × Sl1Cur) → Option ((Int × SRelation × Sl1Cur) ⊕ (SRelation × Sl1Cur)) := fun (x8, x7, x94) =>
 if x8 > (0 : Int) then
 (Al (Cj n0 arity0 x8 x7) ((0 : Int), Av Int, x94)).bind fun (q13_9, q13_94) =>
 (M5 (x7.Tuples) (q13_9)).bind fun r14 =>
 ask (InI (x8 - (1 : Int))) <|
 some (.inl (x8 - (1 : Int), { Arity := x7.Arity, Tuples := r14 }, q13_94))
 else
 some (.inr (x7, x94))
def Hd (n0 : Int) (arity0 : Int) : (Int × SRelation × Sl1Cur) → St := fun s => [(8, A.val (Af s.1)), (7, A.val ((rP true (Am)) s.2.1)), (6, A.val ((rP true (Am)) ({ Arity := (0 : Int), Tuples := Av (List Int) }))), (0, A.ref 94 []), (94, A.val ((rP true (Aj false)) s.2.2)), (1, A.val (Af (n0))), (2, A.val (Af (arity0)))]
def Kz (n0 : Int) (arity0 : Int) : (SRelation × Sl1Cur) → Tgt
 | s => ((Ex.exit 0), [7, 6, 0, 94, 1, 2], [(7, A.val ((rP true (Am)) s.1)), (6, A.val ((rP true (Am)) ({ Arity := (0 : Int), Tuples := Av (List Int) }))), (0, A.ref 94 []), (94, A.val ((rP true (Aj false)) s.2)), (1, A.val (Af (n0))), (2, A.val (Af (arity0)))])
theorem Ua {n0 : Int} {arity0 : Int} (s : (Int × SRelation × Sl1Cur)) (o : (Int × SRelation × Sl1Cur) ⊕ (SRelation × Sl1Cur)) (h : Dh n0 arity0 s = some o) : vc Try.prog Kj (Cu [8, 7, 6, 0, 94, 1, 2] (Hd n0 arity0) (Kz n0 arity0) o) (Hd n0 arity0 s) := by
 obtain ⟨x8, x7, x94⟩ := s
 unfold Dh at h
 try dsimp only at h
 conv => whnf
 refine Br.od h (fun p8 h => ?_) (fun p8 h => ?_)
 ·conv => whnf
  refine BslQ.o Af (Av Int) (by exact fun _ => ⟨rfl, rfl⟩) (by rfl) ?_
  conv => whnf
  refine LoopQ.o [10, 9, 8, 7, 6, 0, 94, 1, 2] (Hc n0 arity0 x8 x7) (Kt n0 arity0 x8 x7) h (fun s o h => Tm s o h) (by rfl) (fun _ => rfl) ?_
  rintro ⟨q13_9, q13_94⟩ h
  try dsimp only at h
  conv => whnf
  refine FrzQ.d (V.sl false (1 : Nat) (List.map Af q13_9)) (by first | (simp only [slr]; done) | (simp [A6, V.fz, Ab, slr]; done) | (simp [A6, V.fz, fzL, Ab, slr]; done)) ?_
  conv => whnf
  refine Cells.lit rfl rfl ?_
  conv => whnf
  refine Kid.lit rfl rfl ?_
  conv => whnf
  refine CallQ.give (slr true 1 (slr false 1 Af)) (by rfl) rfl (fun _ => rfl) rfl h (fun r h => Anl h) (fun r14 h => ?_)
  conv => whnf
  refine Kid.lit rfl rfl ?_
  conv => whnf
  refine SetKids.lit rfl ?_
  conv => whnf
  refine SetKids.lit rfl ?_
  conv => whnf
  refine Ask.o h fun p15 h => ?_
  conv => whnf
  cases h; exact ⟨rfl, rfl⟩
 conv => whnf
 cases h; exact ⟨rfl, rfl⟩
noncomputable def Ed (c0 : Sl1Cur) (n0 : Int) (arity0 : Int) : Option (SRelation × Sl1Cur) :=
 (((Dx (n0)).bind fun r1 =>
 if (r1) = true then
 (D8 (arity0) ((1 : Int)) ((3 : Int))).bind fun r3 =>
 if (r3) = true then
 some (.inl ())
 else
 some (.inr ())
 else
 some (.inr ()) : Option (Unit ⊕ Unit))).bind fun t => match t with
 | (.inl _) => ((A1 (c0) ([(0 : Int), (1 : Int), (2 : Int), (3 : Int), (4 : Int), (6 : Int), (9 : Int)])).bind fun (r6, u7) =>
 (Al (Dh n0 arity0) (r6, { Arity := arity0, Tuples := Av (List Int) }, u7)).bind fun (q16_7, q16_94) =>
 ((if arity0 = (2 : Int) then
 (Bm (q16_94) ((3 : Int))).bind fun (r18, u19) =>
 if (r18) = true then
 (Bl (u19) (n0)).bind fun (r21, u22) =>
 (Bo (r21)).bind fun r23 =>
 some (r23, u22)
 else
 some (q16_7, u19)
 else
 some (q16_7, q16_94) : Option (SRelation × Sl1Cur))).bind fun (q24_7, q24_94) =>
 (((Bm (q24_94) ((12 : Int))).bind fun (r25, u26) =>
 if (r25) = true then
 (Hp (n0) (arity0)).bind fun r28 =>
 some (r28, u26)
 else
 some (q24_7, u26) : Option (SRelation × Sl1Cur))).bind fun (q29_7, q29_94) =>
 (Ar (q29_94) ((40 : Int))).bind fun (r30, u31) =>
 if r30 = (0 : Int) then
 (A1 (u31) ([(0 : Int), (4 : Int), (-1 : Int)])).bind fun (r33, u34) =>
 some ({ Arity := r33, Tuples := q29_7.Tuples }, u34)
 else
 if r30 = (1 : Int) then
 ask ((0 : Int) ≤ arity0 ∧ arity0 ≤ (↑LIM : Int)) <|
 ask ((q29_7.Tuples).length + ([List.replicate arity0.toNat (0 : Int)]).length ≤ LIM) <|
 some ({ Arity := q29_7.Arity, Tuples := q29_7.Tuples ++ [List.replicate arity0.toNat (0 : Int)] }, u31)
 else
 if r30 = (2 : Int) then
 if (↑q29_7.Tuples.length : Int) > (0 : Int) then
 (A1 (u31) ([(-1 : Int), n0, (0 : Int)])).bind fun (r39, u40) =>
 ask ((0 : Int) ≤ (0 : Int) ∧ (0 : Int) < (↑q29_7.Tuples.length : Int)) <|
 some ({ Arity := q29_7.Arity, Tuples := q29_7.Tuples.set (Int.toNat (0 : Int)) [r39] }, u40)
 else
 some (q29_7, u31)
 else
 some (q29_7, u31))
 | (.inr _) => (some ({ Arity := arity0, Tuples := Av (List Int) }, c0))
theorem Xj {c0 : Sl1Cur} {n0 : Int} {arity0 : Int} {v : (SRelation × Sl1Cur)} (h : Ed c0 n0 arity0 = some v) : Qs Try.prog I1 [(rP true (Aj false)) c0, Af n0, Af arity0] ((Am) v.1) 0 ((rP true (Aj false)) v.2) := by
 refine Lh Xr (Nat.le_of_ble_eq_true rfl) ?_
 unfold Ed at h
 conv => whnf
 refine BslQ.o (slr true 1 Af) (Av (List Int)) (by exact fun _ => ⟨rfl, rfl⟩) (by rfl) ?_
 conv => whnf
 refine SetKids.lit rfl ?_
 conv => whnf
 refine CutQ.o (fun t : (Unit ⊕ Unit) => match t with | (.inl s) => (Ex.normal, [7, 6, 0, 94, 1, 2], [(7, A.val ((rP true (Am)) ({ Arity := arity0, Tuples := Av (List Int) }))), (6, A.val ((rP true (Am)) ({ Arity := (0 : Int), Tuples := Av (List Int) }))), (0, A.ref 94 []), (94, A.val ((rP true (Aj false)) (c0))), (1, A.val (Af (n0))), (2, A.val (Af (arity0)))]) | (.inr s) => (Ex.ret, [6, 94], [(6, A.val ((rP true (Am)) ({ Arity := arity0, Tuples := Av (List Int) }))), (94, A.val ((rP true (Aj false)) (c0)))])) h ?_ ?_
 ·intro t h
  conv => whnf
  refine CallQ.o V.bool (by rfl) h (fun r h => Ou h) (fun r1 h => ?_)
  conv => whnf
  refine Br.flip ?_
  conv => whnf
  refine Br.ob h (fun p2 h => ?_) (fun p2 h => ?_)
  ·conv => whnf
   refine Br.no ?_
   conv => whnf
   refine CallQ.o V.bool (by rfl) h (fun r h => Ic h) (fun r3 h => ?_)
   conv => whnf
   refine Br.no ?_
   conv => whnf
   refine Br.no ?_
   conv => whnf
   refine Br.flip ?_
   conv => whnf
   refine Br.ob h (fun p4 h => ?_) (fun p4 h => ?_)
   ·conv => whnf
    cases h; exact ⟨rfl, rfl⟩
   conv => whnf
   refine Cells.lit rfl rfl ?_
   conv => whnf
   refine SetKids.lit rfl ?_
   conv => whnf
   cases h; exact ⟨rfl, rfl⟩
  conv => whnf
  refine Br.yes ?_
  conv => whnf
  refine Br.yes ?_
  conv => whnf
  refine Br.yes ?_
  conv => whnf
  refine Br.yes ?_
  conv => whnf
  refine Cells.lit rfl rfl ?_
  conv => whnf
  refine SetKids.lit rfl ?_
  conv => whnf
  cases h; exact ⟨rfl, rfl⟩
 rintro (⟨⟩ | ⟨⟩) h
 ·try dsimp only at h
  conv => whnf
  refine BslQ.o Af ([(0 : Int), (1 : Int), (2 : Int), (3 : Int), (4 : Int), (6 : Int), (9 : Int)]) (by exact fun _ => ⟨rfl, rfl⟩) (by rfl) ?_
  conv => whnf
  refine CallQ.io Af (rP true (Aj false)) (by rfl) rfl (fun _ => rfl) (fun _ => ⟨rfl, rfl⟩) rfl h (fun r h => Ba h) (fun r6 u7 h => ?_)
  conv => whnf
  refine LoopQ.o [8, 7, 6, 0, 94, 1, 2] (Hd n0 arity0) (Kz n0 arity0) h (fun s o h => Ua s o h) (by rfl) (fun _ => rfl) ?_
  rintro ⟨q16_7, q16_94⟩ h
  try dsimp only at h
  conv => whnf
  refine CutQ.o (fun t : (SRelation × Sl1Cur) => match t with | s => (Ex.normal, [7, 6, 0, 94, 1, 2], [(7, A.val ((rP true (Am)) s.1)), (6, A.val ((rP true (Am)) ({ Arity := (0 : Int), Tuples := Av (List Int) }))), (0, A.ref 94 []), (94, A.val ((rP true (Aj false)) s.2)), (1, A.val (Af (n0))), (2, A.val (Af (arity0)))])) h ?_ ?_
  ·intro t h
   conv => whnf
   refine Br.oe h (fun p17 h => ?_) (fun p17 h => ?_)
   ·conv => whnf
    refine Br.yes ?_
    conv => whnf
    refine CallQ.io V.bool (rP true (Aj false)) (by rfl) rfl (fun _ => rfl) (fun _ => ⟨rfl, rfl⟩) rfl h (fun r h => Eo h) (fun r18 u19 h => ?_)
    conv => whnf
    refine Br.yes ?_
    conv => whnf
    refine Br.ob h (fun p20 h => ?_) (fun p20 h => ?_)
    ·conv => whnf
     refine CallQ.io (slr false 1 Af) (rP true (Aj false)) (by rfl) rfl (fun _ => rfl) (fun _ => ⟨rfl, rfl⟩) rfl h (fun r h => Qs.frz (Ha h) (by first | rfl | simp only [V.fz, Ab, slr] | simp [Aa, V.fz, fzL, V.up, upL, Ab, Ac, Ad, slr])) (fun r21 u22 h => ?_)
     conv => whnf
     refine CallQ.o (Am) (by rfl) h (fun r h => Iz h) (fun r23 h => ?_)
     conv => whnf
     refine SetKids.lit rfl ?_
     conv => whnf
     cases h; exact ⟨rfl, rfl⟩
    conv => whnf
    cases h; exact ⟨rfl, rfl⟩
   conv => whnf
   refine Br.no ?_
   conv => whnf
   refine Br.no ?_
   conv => whnf
   refine Br.no ?_
   conv => whnf
   cases h; exact ⟨rfl, rfl⟩
  rintro ⟨q24_7, q24_94⟩ h
  try dsimp only at h
  conv => whnf
  refine CutQ.o (fun t : (SRelation × Sl1Cur) => match t with | s => (Ex.normal, [7, 6, 0, 94, 1, 2], [(7, A.val ((rP true (Am)) s.1)), (6, A.val ((rP true (Am)) ({ Arity := (0 : Int), Tuples := Av (List Int) }))), (0, A.ref 94 []), (94, A.val ((rP true (Aj false)) s.2)), (1, A.val (Af (n0))), (2, A.val (Af (arity0)))])) h ?_ ?_
  ·intro t h
   conv => whnf
   refine CallQ.io V.bool (rP true (Aj false)) (by rfl) rfl (fun _ => rfl) (fun _ => ⟨rfl, rfl⟩) rfl h (fun r h => Eo h) (fun r25 u26 h => ?_)
   conv => whnf
   refine Br.ob h (fun p27 h => ?_) (fun p27 h => ?_)
   ·conv => whnf
    refine CallQ.o (Am) (by rfl) h (fun r h => Ah8 h) (fun r28 h => ?_)
    conv => whnf
    refine SetKids.lit rfl ?_
    conv => whnf
    cases h; exact ⟨rfl, rfl⟩
   conv => whnf
   cases h; exact ⟨rfl, rfl⟩
  rintro ⟨q29_7, q29_94⟩ h
  try dsimp only at h
  conv => whnf
  refine CallQ.io Af (rP true (Aj false)) (by rfl) rfl (fun _ => rfl) (fun _ => ⟨rfl, rfl⟩) rfl h (fun r h => Aw h) (fun r30 u31 h => ?_)
  conv => whnf
  refine Br.oe h (fun p32 h => ?_) (fun p32 h => ?_)
  ·conv => whnf
   refine BslQ.o Af ([(0 : Int), (4 : Int), (-1 : Int)]) (by exact fun _ => ⟨rfl, rfl⟩) (by rfl) ?_
   conv => whnf
   refine CallQ.io Af (rP true (Aj false)) (by rfl) rfl (fun _ => rfl) (fun _ => ⟨rfl, rfl⟩) rfl h (fun r h => Ba h) (fun r33 u34 h => ?_)
   conv => whnf
   refine SetKids.lit rfl ?_
   conv => whnf
   refine Cells.lit rfl rfl ?_
   conv => whnf
   refine SetKids.lit rfl ?_
   conv => whnf
   cases h; exact ⟨(by rfl), (by rfl)⟩
  conv => whnf
  refine Br.oe h (fun p35 h => ?_) (fun p35 h => ?_)
  ·conv => whnf
   refine Cells.lit rfl rfl ?_
   conv => whnf
   refine Ask.o h fun p36 h => ?_
   conv => whnf
   refine MkQ.o Af ((0 : Int)) rfl ?_
   conv => whnf
   refine FrzQ.d (V.sl false (1 : Nat) (List.map Af (List.replicate arity0.toNat (0 : Int)))) (by first | (simp only [A6, Ac]; done) | (simp [A6, V.fz, Ab, Ac, slr]; done) | (simp [A6, V.fz, fzL, Ab, slr]; done)) ?_
   conv => whnf
   refine BslQ.o (slr false 1 Af) ([List.replicate arity0.toNat (0 : Int)]) (by exact fun _ => ⟨rfl, rfl⟩) (by rfl) ?_
   conv => whnf
   refine NoOwn.o (fun _ => rfl) ?_
   conv => whnf
   refine Kid.lit rfl rfl ?_
   conv => whnf
   refine Kid.lit rfl rfl ?_
   conv => whnf
   refine SetKids.lit rfl ?_
   conv => whnf
   refine AppQ.o (m := 1) (slr false 1 Af) (by exact fun _ => ⟨rfl, rfl⟩) (q29_7.Tuples) ([List.replicate arity0.toNat (0 : Int)]) (by rfl) (by rfl) h fun h => ?_
   conv => whnf
   refine SetKids.lit rfl ?_
   conv => whnf
   refine Cells.lit rfl rfl ?_
   conv => whnf
   refine SetKids.lit rfl ?_
   conv => whnf
   cases h; exact ⟨(by rfl), (by rfl)⟩
  conv => whnf
  refine Br.oe h (fun p37 h => ?_) (fun p37 h => ?_)
  ·conv => whnf
   refine Cells.lit rfl rfl ?_
   conv => whnf
   refine Kid.lit rfl rfl ?_
   conv => whnf
   refine Len.map ?_
   conv => whnf
   refine Br.od h (fun p38 h => ?_) (fun p38 h => ?_)
   ·conv => whnf
    refine Cells.lit rfl rfl ?_
    conv => whnf
    refine BslQ.o Af ([(-1 : Int), n0, (0 : Int)]) (by exact fun _ => ⟨rfl, rfl⟩) (by rfl) ?_
    conv => whnf
    refine FrzQ.d (V.sl false (1 : Nat) (List.map Af [(-1 : Int), n0, (0 : Int)])) (by first | (simp only [A6, Ac]; done) | (simp [A6, V.fz, Ab, Ac, slr]; done) | (simp [A6, V.fz, fzL, Ab, slr]; done)) ?_
    conv => whnf
    refine LendP.io Af (rP true (Aj false)) (by rfl) (fun _ => rfl) (fun _ => ⟨rfl, rfl⟩) (fun _ => rfl) h (fun r h => Ba h) (fun r39 u40 h => ?_)
    conv => whnf
    refine BslQ.o Af [r39] (by exact fun _ => ⟨rfl, rfl⟩) (by rfl) ?_
    conv => whnf
    refine FrzQ.d (V.sl false (1 : Nat) (List.map Af [r39])) (by first | (simp only [A6, Ac]; done) | (simp [A6, V.fz, Ab, Ac, slr]; done) | (simp [A6, V.fz, fzL, Ab, slr]; done)) ?_
    conv => whnf
    refine Kid.lit rfl rfl ?_
    conv => whnf
    refine Len.map ?_
    conv => whnf
    refine Ask.o h fun p41 h => ?_
    conv => whnf
    refine Kid.lit rfl rfl ?_
    conv => whnf
    refine SetKids.one (fun _ => ⟨rfl, rfl⟩) ([r39]) (by rfl) (by first | omega | (simp [Ap] at *; omega)) ?_
    conv => whnf
    refine Kid.lit rfl rfl ?_
    conv => whnf
    refine SetKids.lit rfl ?_
    conv => whnf
    refine Cells.lit rfl rfl ?_
    conv => whnf
    refine SetKids.lit rfl ?_
    conv => whnf
    cases h; exact ⟨(by rfl), (by rfl)⟩
   conv => whnf
   refine Cells.lit rfl rfl ?_
   conv => whnf
   refine SetKids.lit rfl ?_
   conv => whnf
   cases h; exact ⟨(by rfl), (by rfl)⟩
  conv => whnf
  refine Cells.lit rfl rfl ?_
  conv => whnf
  refine SetKids.lit rfl ?_
  conv => whnf
  cases h; exact ⟨(by rfl), (by rfl)⟩
 try dsimp only at h
 conv => whnf
 cases h; exact ⟨(by rfl), (by rfl)⟩
end Go.Proofs.Ytcpgnfohmeineaa.Ax
