/-
 What the functions compute, as functions on plain data, and that the program does compute it; written by program.
-/
import Derived.Test.YtcpgnfohmeineaaCode
import Derived.Test.YtcpgnfohmeineaaG2
import Derived.Test.YtcpgnfohmeineaaG3
import Derived.Test.YtcpgnfohmeineaaG4
import Derived.Test.YtcpgnfohmeineaaG5
import Derived.Test.YtcpgnfohmeineaaG6
import Derived.Test.YtcpgnfohmeineaaG7
import Derived.Test.YtcpgnfohmeineaaG9
import Derived.Test.YtcpgnfohmeineaaG10
namespace Go.Proofs.Ytcpgnfohmeineaa.Ax
open Go
set_option maxRecDepth 100000
set_option maxHeartbeats 4000000
noncomputable def B9 (r0 : SRelation) : (Int × (List Int)) → Option ((Int × (List Int)) ⊕ (List Int)) := fun (x9, x8) =>
 if x9 ≥ (0 : Int) then
 ask ((0 : Int) ≤ x9 ∧ x9 < (↑r0.Tuples.length : Int)) <|
 ask ((0 : Int) ≤ (0 : Int) ∧ (0 : Int) < (↑(nth r0.Tuples x9.toNat).length : Int)) <|
 ask ((0 : Int) ≤ x9 ∧ x9 < (↑r0.Tuples.length : Int)) <|
 ask ((0 : Int) ≤ (1 : Int) ∧ (1 : Int) < (↑(nth r0.Tuples x9.toNat).length : Int)) <|
 ask ((0 : Int) ≤ nth (nth r0.Tuples x9.toNat) (Int.toNat (0 : Int)) ∧ nth (nth r0.Tuples x9.toNat) (Int.toNat (0 : Int)) < (↑x8.length : Int)) <|
 ask (InI (x9 - (1 : Int))) <|
 some (.inl (x9 - (1 : Int), x8.set (nth (nth r0.Tuples x9.toNat) (Int.toNat (0 : Int))).toNat (nth (nth r0.Tuples x9.toNat) (Int.toNat (1 : Int)))))
 else
 some (.inr x8)
def Ev (r0 : SRelation) : (Int × (List Int)) → St := fun s => [(9, A.val (Af s.1)), (8, A.val ((slr true 1 Af) s.2)), (3, A.val ((rP true (Ai false)) (r0)))]
def H2 (_r0 : SRelation) : (List Int) → Tgt
 | s => ((Ex.exit 0), [8], [(8, A.val ((slr true 1 Af) s))])
theorem O4 {r0 : SRelation} (s : (Int × (List Int))) (o : (Int × (List Int)) ⊕ (List Int)) (h : B9 r0 s = some o) : vc Try.prog H7 (Cu [9, 8, 3] (Ev r0) (H2 r0) o) (Ev r0 s) := by
 obtain ⟨x9, x8⟩ := s
 unfold B9 at h
 try dsimp only at h
 conv => whnf
 refine Br.od h (fun p7 h => ?_) (fun p7 h => ?_)
 ·conv => whnf
  refine Cells.lit rfl rfl ?_
  conv => whnf
  refine Len.map ?_
  conv => whnf
  refine Ask.o h fun p8 h => ?_
  conv => whnf
  refine Elem.o (by first | omega | (simp [Ap] at *; omega)) ?_
  conv => whnf
  refine Len.map ?_
  conv => whnf
  refine Ask.o h fun p9 h => ?_
  conv => whnf
  refine Elem.o (by first | omega | (simp [Ap] at *; omega)) ?_
  conv => whnf
  refine Cells.lit rfl rfl ?_
  conv => whnf
  refine Len.map ?_
  conv => whnf
  refine Ask.o h fun p10 h => ?_
  conv => whnf
  refine Elem.o (by first | omega | (simp [Ap] at *; omega)) ?_
  conv => whnf
  refine Len.map ?_
  conv => whnf
  refine Ask.o h fun p11 h => ?_
  conv => whnf
  refine Elem.o (by first | omega | (simp [Ap] at *; omega)) ?_
  conv => whnf
  refine Len.map ?_
  conv => whnf
  refine Ask.o h fun p12 h => ?_
  conv => whnf
  refine SetKids.one (fun _ => ⟨rfl, rfl⟩) (nth (nth r0.Tuples x9.toNat) (Int.toNat (1 : Int))) (by rfl) (by first | omega | (simp [Ap] at *; omega)) ?_
  conv => whnf
  refine Ask.o h fun p13 h => ?_
  conv => whnf
  cases h; exact ⟨rfl, rfl⟩
 conv => whnf
 cases h; exact ⟨rfl, rfl⟩
noncomputable def B4 (n0 : Int) (r0 : SRelation) : Option ((List Int) × Bool) :=
 (((B6 (n0) (r0)).bind fun r1 =>
 if (r1.snd) = true then
 if (r1.fst) = true then
 some (.inl ())
 else
 some (.inr ())
 else
 some (.inr ()) : Option (Unit ⊕ Unit))).bind fun t => match t with
 | (.inl _) => (ask ((0 : Int) ≤ n0 ∧ n0 ≤ (↑LIM : Int)) <|
 ask (InI ((↑r0.Tuples.length : Int) - (1 : Int))) <|
 (Al (B9 r0) ((↑r0.Tuples.length : Int) - (1 : Int), List.replicate n0.toNat (0 : Int))).bind fun q14_8 =>
 some (q14_8, true))
 | (.inr _) => (some (Av Int, false))
theorem Jf {n0 : Int} {r0 : SRelation} {v : ((List Int) × Bool)} (h : B4 n0 r0 = some v) : Ret Try.prog D1 [Af n0, (Ai false) r0] ((fun r => V.tup [(slr true 1 Af) r.1, V.bool r.2]) v) := by
 refine A8 R1 (Nat.le_of_ble_eq_true rfl) ?_
 unfold B4 at h
 conv => whnf
 refine CutQ.o (fun t : (Unit ⊕ Unit) => match t with | (.inl s) => (Ex.normal, [3, 0], [(3, A.val ((rP true (Ai false)) (r0))), (0, A.val (Af (n0)))]) | (.inr s) => (Ex.ret, [5, 4], [(5, A.val (V.bool (false))), (4, A.val ((slr true 1 Af) (Av Int)))])) h ?_ ?_
 ·intro t h
  conv => whnf
  refine Cells.lit rfl rfl ?_
  conv => whnf
  refine CallQ.o (fun r => V.tup [V.bool r.1, V.bool r.2]) (by rfl) h (fun r h => Pn h) (fun r1 h => ?_)
  conv => whnf
  refine Br.flip ?_
  conv => whnf
  refine Br.ob h (fun p2 h => ?_) (fun p2 h => ?_)
  ·conv => whnf
   refine Br.no ?_
   conv => whnf
   refine Br.no ?_
   conv => whnf
   refine Br.flip ?_
   conv => whnf
   refine Br.ob h (fun p3 h => ?_) (fun p3 h => ?_)
   ·conv => whnf
    cases h; exact ⟨rfl, rfl⟩
   conv => whnf
   refine BslQ.o Af (Av Int) (by exact fun _ => ⟨rfl, rfl⟩) (by rfl) ?_
   conv => whnf
   cases h; exact ⟨rfl, rfl⟩
  conv => whnf
  refine Br.yes ?_
  conv => whnf
  refine Br.yes ?_
  conv => whnf
  refine Br.yes ?_
  conv => whnf
  refine BslQ.o Af (Av Int) (by exact fun _ => ⟨rfl, rfl⟩) (by rfl) ?_
  conv => whnf
  cases h; exact ⟨rfl, rfl⟩
 rintro (⟨⟩ | ⟨⟩) h
 ·try dsimp only at h
  conv => whnf
  refine Ask.o h fun p5 h => ?_
  conv => whnf
  refine MkQ.o Af ((0 : Int)) rfl ?_
  conv => whnf
  refine Cells.lit rfl rfl ?_
  conv => whnf
  refine Len.map ?_
  conv => whnf
  refine Ask.o h fun p6 h => ?_
  conv => whnf
  refine LoopQ.o [9, 8, 3] (Ev r0) (H2 r0) h (fun s o h => O4 s o h) (by rfl) (fun _ => rfl) ?_
  rintro q14_8 h
  try dsimp only at h
  conv => whnf
  cases h; exact (by rfl)
 try dsimp only at h
 conv => whnf
 cases h; exact (by rfl)
noncomputable def Di (code0 : (List Int)) : Option (Int × SRelation) :=
 (D5 ({ code := code0, at_ := (0 : Int), seed := (0 : Int) })).bind fun (r1, u2) =>
 (A1 (u2) ([(2 : Int), (2 : Int), (2 : Int), (2 : Int), (2 : Int), (2 : Int), (3 : Int)])).bind fun (r3, u4) =>
 (Ed (u4) (r1) (r3)).bind fun (r5, u6) =>
 (((Dx (r1)).bind fun r7 =>
 if (r7) = true then
 (Bm (u6) ((2 : Int))).bind fun (r9, u10) =>
 some (r9, u10)
 else
 some (false, u6) : Option (Bool × Sl1Cur))).bind fun (q11_24, q11_4) =>
 if (q11_24) = true then
 (Bl (q11_4) (r1)).bind fun (r13, u14) =>
 (Bo (r13)).bind fun r15 =>
 (((Bm (u14) ((3 : Int))).bind fun (r16, u17) =>
 if (r16) = true then
 some (decide ((↑r15.Tuples.length : Int) > (1 : Int)), u17)
 else
 some (false, u17) : Option (Bool × Sl1Cur))).bind fun (q19_36, q19_4) =>
 if (q19_36) = true then
 (Ar (q19_4) ((↑r15.Tuples.length : Int))).bind fun (r21, _u22) =>
 ask (0 ≤ (0 : Int) ∧ (0 : Int) ≤ r21 ∧ r21 ≤ ((r15.Tuples.length : Nat) : Int)) <|
 ask ((Av (List Int)).length + (List.take (r21.toNat - Int.toNat (0 : Int)) (List.drop (Int.toNat (0 : Int)) r15.Tuples)).length ≤ LIM) <|
 ask (InI (r21 + (1 : Int))) <|
 ask (0 ≤ r21 + (1 : Int) ∧ r21 + (1 : Int) ≤ (↑r15.Tuples.length : Int) ∧ (↑r15.Tuples.length : Int) ≤ ((r15.Tuples.length : Nat) : Int)) <|
 ask ((Av (List Int) ++ List.take (r21.toNat - Int.toNat (0 : Int)) (List.drop (Int.toNat (0 : Int)) r15.Tuples)).length + (List.take ((↑r15.Tuples.length : Int).toNat - (r21 + (1 : Int)).toNat) (List.drop (r21 + (1 : Int)).toNat r15.Tuples)).length ≤ LIM) <|
 some (r1, { Arity := r15.Arity, Tuples := Av (List Int) ++ List.take (r21.toNat - Int.toNat (0 : Int)) (List.drop (Int.toNat (0 : Int)) r15.Tuples) ++ List.take ((↑r15.Tuples.length : Int).toNat - (r21 + (1 : Int)).toNat) (List.drop (r21 + (1 : Int)).toNat r15.Tuples) })
 else
 some (r1, r15)
 else
 some (r1, r5)
theorem S9 {code0 : (List Int)} {v : (Int × SRelation)} (h : Di code0 = some v) : Ret Try.prog Hf [(slr false 1 (V.int IntKind.u8)) code0] ((fun r => V.tup [Af r.1, (Ai false) r.2]) v) := by
 refine Acc T7 (Nat.le_of_ble_eq_true rfl) ?_
 unfold Di at h
 conv => whnf
 refine CallQ.io Af (rP true (Aj false)) (by rfl) rfl (fun _ => rfl) (fun _ => ⟨rfl, rfl⟩) rfl h (fun r h => Qd h) (fun r1 u2 h => ?_)
 conv => whnf
 refine BslQ.o Af ([(2 : Int), (2 : Int), (2 : Int), (2 : Int), (2 : Int), (2 : Int), (3 : Int)]) (by exact fun _ => ⟨rfl, rfl⟩) (by rfl) ?_
 conv => whnf
 refine CallQ.io Af (rP true (Aj false)) (by rfl) rfl (fun _ => rfl) (fun _ => ⟨rfl, rfl⟩) rfl h (fun r h => Ba h) (fun r3 u4 h => ?_)
 conv => whnf
 refine CallQ.io (Am) (rP true (Aj false)) (by rfl) rfl (fun _ => rfl) (fun _ => ⟨rfl, rfl⟩) rfl h (fun r h => Xj h) (fun r5 u6 h => ?_)
 conv => whnf
 refine SetKids.lit rfl ?_
 conv => whnf
 refine CutQ.o (fun t : (Bool × Sl1Cur) => match t with | s => (Ex.normal, [24, 6, 5, 4, 3], [(24, A.val (V.bool s.1)), (6, A.val ((rP true (Am)) (r5))), (5, A.val (Af (r1))), (4, A.val ((rP true (Aj false)) s.2)), (3, A.val ((rP true (Am)) ({ Arity := (0 : Int), Tuples := Av (List Int) })))])) h ?_ ?_
 ·intro t h
  conv => whnf
  refine CallQ.o V.bool (by rfl) h (fun r h => Ou h) (fun r7 h => ?_)
  conv => whnf
  refine Br.ob h (fun p8 h => ?_) (fun p8 h => ?_)
  ·conv => whnf
   refine Br.yes ?_
   conv => whnf
   refine CallQ.io V.bool (rP true (Aj false)) (by rfl) rfl (fun _ => rfl) (fun _ => ⟨rfl, rfl⟩) rfl h (fun r h => Eo h) (fun r9 u10 h => ?_)
   conv => whnf
   refine Br.yes ?_
   conv => whnf
   cases h; exact ⟨rfl, rfl⟩
  conv => whnf
  refine Br.no ?_
  conv => whnf
  refine Br.no ?_
  conv => whnf
  cases h; exact ⟨rfl, rfl⟩
 rintro ⟨q11_24, q11_4⟩ h
 try dsimp only at h
 conv => whnf
 refine Br.ob h (fun p12 h => ?_) (fun p12 h => ?_)
 ·conv => whnf
  refine CallQ.io (slr false 1 Af) (rP true (Aj false)) (by rfl) rfl (fun _ => rfl) (fun _ => ⟨rfl, rfl⟩) rfl h (fun r h => Qs.frz (Ha h) (by first | rfl | simp only [V.fz, Ab, slr] | simp [Aa, V.fz, fzL, V.up, upL, Ab, Ac, Ad, slr])) (fun r13 u14 h => ?_)
  conv => whnf
  refine CallQ.o (Am) (by rfl) h (fun r h => Iz h) (fun r15 h => ?_)
  conv => whnf
  refine SetKids.lit rfl ?_
  conv => whnf
  refine CutQ.o (fun t : (Bool × Sl1Cur) => match t with | s => (Ex.normal, [36, 6, 5, 4, 3], [(36, A.val (V.bool s.1)), (6, A.val ((rP true (Am)) (r15))), (5, A.val (Af (r1))), (4, A.val ((rP true (Aj false)) s.2)), (3, A.val ((rP true (Am)) ({ Arity := (0 : Int), Tuples := Av (List Int) })))])) h ?_ ?_
  ·intro t h
   conv => whnf
   refine CallQ.io V.bool (rP true (Aj false)) (by rfl) rfl (fun _ => rfl) (fun _ => ⟨rfl, rfl⟩) rfl h (fun r h => Eo h) (fun r16 u17 h => ?_)
   conv => whnf
   refine Br.ob h (fun p18 h => ?_) (fun p18 h => ?_)
   ·conv => whnf
    refine Br.yes ?_
    conv => whnf
    refine Cells.lit rfl rfl ?_
    conv => whnf
    refine Br.yes ?_
    conv => whnf
    refine Kid.lit rfl rfl ?_
    conv => whnf
    refine Len.map ?_
    conv => whnf
    refine Br.yes ?_
    conv => whnf
    refine Br.yes ?_
    conv => whnf
    cases h; exact ⟨rfl, rfl⟩
   conv => whnf
   refine Br.no ?_
   conv => whnf
   refine Br.no ?_
   conv => whnf
   refine Br.no ?_
   conv => whnf
   refine Br.no ?_
   conv => whnf
   cases h; exact ⟨rfl, rfl⟩
  rintro ⟨q19_36, q19_4⟩ h
  try dsimp only at h
  conv => whnf
  refine Br.ob h (fun p20 h => ?_) (fun p20 h => ?_)
  ·conv => whnf
   refine Cells.lit rfl rfl ?_
   conv => whnf
   refine Kid.lit rfl rfl ?_
   conv => whnf
   refine Len.map ?_
   conv => whnf
   refine CallQ.io Af (rP true (Aj false)) (by rfl) rfl (fun _ => rfl) (fun _ => ⟨rfl, rfl⟩) rfl h (fun r h => Aw h) (fun r21 u22 h => ?_)
   conv => whnf
   refine FrzQ.d (V.ptr true (V.agg [V.int IntKind.i64 r15.Arity, V.sl false (1 : Nat) (List.map (slr false (1 : Nat) Af) r15.Tuples)])) (by first | (simp only [V.fzAt, C4, Ac]; done) | exact Eq.trans (b := V.ptr true (V.agg [V.int IntKind.i64 r15.Arity, (V.sl true (1 : Nat) (List.map (slr false (1 : Nat) Af) r15.Tuples)).fz])) rfl (by simp only [Ac])) ?_
   conv => whnf
   refine BslQ.o (slr true 1 Af) (Av (List Int)) (by exact fun _ => ⟨rfl, rfl⟩) (by rfl) ?_
   conv => whnf
   refine Cells.lit rfl rfl ?_
   conv => whnf
   refine SlcQ.o (slr false 1 Af) h fun h => ?_
   conv => whnf
   refine AppQ.o (m := 1) (slr false 1 Af) (by exact fun _ => ⟨rfl, rfl⟩) (Av (List Int)) (List.take (r21.toNat - Int.toNat (0 : Int)) (List.drop (Int.toNat (0 : Int)) r15.Tuples)) (by rfl) (by rfl) h fun h => ?_
   conv => whnf
   refine Cells.lit rfl rfl ?_
   conv => whnf
   refine Ask.o h fun p23 h => ?_
   conv => whnf
   refine Len.map ?_
   conv => whnf
   refine SlcQ.o (slr false 1 Af) h fun h => ?_
   conv => whnf
   refine AppQ.o (m := 1) (slr false 1 Af) (by exact fun _ => ⟨rfl, rfl⟩) (Av (List Int) ++ List.take (r21.toNat - Int.toNat (0 : Int)) (List.drop (Int.toNat (0 : Int)) r15.Tuples)) (List.take ((↑r15.Tuples.length : Int).toNat - (r21 + (1 : Int)).toNat) (List.drop (r21 + (1 : Int)).toNat r15.Tuples)) (by rfl) (by rfl) h fun h => ?_
   conv => whnf
   refine SetKids.lit rfl ?_
   conv => whnf
   refine Cells.lit rfl rfl ?_
   conv => whnf
   refine SetKids.lit rfl ?_
   conv => whnf
   cases h; exact (by first | rfl | simp only [Ag, V.fz, fzL, V.up, Ab] | simp [Ag, Aa, V.fz, fzL, V.up, upL, Ab, Ac, Ad, slr])
  conv => whnf
  refine Cells.lit rfl rfl ?_
  conv => whnf
  refine SetKids.lit rfl ?_
  conv => whnf
  cases h; exact (by first | rfl | simp only [Ag, V.fz, fzL, V.up, Ab, slr] | simp [Ag, Aa, V.fz, fzL, V.up, upL, Ab, Ac, Ad, slr])
 conv => whnf
 refine Cells.lit rfl rfl ?_
 conv => whnf
 refine SetKids.lit rfl ?_
 conv => whnf
 cases h; exact (by first | rfl | simp only [Ag, V.fz, fzL, V.up, Ab, slr] | simp [Ag, Aa, V.fz, fzL, V.up, upL, Ab, Ac, Ad, slr])
noncomputable def Gm (n0 : Int) (r0 : SRelation) : Option Bool :=
 (Dx (n0)).bind fun r1 =>
 if (r1) = true then
 (Js (n0) (r0)).bind fun r3 =>
 some r3
 else
 some false
theorem Xe {n0 : Int} {r0 : SRelation} {v : Bool} (h : Gm n0 r0 = some v) : Ret Try.prog Ld [Af n0, (Ai false) r0] (V.bool v) := by
 refine A8 Af4 (Nat.le_of_ble_eq_true rfl) ?_
 unfold Gm at h
 conv => whnf
 refine CallQ.o V.bool (by rfl) h (fun r h => Ou h) (fun r1 h => ?_)
 conv => whnf
 refine Br.ob h (fun p2 h => ?_) (fun p2 h => ?_)
 ·conv => whnf
  refine Br.yes ?_
  conv => whnf
  refine Cells.lit rfl rfl ?_
  conv => whnf
  refine Br.yes ?_
  conv => whnf
  refine CallQ.o V.bool (by rfl) h (fun r h => Ahu h) (fun r3 h => ?_)
  conv => whnf
  refine Br.yes ?_
  conv => whnf
  cases h; exact (by rfl)
 conv => whnf
 refine Br.no ?_
 conv => whnf
 refine Br.no ?_
 conv => whnf
 refine Br.no ?_
 conv => whnf
 cases h; exact (by rfl)
noncomputable def Ga (a0 : SAlgebra) (x0 : Int) (y0 : Int) : Option (List Int) :=
 (Da (a0.Size)).bind fun r1 =>
 (E3 (r1) (x0) (y0)).bind fun r2 =>
 (Jg (a0) (r2)).bind fun r3 =>
 some r3
theorem Abg {a0 : SAlgebra} {x0 : Int} {y0 : Int} {v : (List Int)} (h : Ga a0 x0 y0 = some v) : Ret Try.prog Ln [(Ak false) a0, Af x0, Af y0] ((slr false 1 Af) v) := by
 refine A8 Abf (Nat.le_of_ble_eq_true rfl) ?_
 unfold Ga at h
 conv => whnf
 refine Cells.lit rfl rfl ?_
 conv => whnf
 refine Cells.lit rfl rfl ?_
 conv => whnf
 refine CallP.o (slr false 1 Af) (by rfl) h (fun r h => Ret.frz (I8 h) (by first | rfl | simp only [V.fz, Ab, slr] | simp [Aa, V.fz, fzL, V.up, upL, Ab, Ac, Ad, slr])) (fun r1 h => ?_)
 conv => whnf
 refine CallP.o (slr false 1 Af) (by rfl) h (fun r h => Ret.frz (M2 h) (by first | rfl | simp only [V.fz, Ab, slr] | simp [Aa, V.fz, fzL, V.up, upL, Ab, Ac, Ad, slr])) (fun r2 h => ?_)
 conv => whnf
 refine CallQ.o (slr false 1 Af) (by rfl) h (fun r h => Aiy h) (fun r3 h => ?_)
 conv => whnf
 cases h; exact (by rfl)
noncomputable def E6 (n0 : Int) (r0 : SRelation) : Option (Bool × Bool) :=
 (Gm (n0) (r0)).bind fun r1 =>
 if (r1) = true then
 if r0.Arity ≠ (2 : Int) then
 some (false, false)
 else
 (Dd (n0) (r0)).bind fun r4 =>
 some (r4, true)
 else
 some (false, false)
theorem Zf {n0 : Int} {r0 : SRelation} {v : (Bool × Bool)} (h : E6 n0 r0 = some v) : Ret Try.prog Jr [Af n0, (Ai false) r0] ((fun r => V.tup [V.bool r.1, V.bool r.2]) v) := by
 refine A8 Yj (Nat.le_of_ble_eq_true rfl) ?_
 unfold E6 at h
 conv => whnf
 refine Cells.lit rfl rfl ?_
 conv => whnf
 refine CallQ.o V.bool (by rfl) h (fun r h => Xe h) (fun r1 h => ?_)
 conv => whnf
 refine Br.flip ?_
 conv => whnf
 refine Br.ob h (fun p2 h => ?_) (fun p2 h => ?_)
 ·conv => whnf
  refine Br.no ?_
  conv => whnf
  refine Cells.lit rfl rfl ?_
  conv => whnf
  refine Br.no ?_
  conv => whnf
  refine Br.no ?_
  conv => whnf
  refine Br.on h (fun p3 h => ?_) (fun p3 h => ?_)
  ·conv => whnf
   cases h; exact (by rfl)
  conv => whnf
  refine Cells.lit rfl rfl ?_
  conv => whnf
  refine CallQ.o V.bool (by rfl) h (fun r h => M8 h) (fun r4 h => ?_)
  conv => whnf
  cases h; exact (by rfl)
 conv => whnf
 refine Br.yes ?_
 conv => whnf
 refine Br.yes ?_
 conv => whnf
 refine Br.yes ?_
 conv => whnf
 refine Br.yes ?_
 conv => whnf
 cases h; exact (by rfl)
noncomputable def Bg (_n0 : Int) (r0 : SRelation) (x7 : Int) (_x6 : List Int) : Int → Option (Int ⊕ Int) := fun x8 =>
 (Dw (r0) ([x7, x8])).bind fun r8 =>
 if (r8) = true then
 some (.inr x8)
 else
 ask (InI (x8 + (1 : Int))) <|
 some (.inl (x8 + (1 : Int)))
def Ey (n0 : Int) (r0 : SRelation) (x7 : Int) (x6 : List Int) : Int → St := fun s => [(8, A.val (Af s)), (7, A.val (Af (x7))), (6, A.val ((slr true 1 Af) (x6))), (3, A.val ((rP true (Ai false)) (r0))), (0, A.val (Af (n0)))]
def H4 (n0 : Int) (r0 : SRelation) (x7 : Int) (x6 : List Int) : Int → Tgt
 | s => ((Ex.exit 2), [8, 7, 6, 3, 0], [(8, A.val (Af s)), (7, A.val (Af (x7))), (6, A.val ((slr true 1 Af) (x6))), (3, A.val ((rP true (Ai false)) (r0))), (0, A.val (Af (n0)))])
theorem O3 {n0 : Int} {r0 : SRelation} {x7 : Int} {x6 : List Int} (x8 : Int) (o : Int ⊕ Int) (h : Bg n0 r0 x7 x6 x8 = some o) : vc Try.prog H9 (Cu [8, 7, 6, 3, 0] (Ey n0 r0 x7 x6) (H4 n0 r0 x7 x6) o) (Ey n0 r0 x7 x6 x8) := by
 unfold Bg at h
 try dsimp only at h
 conv => whnf
 refine Cells.lit rfl rfl ?_
 conv => whnf
 refine BslQ.o Af ([x7, x8]) (by exact fun _ => ⟨rfl, rfl⟩) (by rfl) ?_
 conv => whnf
 refine CallQ.rd V.bool (by rfl) (fun _ => rfl) h (fun r h => Kq h) (fun r8 h => ?_)
 conv => whnf
 refine Br.flip ?_
 conv => whnf
 refine Br.ob h (fun p9 h => ?_) (fun p9 h => ?_)
 ·conv => whnf
  cases h; exact ⟨rfl, rfl⟩
 conv => whnf
 refine Ask.o h fun p10 h => ?_
 conv => whnf
 cases h; exact ⟨rfl, rfl⟩
noncomputable def Bh (n0 : Int) (r0 : SRelation) : (Int × (List Int)) → Option ((Int × (List Int)) ⊕ (List Int)) := fun (x7, x6) =>
 if x7 < n0 then
 (Al (Bg n0 r0 x7 x6) (0 : Int)).bind fun q11_8 =>
 ask ((x6).length + ([q11_8]).length ≤ LIM) <|
 ask (InI (x7 + (1 : Int))) <|
 some (.inl (x7 + (1 : Int), x6 ++ [q11_8]))
 else
 some (.inr x6)
def Et (n0 : Int) (r0 : SRelation) : (Int × (List Int)) → St := fun s => [(7, A.val (Af s.1)), (6, A.val ((slr true 1 Af) s.2)), (3, A.val ((rP true (Ai false)) (r0))), (0, A.val (Af (n0)))]
def H5 (_n0 : Int) (_r0 : SRelation) : (List Int) → Tgt
 | s => ((Ex.exit 0), [6], [(6, A.val ((slr true 1 Af) s))])
theorem O0 {n0 : Int} {r0 : SRelation} (s : (Int × (List Int))) (o : (Int × (List Int)) ⊕ (List Int)) (h : Bh n0 r0 s = some o) : vc Try.prog Ib (Cu [7, 6, 3, 0] (Et n0 r0) (H5 n0 r0) o) (Et n0 r0 s) := by
 obtain ⟨x7, x6⟩ := s
 unfold Bh at h
 try dsimp only at h
 conv => whnf
 refine Br.od h (fun p7 h => ?_) (fun p7 h => ?_)
 ·conv => whnf
  refine LoopQ.o [8, 7, 6, 3, 0] (Ey n0 r0 x7 x6) (H4 n0 r0 x7 x6) h (fun s o h => O3 s o h) (by rfl) (fun _ => rfl) ?_
  rintro q11_8 h
  try dsimp only at h
  conv => whnf
  refine BslQ.o Af [q11_8] (by exact fun _ => ⟨rfl, rfl⟩) (by rfl) ?_
  conv => whnf
  refine NoOwn.o (fun _ => rfl) ?_
  conv => whnf
  refine AppQ.o (m := 1) Af (by exact fun _ => ⟨rfl, rfl⟩) (x6) ([q11_8]) (by rfl) (by rfl) h fun h => ?_
  conv => whnf
  refine Ask.o h fun p12 h => ?_
  conv => whnf
  cases h; exact ⟨rfl, rfl⟩
 conv => whnf
 cases h; exact ⟨rfl, rfl⟩
noncomputable def C3 (n0 : Int) (r0 : SRelation) : Option ((List Int) × Bool) :=
 (((Gm (n0) (r0)).bind fun r1 =>
 if (r1) = true then
 if r0.Arity ≠ (2 : Int) then
 some (.inl ())
 else
 (Dd (n0) (r0)).bind fun r4 =>
 if (r4) = true then
 some (.inr ())
 else
 some (.inl ())
 else
 some (.inl ()) : Option (Unit ⊕ Unit))).bind fun t => match t with
 | (.inl _) => (some (Av Int, false))
 | (.inr _) => ((Al (Bh n0 r0) ((0 : Int), Av Int)).bind fun q13_6 =>
 some (q13_6, true))
theorem Q1 {n0 : Int} {r0 : SRelation} {v : ((List Int) × Bool)} (h : C3 n0 r0 = some v) : Ret Try.prog Gc [Af n0, (Ai false) r0] ((fun r => V.tup [(slr true 1 Af) r.1, V.bool r.2]) v) := by
 refine A8 Rp (Nat.le_of_ble_eq_true rfl) ?_
 unfold C3 at h
 conv => whnf
 refine BslQ.o Af (Av Int) (by exact fun _ => ⟨rfl, rfl⟩) (by rfl) ?_
 conv => whnf
 refine CutQ.o (fun t : (Unit ⊕ Unit) => match t with | (.inl s) => (Ex.ret, [5, 4], [(5, A.val (V.bool (false))), (4, A.val ((slr true 1 Af) (Av Int)))]) | (.inr s) => (Ex.normal, [6, 3, 0], [(6, A.val ((slr true 1 Af) (Av Int))), (3, A.val ((rP true (Ai false)) (r0))), (0, A.val (Af (n0)))])) h ?_ ?_
 ·intro t h
  conv => whnf
  refine Cells.lit rfl rfl ?_
  conv => whnf
  refine CallQ.o V.bool (by rfl) h (fun r h => Xe h) (fun r1 h => ?_)
  conv => whnf
  refine Br.flip ?_
  conv => whnf
  refine Br.ob h (fun p2 h => ?_) (fun p2 h => ?_)
  ·conv => whnf
   refine Br.no ?_
   conv => whnf
   refine Cells.lit rfl rfl ?_
   conv => whnf
   refine Br.no ?_
   conv => whnf
   refine Br.no ?_
   conv => whnf
   refine Br.on h (fun p3 h => ?_) (fun p3 h => ?_)
   ·conv => whnf
    refine Br.yes ?_
    conv => whnf
    refine Br.yes ?_
    conv => whnf
    refine Br.yes ?_
    conv => whnf
    refine Br.yes ?_
    conv => whnf
    refine Br.yes ?_
    conv => whnf
    cases h; exact ⟨rfl, rfl⟩
   conv => whnf
   refine Br.no ?_
   conv => whnf
   refine Cells.lit rfl rfl ?_
   conv => whnf
   refine Br.no ?_
   conv => whnf
   refine CallQ.o V.bool (by rfl) h (fun r h => M8 h) (fun r4 h => ?_)
   conv => whnf
   refine Br.no ?_
   conv => whnf
   refine Br.no ?_
   conv => whnf
   refine Br.flip ?_
   conv => whnf
   refine Br.ob h (fun p5 h => ?_) (fun p5 h => ?_)
   ·conv => whnf
    cases h; exact ⟨rfl, rfl⟩
   conv => whnf
   cases h; exact ⟨rfl, rfl⟩
  conv => whnf
  refine Br.yes ?_
  conv => whnf
  refine Br.yes ?_
  conv => whnf
  refine Br.yes ?_
  conv => whnf
  refine Br.yes ?_
  conv => whnf
  refine Br.yes ?_
  conv => whnf
  refine Br.yes ?_
  conv => whnf
  refine Br.yes ?_
  conv => whnf
  refine Br.yes ?_
  conv => whnf
  refine Br.yes ?_
  conv => whnf
  cases h; exact ⟨rfl, rfl⟩
 rintro (⟨⟩ | ⟨⟩) h
 ·try dsimp only at h
  conv => whnf
  cases h; exact (by rfl)
 try dsimp only at h
 conv => whnf
 refine LoopQ.o [7, 6, 3, 0] (Et n0 r0) (H5 n0 r0) h (fun s o h => O0 s o h) (by rfl) (fun _ => rfl) ?_
 rintro q13_6 h
 try dsimp only at h
 conv => whnf
 cases h; exact (by rfl)
noncomputable def Ee (a0 : SAlgebra) (r0 : SRelation) : (Int × Bool) → Option ((Int × Bool) ⊕ (Unit ⊕ Bool)) := fun (x24, x6) =>
 if x24 < (↑a0.Ops.length : Int) then
 ask ((0 : Int) ≤ x24 ∧ x24 < (↑a0.Ops.length : Int)) <|
 (Il (a0.Size) (nth a0.Ops x24.toNat) (r0)).bind fun r8 =>
 if (r8.snd) = true then
 if (x6) = true then
 ask (InI (x24 + (1 : Int))) <|
 some (.inl (x24 + (1 : Int), r8.fst))
 else
 ask (InI (x24 + (1 : Int))) <|
 some (.inl (x24 + (1 : Int), false))
 else
 some (.inr (.inl ()))
 else
 some (.inr (.inr x6))
def I0 (a0 : SAlgebra) (r0 : SRelation) : (Int × Bool) → St := fun s => [(24, A.val (Af s.1)), (23, A.val (Af ((↑a0.Ops.length : Int)))), (22, A.val ((slr false 2 (A7 false)) (a0.Ops))), (6, A.val (V.bool s.2)), (3, A.val ((rP true (Ai false)) (r0))), (2, A.val ((rP true (Ak false)) (a0)))]
def Nf (_a0 : SAlgebra) (_r0 : SRelation) : (Unit ⊕ Bool) → Tgt
 | (.inl _s) => (Ex.ret, [5, 4], [(5, A.val (V.bool (false))), (4, A.val (V.bool (false)))])
 | (.inr s) => ((Ex.exit 0), [6], [(6, A.val (V.bool s))])
theorem X2 {a0 : SAlgebra} {r0 : SRelation} (s : (Int × Bool)) (o : (Int × Bool) ⊕ (Unit ⊕ Bool)) (h : Ee a0 r0 s = some o) : vc Try.prog M9 (Cu [24, 23, 22, 6, 3, 2] (I0 a0 r0) (Nf a0 r0) o) (I0 a0 r0 s) := by
 obtain ⟨x24, x6⟩ := s
 unfold Ee at h
 try dsimp only at h
 conv => whnf
 refine Br.od h (fun p6 h => ?_) (fun p6 h => ?_)
 ·conv => whnf
  refine Len.map ?_
  conv => whnf
  refine Ask.o h fun p7 h => ?_
  conv => whnf
  refine Elem.o (by first | omega | (simp [Ap] at *; omega)) ?_
  conv => whnf
  refine SetKids.lit rfl ?_
  conv => whnf
  refine Cells.lit rfl rfl ?_
  conv => whnf
  refine Cells.lit rfl rfl ?_
  conv => whnf
  refine Cells.lit rfl rfl ?_
  conv => whnf
  refine CallQ.o (fun r => V.tup [V.bool r.1, V.bool r.2]) (by rfl) h (fun r h => Af9 h) (fun r8 h => ?_)
  conv => whnf
  refine Br.flip ?_
  conv => whnf
  refine Br.ob h (fun p9 h => ?_) (fun p9 h => ?_)
  ·conv => whnf
   refine Br.ob h (fun p10 h => ?_) (fun p10 h => ?_)
   ·conv => whnf
    refine Br.yes ?_
    conv => whnf
    refine Ask.o h fun p11 h => ?_
    conv => whnf
    cases h; exact ⟨rfl, rfl⟩
   conv => whnf
   refine Br.no ?_
   conv => whnf
   refine Ask.o h fun p12 h => ?_
   conv => whnf
   cases h; exact ⟨rfl, rfl⟩
  conv => whnf
  cases h; exact ⟨rfl, rfl⟩
 conv => whnf
 cases h; exact ⟨rfl, rfl⟩
noncomputable def F5 (a0 : SAlgebra) (r0 : SRelation) : Option (Bool × Bool) :=
 (((F1 (a0)).bind fun r1 =>
 if (r1) = true then
 (Fc (a0.Size) (r0)).bind fun r3 =>
 if (r3) = true then
 some (.inl ())
 else
 some (.inr ())
 else
 some (.inr ()) : Option (Unit ⊕ Unit))).bind fun t => match t with
 | (.inl _) => ((Al (Ee a0 r0) ((0 : Int), true)).bind fun t => match t with
 | (.inl _) => (some (false, false))
 | (.inr q13_6) => (some (q13_6, true)))
 | (.inr _) => (some (false, false))
theorem Abj {a0 : SAlgebra} {r0 : SRelation} {v : (Bool × Bool)} (h : F5 a0 r0 = some v) : Ret Try.prog Lq [(Ak false) a0, (Ai false) r0] ((fun r => V.tup [V.bool r.1, V.bool r.2]) v) := by
 refine A8 Abe (Nat.le_of_ble_eq_true rfl) ?_
 unfold F5 at h
 conv => whnf
 refine CutQ.o (fun t : (Unit ⊕ Unit) => match t with | (.inl s) => (Ex.normal, [3, 2], [(3, A.val ((rP true (Ai false)) (r0))), (2, A.val ((rP true (Ak false)) (a0)))]) | (.inr s) => (Ex.ret, [5, 4], [(5, A.val (V.bool (false))), (4, A.val (V.bool (false)))])) h ?_ ?_
 ·intro t h
  conv => whnf
  refine Cells.lit rfl rfl ?_
  conv => whnf
  refine CallQ.o V.bool (by rfl) h (fun r h => V5 h) (fun r1 h => ?_)
  conv => whnf
  refine Br.flip ?_
  conv => whnf
  refine Br.ob h (fun p2 h => ?_) (fun p2 h => ?_)
  ·conv => whnf
   refine Br.no ?_
   conv => whnf
   refine Cells.lit rfl rfl ?_
   conv => whnf
   refine Br.no ?_
   conv => whnf
   refine Cells.lit rfl rfl ?_
   conv => whnf
   refine Br.no ?_
   conv => whnf
   refine CallQ.o V.bool (by rfl) h (fun r h => Su h) (fun r3 h => ?_)
   conv => whnf
   refine Br.no ?_
   conv => whnf
   refine Br.no ?_
   conv => whnf
   refine Br.flip ?_
   conv => whnf
   refine Br.ob h (fun p4 h => ?_) (fun p4 h => ?_)
   ·conv => whnf
    cases h; exact ⟨rfl, rfl⟩
   conv => whnf
   cases h; exact ⟨rfl, rfl⟩
  conv => whnf
  refine Br.yes ?_
  conv => whnf
  refine Br.yes ?_
  conv => whnf
  refine Br.yes ?_
  conv => whnf
  refine Br.yes ?_
  conv => whnf
  refine Br.yes ?_
  conv => whnf
  refine Br.yes ?_
  conv => whnf
  cases h; exact ⟨rfl, rfl⟩
 rintro (⟨⟩ | ⟨⟩) h
 ·try dsimp only at h
  conv => whnf
  refine Cells.lit rfl rfl ?_
  conv => whnf
  refine Len.map ?_
  conv => whnf
  refine LoopQ.o [24, 23, 22, 6, 3, 2] (I0 a0 r0) (Nf a0 r0) h (fun s o h => X2 s o h) (by rfl) (by rintro (_ | _) <;> rfl) ?_
  rintro (⟨⟩ | q13_6) h
  ·try dsimp only at h
   conv => whnf
   cases h; exact (by rfl)
  try dsimp only at h
  conv => whnf
  cases h; exact (by rfl)
 try dsimp only at h
 conv => whnf
 cases h; exact (by rfl)
end Go.Proofs.Ytcpgnfohmeineaa.Ax
