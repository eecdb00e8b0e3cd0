/-
 What the functions compute, as functions on plain data, and that the program does compute it; written by program.
-/
import Derived.Test.YthagmdhmgailfaaGreatCode
import Derived.Test.YthagmdhmgailfaaGreatG1
import Derived.Test.YthagmdhmgailfaaGreatG3
import Derived.Test.YthagmdhmgailfaaGreatG4
import Derived.Test.YthagmdhmgailfaaGreatG6
import Derived.Test.YthagmdhmgailfaaGreatG8
import Derived.Test.YthagmdhmgailfaaGreatG9
namespace Go.Proofs.YthagmdhmgailfaaGreat.Ax
open Go
set_option maxRecDepth 100000
set_option maxHeartbeats 4000000
noncomputable def B0 (r1 : SAlgebra) : (Int × (List (Int × Int)) × Sl1Cur) → Option ((Int × (List (Int × Int)) × Sl1Cur) ⊕ (List (Int × Int))) := fun (x7, x6, x4) =>
 if x7 > (0 : Int) then
 (Dq (x4) (r1)).bind fun (r10, u11) =>
 (Dq (u11) (r1)).bind fun (r12, u13) =>
 ask ((x6).length + ([(r10, r12)]).length ≤ LIM) <|
 ask (InI (x7 - (1 : Int))) <|
 some (.inl (x7 - (1 : Int), x6 ++ [(r10, r12)], u13))
 else
 some (.inr x6)
def Eg (r1 : SAlgebra) : (Int × (List (Int × Int)) × Sl1Cur) → St := fun s => [(5, A.val ((rP true (Ag false)) (r1))), (7, A.val (Af s.1)), (6, A.val ((slr true 2 (rA2 Af)) s.2.1)), (4, A.val ((rP true (Aj false)) s.2.2)), (2, A.val ((rP true (Ag true)) ({ Size := (0 : Int), Ops := Aq SOp })))]
def Hl (r1 : SAlgebra) : (List (Int × Int)) → Tgt
 | s => ((Ex.exit 0), [5, 6, 2], [(5, A.val ((rP true (Ag false)) (r1))), (6, A.val ((slr true 2 (rA2 Af)) s)), (2, A.val ((rP true (Ag true)) ({ Size := (0 : Int), Ops := Aq SOp })))])
theorem Mn {r1 : SAlgebra} (s : (Int × (List (Int × Int)) × Sl1Cur)) (o : (Int × (List (Int × Int)) × Sl1Cur) ⊕ (List (Int × Int))) (h : B0 r1 s = some o) : vc Tryz.prog Hm (Da [5, 7, 6, 4, 2] (Eg r1) (Hl r1) o) (Eg r1 s) := by
 obtain ⟨x7, x6, x4⟩ := s
 unfold B0 at h
 try dsimp only at h
 refine Br.od h (fun p9 h => ?_) (fun p9 h => ?_)
 ·refine Cells.lit rfl rfl <| Cells.lit rfl rfl <| SameQ.mk ⟨rfl, ?_⟩
  refine SameQ.mk ⟨rfl, ?_⟩
  refine Cells.lit rfl rfl <| SameQ.mk ⟨rfl, ?_⟩
  refine SameQ.mk ⟨rfl, ?_⟩
  refine Cells.lit rfl rfl <| SameQ.mk ⟨rfl, ?_⟩
  refine CallQ.io Af (rP true (Aj false)) (by rfl) rfl (fun _ => rfl) (fun _ => ⟨rfl, rfl⟩) rfl h (fun r h => Ox h) (fun r10 u11 h => ?_)
  refine SameQ.mk ⟨rfl, ?_⟩
  refine SameQ.mk ⟨rfl, ?_⟩
  refine Cells.lit rfl rfl <| SameQ.mk ⟨rfl, ?_⟩
  refine CallQ.io Af (rP true (Aj false)) (by rfl) rfl (fun _ => rfl) (fun _ => ⟨rfl, rfl⟩) rfl h (fun r h => Ox h) (fun r12 u13 h => ?_)
  refine SameQ.mk ⟨rfl, ?_⟩
  refine SameQ.mk ⟨rfl, ?_⟩
  refine BslQ.o (rA2 Af) ([(r10, r12)]) (by exact fun _ => ⟨rfl, rfl⟩) (by rfl) <| SameQ.mk ⟨rfl, ?_⟩
  refine NoOwn.o (fun _ => rfl) <| AppQ.o (m := 2) (rA2 Af) (by exact fun _ => ⟨rfl, rfl⟩) (x6) ([(r10, r12)]) (by rfl) (by rfl) h fun h => Ask.o h fun p14 h => ?_
  cases h; exact ⟨rfl, rfl⟩
 cases h; exact ⟨rfl, rfl⟩
noncomputable def Cb (code0 : (List Int)) : Option (SAlgebra × (List (Int × Int))) :=
 (Dp ({ code := code0, at_ := (0 : Int), seed := (0 : Int) })).bind fun (r1, u2) =>
 (Av (u2) ((24 : Int))).bind fun (r3, u4) =>
 ask ((11 : Int) ≠ (0 : Int) ∧ InI (r3.tdiv (11 : Int))) <|
 ask (InI ((5 : Int) + r3.tdiv (11 : Int))) <|
 ask (0 ≤ (0 : Int) ∧ (0 : Int) ≤ (5 : Int) + r3.tdiv (11 : Int) ∧ (5 : Int) + r3.tdiv (11 : Int) ≤ (([(0 : Int), (1 : Int), (1 : Int), (2 : Int), (3 : Int), (20 : Int), (21 : Int)].length : Nat) : Int)) <|
 (Bc (u4) (List.take (((5 : Int) + r3.tdiv (11 : Int)).toNat - Int.toNat (0 : Int)) (List.drop (Int.toNat (0 : Int)) [(0 : Int), (1 : Int), (1 : Int), (2 : Int), (3 : Int), (20 : Int), (21 : Int)]))).bind fun (r7, u8) =>
 (Al (B0 r1) (r7, Aq (Int × Int), u8)).bind fun q15_6 =>
 some (r1, q15_6)
theorem Pg {code0 : (List Int)} {v : (SAlgebra × (List (Int × Int)))} (h : Cb code0 = some v) : Ret Tryz.prog Fk [(slr false 1 (V.int IntKind.u8)) code0] ((fun r => V.tup [(Ag false) r.1, (slr false 2 (rA2 Af)) r.2]) v) := by
 refine Q5 Pr (Nat.le_of_ble_eq_true rfl) ?_
 unfold Cb at h
 conv => whnf
 refine CallQ.io (Ag true) (rP true (Aj false)) (by rfl) rfl (fun _ => rfl) (fun _ => ⟨rfl, rfl⟩) rfl h (fun r h => O0 h) (fun r1 u2 h => ?_)
 conv => whnf
 refine SetKids.lit rfl ?_
 conv => whnf
 refine BslQ.o (rA2 Af) (Aq (Int × Int)) (by exact fun _ => ⟨rfl, rfl⟩) (by rfl) ?_
 conv => whnf
 refine BslQ.o Af ([(0 : Int), (1 : Int), (1 : Int), (2 : Int), (3 : Int), (20 : Int), (21 : Int)]) (by exact fun _ => ⟨rfl, rfl⟩) (by rfl) ?_
 conv => whnf
 refine CallQ.io Af (rP true (Aj false)) (by rfl) rfl (fun _ => rfl) (fun _ => ⟨rfl, rfl⟩) rfl h (fun r h => A3 h) (fun r3 u4 h => ?_)
 conv => whnf
 refine Ask.o h fun p5 h => ?_
 conv => whnf
 refine Ask.o h fun p6 h => ?_
 conv => whnf
 refine SlcQ.lst (xs := [(0 : Int), (1 : Int), (1 : Int), (2 : Int), (3 : Int), (20 : Int), (21 : Int)]) Af (by rfl) h fun h => ?_
 conv => whnf
 refine CallQ.io Af (rP true (Aj false)) (by rfl) rfl (fun _ => rfl) (fun _ => ⟨rfl, rfl⟩) rfl h (fun r h => Bm h) (fun r7 u8 h => ?_)
 conv => whnf
 refine FrzQ.d (V.ptr true (V.agg [V.int IntKind.i64 r1.Size, V.sl false (2 : Nat) (List.map (Bd false) r1.Ops)])) (by first | (simp only [V.fzAt, Lc]; done) | exact Eq.trans (b := V.ptr true (V.agg [V.int IntKind.i64 r1.Size, (V.sl true (2 : Nat) (List.map (Bd true) r1.Ops)).fz])) rfl (by simp only [Ac])) ?_
 conv => whnf
 refine LoopQ.o [5, 7, 6, 4, 2] (Eg r1) (Hl r1) h (fun s o h => Mn s o h) (by rfl) (fun _ => rfl) ?_
 rintro q15_6 h
 try dsimp only at h
 conv => whnf
 refine Cells.lit rfl rfl ?_
 conv => whnf
 refine SetKids.lit rfl ?_
 conv => whnf
 cases h; exact (by first | rfl | simp only [Ah, V.fz, fzL, V.up, upL, Ab, slr] | simp [Ah, Aa, V.fz, fzL, V.up, upL, Ab, Ac, Ad, slr])
noncomputable def Ci (a0 : SAlgebra) (pairs0 : List (Int × Int)) : (Int × (List Int)) → Option ((Int × (List Int)) ⊕ (Unit ⊕ (List Int))) := fun (x7, x6) =>
 if x7 < (↑pairs0.length : Int) then
 ((ask ((0 : Int) ≤ x7 ∧ x7 < (↑pairs0.length : Int)) <|
 ask (InI (a0.Size - (1 : Int))) <|
 (Ee ((nth pairs0 x7.toNat).fst) ((0 : Int)) (a0.Size - (1 : Int))).bind fun r9 =>
 if (r9) = true then
 ask ((0 : Int) ≤ x7 ∧ x7 < (↑pairs0.length : Int)) <|
 ask (InI (a0.Size - (1 : Int))) <|
 (Ee ((nth pairs0 x7.toNat).snd) ((0 : Int)) (a0.Size - (1 : Int))).bind fun r13 =>
 if (r13) = true then
 some (.inl ())
 else
 some (.inr ())
 else
 some (.inr ()) : Option (Unit ⊕ Unit))).bind fun t => match t with
 | (.inl _) => (ask ((0 : Int) ≤ x7 ∧ x7 < (↑pairs0.length : Int)) <|
 ask ((0 : Int) ≤ x7 ∧ x7 < (↑pairs0.length : Int)) <|
 (D4 (x6) ((nth pairs0 x7.toNat).fst) ((nth pairs0 x7.toNat).snd)).bind fun r18 =>
 ask (InI (x7 + (1 : Int))) <|
 some (.inl (x7 + (1 : Int), r18)))
 | (.inr _) => (some (.inr (.inl ())))
 else
 some (.inr (.inr x6))
def Fv (a0 : SAlgebra) (pairs0 : List (Int × Int)) : (Int × (List Int)) → St := fun s => [(7, A.val (Af s.1)), (6, A.val ((slr true 1 Af) s.2)), (2, A.val ((rP true (Ag false)) (a0))), (1, A.val ((slr false 2 (rA2 Af)) (pairs0)))]
def I3 (a0 : SAlgebra) (_pairs0 : List (Int × Int)) : (Unit ⊕ (List Int)) → Tgt
 | (.inl _s) => (Ex.ret, [5, 4], [(5, A.val (V.bool (false))), (4, A.val ((slr true 1 Af) (Aq Int)))])
 | (.inr s) => ((Ex.exit 0), [6, 2], [(6, A.val ((slr true 1 Af) s)), (2, A.val ((rP true (Ag false)) (a0)))])
theorem Qf {a0 : SAlgebra} {pairs0 : List (Int × Int)} (s : (Int × (List Int))) (o : (Int × (List Int)) ⊕ (Unit ⊕ (List Int))) (h : Ci a0 pairs0 s = some o) : vc Tryz.prog I0 (Da [7, 6, 2, 1] (Fv a0 pairs0) (I3 a0 pairs0) o) (Fv a0 pairs0 s) := by
 obtain ⟨x7, x6⟩ := s
 unfold Ci at h
 try dsimp only at h
 refine Len.map <| Br.od h (fun p6 h => ?_) (fun p6 h => ?_)
 ·refine CutQ.o (fun t : (Unit ⊕ Unit) => match t with | (.inl s) => (Ex.normal, [7, 6, 2, 1], [(7, A.val (Af (x7))), (6, A.val ((slr true 1 Af) (x6))), (2, A.val ((rP true (Ag false)) (a0))), (1, A.val ((slr false 2 (rA2 Af)) (pairs0)))]) | (.inr s) => (Ex.ret, [5, 4], [(5, A.val (V.bool (false))), (4, A.val ((slr true 1 Af) (Aq Int)))])) h ?_ ?_
  ·intro t h
   refine Len.map <| Ask.o h fun p7 h => Elem.o (by first | omega | (simp [Ar] at * <;> omega)) <| Ask.mk (by decide) <| Idx.lit <| Cells.lit rfl rfl <| Ask.o h fun p8 h => CallP.o V.bool (by rfl) h (fun r h => Lx h) (fun r9 h => ?_)
   refine Br.flip <| Br.ob h (fun p10 h => ?_) (fun p10 h => ?_)
   ·refine Br.no <| Br.no <| Len.map <| Ask.o h fun p11 h => Elem.o (by first | omega | (simp [Ar] at * <;> omega)) <| Br.no <| Ask.mk (by decide) <| Idx.lit <| Br.no <| Br.no <| Br.no <| Cells.lit rfl rfl <| Br.no <| Ask.o h fun p12 h => Br.no <| CallQ.o V.bool (by rfl) h (fun r h => Lx h) (fun r13 h => ?_)
    refine Br.no <| Br.no <| Br.flip <| Br.ob h (fun p14 h => ?_) (fun p14 h => ?_)
    ·cases h; exact ⟨rfl, rfl⟩
    refine BslQ.o Af (Aq Int) (by exact fun _ => ⟨rfl, rfl⟩) (by rfl) ?_
    cases h; exact ⟨rfl, rfl⟩
   refine Br.yes <| Br.yes <| Br.yes <| Br.yes <| Br.yes <| Br.yes <| Br.yes <| Br.yes <| Br.yes <| Br.yes <| Br.yes <| BslQ.o Af (Aq Int) (by exact fun _ => ⟨rfl, rfl⟩) (by rfl) ?_
   cases h; exact ⟨rfl, rfl⟩
  rintro (⟨⟩ | ⟨⟩) h
  ·try dsimp only at h
   refine Len.map <| Ask.o h fun p16 h => Elem.o (by first | omega | (simp [Ar] at * <;> omega)) <| Ask.mk (by decide) <| Idx.lit <| Len.map <| Ask.o h fun p17 h => Elem.o (by first | omega | (simp [Ar] at * <;> omega)) <| Ask.mk (by decide) <| Idx.lit <| CallQ.rd (slr true 1 Af) (by first | rfl | simp only [V.fz, Ab, slr] | simp [Aa, V.fz, fzL, V.up, upL, Ab, Ac, Ad, slr]) (fun _ => by simp [V.noFz, B6]) h (fun r h => Jk h) (fun r18 h => ?_)
   refine Ask.o h fun p19 h => ?_
   cases h; exact ⟨rfl, rfl⟩
  try dsimp only at h
  cases h; exact ⟨rfl, rfl⟩
 cases h; exact ⟨rfl, rfl⟩
noncomputable def Dd (a0 : SAlgebra) (pairs0 : (List (Int × Int))) : Option ((List Int) × Bool) :=
 (((Hj (a0)).bind fun r1 =>
 if (r1) = true then
 if (↑pairs0.length : Int) > (20 : Int) then
 some (.inl ())
 else
 some (.inr ())
 else
 some (.inl ()) : Option (Unit ⊕ Unit))).bind fun t => match t with
 | (.inl _) => (some (Aq Int, false))
 | (.inr _) => ((B8 (a0.Size)).bind fun r5 =>
 (Al (Ci a0 pairs0) ((0 : Int), r5)).bind fun t => match t with
 | (.inl _) => (some (Aq Int, false))
 | (.inr q20_6) => ((E7 (a0) (q20_6)).bind fun r21 =>
 some (r21, true)))
theorem Tu {a0 : SAlgebra} {pairs0 : (List (Int × Int))} {v : ((List Int) × Bool)} (h : Dd a0 pairs0 = some v) : Ret Tryz.prog Hg [(Ag false) a0, (slr false 2 (rA2 Af)) pairs0] ((fun r => V.tup [(slr false 1 Af) r.1, V.bool r.2]) v) := by
 refine Q5 Tn (Nat.le_of_ble_eq_true rfl) ?_
 unfold Dd at h
 refine CutQ.o (fun t : (Unit ⊕ Unit) => match t with | (.inl s) => (Ex.ret, [5, 4], [(5, A.val (V.bool (false))), (4, A.val ((slr true 1 Af) (Aq Int)))]) | (.inr s) => (Ex.normal, [2, 1], [(2, A.val ((rP true (Ag false)) (a0))), (1, A.val ((slr false 2 (rA2 Af)) (pairs0)))])) h ?_ ?_
 ·intro t h
  refine Cells.lit rfl rfl <| CallQ.o V.bool (by rfl) h (fun r h => Uq h) (fun r1 h => ?_)
  refine Br.flip <| Br.ob h (fun p2 h => ?_) (fun p2 h => ?_)
  ·refine Br.no <| Len.map <| Br.no <| Br.no <| Br.od h (fun p3 h => ?_) (fun p3 h => ?_)
   ·refine BslQ.o Af (Aq Int) (by exact fun _ => ⟨rfl, rfl⟩) (by rfl) ?_
    cases h; exact ⟨rfl, rfl⟩
   cases h; exact ⟨rfl, rfl⟩
  refine Br.yes <| Br.yes <| Br.yes <| Br.yes <| BslQ.o Af (Aq Int) (by exact fun _ => ⟨rfl, rfl⟩) (by rfl) ?_
  cases h; exact ⟨rfl, rfl⟩
 rintro (⟨⟩ | ⟨⟩) h
 ·try dsimp only at h
  cases h; exact (by rfl)
 try dsimp only at h
 refine Cells.lit rfl rfl <| CallQ.o (slr true 1 Af) (by rfl) h (fun r h => Fb h) (fun r5 h => ?_)
 refine LoopQ.o [7, 6, 2, 1] (Fv a0 pairs0) (I3 a0 pairs0) h (fun s o h => Qf s o h) (by rfl) (by rintro (_ | _) <;> rfl) ?_
 rintro (⟨⟩ | q20_6) h
 ·try dsimp only at h
  cases h; exact (by rfl)
 try dsimp only at h
 refine FrzQ.d (V.sl false (1 : Nat) (List.map Af q20_6)) (by first | (simp only [slr]; done) | (simp [Bp, V.fz, Ab, slr]; done) | (simp [Bp, V.fz, fzL, Ab, slr]; done)) <| Cells.lit rfl rfl <| CallQ.o (slr false 1 Af) (by rfl) h (fun r h => Zq h) (fun r21 h => ?_)
 cases h; exact (by rfl)
noncomputable def Dv (a0 : SAlgebra) (x0 : Int) (y0 : Int) : Option ((List Int) × Bool) :=
 (N4 (a0) (x0) (y0)).bind fun r1 =>
 if (r1) = true then
 (C6 (a0) ([(x0, y0)])).bind fun r3 =>
 some (r3, true)
 else
 some (Aq Int, false)
theorem Uz {a0 : SAlgebra} {x0 : Int} {y0 : Int} {v : ((List Int) × Bool)} (h : Dv a0 x0 y0 = some v) : Ret Tryz.prog H3 [(Ag false) a0, Af x0, Af y0] ((fun r => V.tup [(slr true 1 Af) r.1, V.bool r.2]) v) := by
 refine Ay Vi (Nat.le_of_ble_eq_true rfl) ?_
 unfold Dv at h
 refine Cells.lit rfl rfl <| CallQ.o V.bool (by rfl) h (fun r h => Ak5 h) (fun r1 h => ?_)
 refine Br.flip <| Br.ob h (fun p2 h => ?_) (fun p2 h => ?_)
 ·refine Cells.lit rfl rfl <| BslQ.o (rA2 Af) ([(x0, y0)]) (by exact fun _ => ⟨rfl, rfl⟩) (by rfl) <| CallQ.rd (slr true 1 Af) (by rfl) (fun _ => by simp [V.noFz, B6]) h (fun r h => J3 h) (fun r3 h => ?_)
  cases h; exact (by rfl)
 refine BslQ.o Af (Aq Int) (by exact fun _ => ⟨rfl, rfl⟩) (by rfl) ?_
 cases h; exact (by rfl)
noncomputable def Bn (a0 : SAlgebra) : Option ((List (List Int)) × Bool) :=
 (E1 (a0)).bind fun r1 =>
 if (r1) = true then
 (B2 (a0)).bind fun r3 =>
 some r3
 else
 some (Aq (List Int), false)
theorem Lj {a0 : SAlgebra} {v : ((List (List Int)) × Bool)} (h : Bn a0 = some v) : Ret Tryz.prog Ge [(Ag false) a0] ((fun r => V.tup [(slr true 1 (slr true 1 Af)) r.1, V.bool r.2]) v) := by
 refine Ay Ab6 (Nat.le_of_ble_eq_true rfl) ?_
 unfold Bn at h
 refine Cells.lit rfl rfl <| CallQ.o V.bool (by rfl) h (fun r h => Nw h) (fun r1 h => ?_)
 refine Br.flip <| Br.ob h (fun p2 h => ?_) (fun p2 h => ?_)
 ·refine Cells.lit rfl rfl <| CallQ.o (fun r => V.tup [(slr true 1 (slr true 1 Af)) r.1, V.bool r.2]) (by rfl) h (fun r h => Xw h) (fun r3 h => ?_)
  cases h; exact (by rfl)
 cases h; exact (by rfl)
noncomputable def Dm (a0 : SAlgebra) (x0 : Int) (y0 : Int) : Option (List Int) :=
 (B8 (a0.Size)).bind fun r1 =>
 (D4 (r1) (x0) (y0)).bind fun r2 =>
 (E7 (a0) (r2)).bind fun r3 =>
 some r3
theorem Abh {a0 : SAlgebra} {x0 : Int} {y0 : Int} {v : (List Int)} (h : Dm a0 x0 y0 = some v) : Ret Tryz.prog Lb [(Ag false) a0, Af x0, Af y0] ((slr false 1 Af) v) := by
 refine Ay Abk (Nat.le_of_ble_eq_true rfl) ?_
 unfold Dm at h
 refine Cells.lit rfl rfl <| Cells.lit rfl rfl <| CallP.o (slr false 1 Af) (by rfl) h (fun r h => Ret.frz (Fb h) (by first | rfl | simp only [V.fz, Ab, slr] | simp [Aa, V.fz, fzL, V.up, upL, Ab, Ac, Ad, slr])) (fun r1 h => ?_)
 refine CallP.o (slr false 1 Af) (by rfl) h (fun r h => Ret.frz (Jk h) (by first | rfl | simp only [V.fz, Ab, slr] | simp [Aa, V.fz, fzL, V.up, upL, Ab, Ac, Ad, slr])) (fun r2 h => ?_)
 refine CallQ.o (slr false 1 Af) (by rfl) h (fun r h => Zq h) (fun r3 h => ?_)
 cases h; exact (by rfl)
noncomputable def C5 (a0 : SAlgebra) : Option ((List (List Int)) × Bool) :=
 (Bn (a0)).bind fun r1 =>
 if (r1.snd) = true then
 ask (0 ≤ (1 : Int) ∧ (1 : Int) ≤ (↑r1.fst.length : Int) ∧ (↑r1.fst.length : Int) ≤ ((r1.fst.length : Nat) : Int)) <|
 (Eb (List.take ((↑r1.fst.length : Int).toNat - Int.toNat (1 : Int)) (List.drop (Int.toNat (1 : Int)) r1.fst)) (fun w_0 w_1 => Cj w_0 w_1)).bind fun r3 =>
 some (r3, true)
 else
 some (Aq (List Int), false)
theorem Rx {a0 : SAlgebra} {v : ((List (List Int)) × Bool)} (h : C5 a0 = some v) : Ret Tryz.prog Gn [(Ag false) a0] ((fun r => V.tup [(slr true 1 (slr true 1 Af)) r.1, V.bool r.2]) v) := by
 refine Ay Sf (Nat.le_of_ble_eq_true rfl) ?_
 unfold C5 at h
 refine Cells.lit rfl rfl <| CallQ.o (fun r => V.tup [(slr true 1 (slr true 1 Af)) r.1, V.bool r.2]) (by rfl) h (fun r h => Lj h) (fun r1 h => ?_)
 refine Br.flip <| Br.ob h (fun p2 h => ?_) (fun p2 h => ?_)
 ·refine FrzQ.d (V.sl false (1 : Nat) (List.map (slr false (1 : Nat) Af) r1.fst)) (by first | (simp only [slr]; done) | (simp [Bp, V.fz, Ab, slr]; done) | (simp [Bp, V.fz, fzL, Ab, slr]; done)) <| Len.map <| SlcQ.o (slr false 1 Af) h fun h => CallQ.o (slr true 1 (slr true 1 Af)) (by rfl) h (fun r h => O9 (f_beyond0 := Dz) (c_beyond0 := []) (fun w_0 w_1 v h => Ret.cast (by rfl) (P5 h)) h) (fun r3 h => ?_)
  cases h; exact (by rfl)
 refine BslQ.o (slr true 1 Af) (Aq (List Int)) (by exact fun _ => ⟨rfl, rfl⟩) (by rfl) ?_
 cases h; exact (by rfl)
noncomputable def A4 (a0 : SAlgebra) (p0 : (List Int)) : Option ((List (List Int)) × Bool) :=
 (Bn (a0)).bind fun r1 =>
 if (r1.snd) = true then
 (Ft (a0) (p0)).bind fun r3 =>
 if (r3) = true then
 (Ii (r1.fst) (p0)).bind fun r5 =>
 some (r5, true)
 else
 some (Aq (List Int), false)
 else
 some (Aq (List Int), false)
theorem Je {a0 : SAlgebra} {p0 : (List Int)} {v : ((List (List Int)) × Bool)} (h : A4 a0 p0 = some v) : Ret Tryz.prog D6 [(Ag false) a0, (slr false 1 Af) p0] ((fun r => V.tup [(slr true 1 (slr true 1 Af)) r.1, V.bool r.2]) v) := by
 refine Ay Rw (Nat.le_of_ble_eq_true rfl) ?_
 unfold A4 at h
 refine Cells.lit rfl rfl <| CallQ.o (fun r => V.tup [(slr true 1 (slr true 1 Af)) r.1, V.bool r.2]) (by rfl) h (fun r h => Lj h) (fun r1 h => ?_)
 refine Br.flip <| Br.ob h (fun p2 h => ?_) (fun p2 h => ?_)
 ·refine Cells.lit rfl rfl <| Br.no <| Br.no <| CallQ.o V.bool (by rfl) h (fun r h => Aau h) (fun r3 h => ?_)
  refine Br.no <| Br.no <| Br.flip <| Br.ob h (fun p4 h => ?_) (fun p4 h => ?_)
  ·refine CallQ.rd (slr true 1 (slr true 1 Af)) (by first | rfl | simp only [V.fz, V.up, Ab, slr] | simp [Aa, V.fz, fzL, V.up, upL, Ab, Ac, Ad, slr]) (fun _ => by simp [V.noFz, B6]) h (fun r h => Ahm h) (fun r5 h => ?_)
   cases h; exact (by rfl)
  refine BslQ.o (slr true 1 Af) (Aq (List Int)) (by exact fun _ => ⟨rfl, rfl⟩) (by rfl) ?_
  cases h; exact (by rfl)
 refine Br.yes <| Br.yes <| Br.yes <| Br.yes <| Br.yes <| BslQ.o (slr true 1 Af) (Aq (List Int)) (by exact fun _ => ⟨rfl, rfl⟩) (by rfl) ?_
 cases h; exact (by rfl)
noncomputable def C4 (a0 : SAlgebra) : Option ((List (List Int)) × Bool) :=
 (Bn (a0)).bind fun r1 =>
 if (r1.snd) = true then
 (Hs (r1.fst)).bind fun r3 =>
 some (r3, true)
 else
 some (Aq (List Int), false)
theorem Se {a0 : SAlgebra} {v : ((List (List Int)) × Bool)} (h : C4 a0 = some v) : Ret Tryz.prog Gm [(Ag false) a0] ((fun r => V.tup [(slr true 1 (slr true 1 Af)) r.1, V.bool r.2]) v) := by
 refine Ay Sa (Nat.le_of_ble_eq_true rfl) ?_
 unfold C4 at h
 refine Cells.lit rfl rfl <| CallQ.o (fun r => V.tup [(slr true 1 (slr true 1 Af)) r.1, V.bool r.2]) (by rfl) h (fun r h => Lj h) (fun r1 h => ?_)
 refine Br.flip <| Br.ob h (fun p2 h => ?_) (fun p2 h => ?_)
 ·refine CallQ.rd (slr true 1 (slr true 1 Af)) (by first | rfl | simp only [V.fz, Ab, slr] | simp [Aa, V.fz, fzL, V.up, upL, Ab, Ac, Ad, slr]) (fun _ => by simp [V.noFz, B6]) h (fun r h => Agc h) (fun r3 h => ?_)
  cases h; exact (by rfl)
 refine BslQ.o (slr true 1 Af) (Aq (List Int)) (by exact fun _ => ⟨rfl, rfl⟩) (by rfl) ?_
 cases h; exact (by rfl)
end Go.Proofs.YthagmdhmgailfaaGreat.Ax
