/-
 What the functions compute, as functions on plain data, and that the program does compute it; written by program.
-/
import Derived.Test.YtidaaijecmkndaaCode
import Derived.Test.YtidaaijecmkndaaG1
import Derived.Test.YtidaaijecmkndaaG2
import Derived.Test.YtidaaijecmkndaaG3
import Derived.Test.YtidaaijecmkndaaG4
import Derived.Test.YtidaaijecmkndaaG5
import Derived.Test.YtidaaijecmkndaaG6
import Derived.Test.YtidaaijecmkndaaG9
namespace Go.Proofs.Ytidaaijecmkndaa.Ax
open Go
set_option maxRecDepth 100000
set_option maxHeartbeats 4000000
noncomputable def Dx (r1 : SCondition) (r3 : SAlgebra) : (Int × Sl1Cur) → Option ((Int × Sl1Cur) ⊕ (SOp ⊕ Sl1Cur)) := fun (x8, x5) =>
 if x8 < (↑r3.Ops.length : Int) then
 ((ask ((0 : Int) ≤ x8 ∧ x8 < (↑r3.Ops.length : Int)) <|
 if (nth r3.Ops x8.toNat).Arity = r1.Arity then
 (Bt (x5) ((2 : Int))).bind fun (r8, u9) =>
 some (r8, u9)
 else
 some (false, x5) : Option (Bool × Sl1Cur))).bind fun (q10_38, q10_5) =>
 if (q10_38) = true then
 ask ((0 : Int) ≤ x8 ∧ x8 < (↑r3.Ops.length : Int)) <|
 (Jy (nth r3.Ops x8.toNat)).bind fun r13 =>
 some (.inr (.inl r13))
 else
 ask (InI (x8 + (1 : Int))) <|
 some (.inl (x8 + (1 : Int), q10_5))
 else
 some (.inr (.inr x5))
def Hh (r1 : SCondition) (r3 : SAlgebra) : (Int × Sl1Cur) → St := fun s => [(7, A.val ((rP true (Az false)) (r3))), (8, A.val (Ae s.1)), (6, A.val ((rP true (Ag false)) (r1))), (5, A.val ((rP true (Aj false)) s.2)), (4, A.val ((rP true (Ag true)) ({ Arity := (0 : Int), Rules := Ba SRule }))), (3, A.val ((rP true (Al true)) ({ Arity := (0 : Int), Table := Ba Int })))]
def Kz (r1 : SCondition) (r3 : SAlgebra) : (SOp ⊕ Sl1Cur) → Tgt
 | (.inl s) => (Ex.ret, [2, 4, 3], [(2, A.val (Ae (r3.Size))), (4, A.val ((rP true (Ag false)) (r1))), (3, A.val ((rP true (Al true)) s))])
 | (.inr s) => ((Ex.exit 0), [6, 5, 4, 3], [(6, A.val ((rP true (Ag false)) (r1))), (5, A.val ((rP true (Aj false)) s)), (4, A.val ((rP true (Ag true)) ({ Arity := (0 : Int), Rules := Ba SRule }))), (3, A.val ((rP true (Al true)) ({ Arity := (0 : Int), Table := Ba Int })))])
theorem Sb {r1 : SCondition} {r3 : SAlgebra} (s : (Int × Sl1Cur)) (o : (Int × Sl1Cur) ⊕ (SOp ⊕ Sl1Cur)) (h : Dx r1 r3 s = some o) : vc Try.prog K4 (Er [7, 8, 6, 5, 4, 3] (Hh r1 r3) (Kz r1 r3) o) (Hh r1 r3 s) := by
 obtain ⟨x8, x5⟩ := s
 unfold Dx at h
 try dsimp only at h
 conv => whnf
 refine Cells.lit rfl rfl ?_
 conv => whnf
 refine Len.map ?_
 conv => whnf
 refine Br.od h (fun p5 h => ?_) (fun p5 h => ?_)
 ·conv => whnf
  refine CutQ.o (fun t : (Bool × Sl1Cur) => match t with | s => (Ex.normal, [38, 7, 8, 6, 5, 4, 3], [(38, A.val (V.bool s.1)), (7, A.val ((rP true (Az false)) (r3))), (8, A.val (Ae (x8))), (6, A.val ((rP true (Ag false)) (r1))), (5, A.val ((rP true (Aj false)) s.2)), (4, A.val ((rP true (Ag true)) ({ Arity := (0 : Int), Rules := Ba SRule }))), (3, A.val ((rP true (Al true)) ({ Arity := (0 : Int), Table := Ba Int })))])) h ?_ ?_
  ·intro t h
   conv => whnf
   refine Cells.lit rfl rfl ?_
   conv => whnf
   refine Len.map ?_
   conv => whnf
   refine Ask.o h fun p6 h => ?_
   conv => whnf
   refine Elem.o (by first | omega | (simp [A1] at *; omega)) ?_
   conv => whnf
   refine Cells.lit rfl rfl ?_
   conv => whnf
   refine Br.oe h (fun p7 h => ?_) (fun p7 h => ?_)
   ·conv => whnf
    refine Br.yes ?_
    conv => whnf
    refine CallQ.io V.bool (rP true (Aj false)) (by first | rfl | simp only [Aa, V.fz, fzL, V.up, upL, Ab, Ac, Ad, slr, List.cons_append, List.nil_append] | simp [Aa, V.fz, fzL, V.up, upL, Ab, Ac, Ad, slr]) rfl (fun _ => rfl) (fun _ => ⟨rfl, rfl⟩) rfl h (fun r h => Fq h) (fun r8 u9 h => ?_)
    conv => whnf
    refine Br.yes ?_
    conv => whnf
    cases h; exact ⟨rfl, rfl⟩
   conv => whnf
   refine Br.no ?_
   conv => whnf
   refine Br.no ?_
   conv => whnf
   cases h; exact ⟨rfl, rfl⟩
  rintro ⟨q10_38, q10_5⟩ h
  try dsimp only at h
  conv => whnf
  refine Br.ob h (fun p11 h => ?_) (fun p11 h => ?_)
  ·conv => whnf
   refine Cells.lit rfl rfl ?_
   conv => whnf
   refine Cells.lit rfl rfl ?_
   conv => whnf
   refine Len.map ?_
   conv => whnf
   refine Ask.o h fun p12 h => ?_
   conv => whnf
   refine Elem.o (by first | omega | (simp [A1] at *; omega)) ?_
   conv => whnf
   refine Cells.lit rfl rfl ?_
   conv => whnf
   refine SameQ.mk ⟨rfl, ?_⟩
   conv => whnf
   refine Cells.lit rfl rfl ?_
   conv => whnf
   refine SameQ.mk ⟨rfl, ?_⟩
   conv => whnf
   refine SameQ.mk ⟨rfl, ?_⟩
   conv => whnf
   refine Cells.lit rfl rfl ?_
   conv => whnf
   refine SameQ.mk ⟨rfl, ?_⟩
   conv => whnf
   refine SameQ.mk ⟨rfl, ?_⟩
   conv => whnf
   refine Len.map ?_
   conv => whnf
   refine Ask.mk p12 ?_
   conv => whnf
   refine Elem.o (by first | omega | (simp [A1] at *; omega)) ?_
   conv => whnf
   refine SameQ.mk ⟨rfl, ?_⟩
   conv => whnf
   refine SameQ.mk ⟨rfl, ?_⟩
   conv => whnf
   refine Cells.lit rfl rfl ?_
   conv => whnf
   refine SameQ.mk ⟨rfl, ?_⟩
   conv => whnf
   refine CallQ.o (Al true) (by first | rfl | simp only [Aa, V.fz, fzL, V.up, upL, Ab, Ac, Ad, slr, List.cons_append, List.nil_append] | simp [Aa, V.fz, fzL, V.up, upL, Ab, Ac, Ad, slr]) h (fun r h => Abe h) (fun r13 h => ?_)
   conv => whnf
   refine SameQ.mk ⟨rfl, ?_⟩
   conv => whnf
   refine Cells.lit rfl rfl ?_
   conv => whnf
   refine SameQ.mk ⟨rfl, ?_⟩
   conv => whnf
   refine Cells.lit rfl rfl ?_
   conv => whnf
   refine SameQ.mk ⟨rfl, ?_⟩
   conv => whnf
   refine Cells.lit rfl rfl ?_
   conv => whnf
   refine SameQ.mk ⟨rfl, ?_⟩
   conv => whnf
   refine SetKids.lit rfl ?_
   conv => whnf
   refine Cells.lit rfl rfl ?_
   conv => whnf
   refine SameQ.mk ⟨rfl, ?_⟩
   conv => whnf
   refine SetKids.lit rfl ?_
   conv => whnf
   cases h; exact ⟨rfl, rfl⟩
  conv => whnf
  refine Ask.o h fun p14 h => ?_
  conv => whnf
  cases h; exact ⟨rfl, rfl⟩
 conv => whnf
 cases h; exact ⟨rfl, rfl⟩
noncomputable def D0 (_r1 : SCondition) (r20 : Int) : (Int × SOp × Sl1Cur) → Option ((Int × SOp × Sl1Cur) ⊕ SOp) := fun (x11, x10, x5) =>
 if x11 > (0 : Int) then
 (Am (x5) (r20)).bind fun (r29, u30) =>
 ask ((x10.Table).length + ([r29]).length ≤ LIM) <|
 ask (InI (x11 - (1 : Int))) <|
 some (.inl (x11 - (1 : Int), { Arity := x10.Arity, Table := x10.Table ++ [r29] }, u30))
 else
 some (.inr x10)
def Hf (r1 : SCondition) (r20 : Int) : (Int × SOp × Sl1Cur) → St := fun s => [(11, A.val (Ae s.1)), (10, A.val ((rP true (Al true)) s.2.1)), (9, A.val (Ae (r20))), (6, A.val ((rP true (Ag false)) (r1))), (5, A.val ((rP true (Aj false)) s.2.2)), (4, A.val ((rP true (Ag true)) ({ Arity := (0 : Int), Rules := Ba SRule }))), (3, A.val ((rP true (Al true)) ({ Arity := (0 : Int), Table := Ba Int })))]
def K0 (r1 : SCondition) (r20 : Int) : SOp → Tgt
 | s => ((Ex.exit 2), [10, 9, 6, 4, 3], [(10, A.val ((rP true (Al true)) s)), (9, A.val (Ae (r20))), (6, A.val ((rP true (Ag false)) (r1))), (4, A.val ((rP true (Ag true)) ({ Arity := (0 : Int), Rules := Ba SRule }))), (3, A.val ((rP true (Al true)) ({ Arity := (0 : Int), Table := Ba Int })))])
theorem Sd {r1 : SCondition} {r20 : Int} (s : (Int × SOp × Sl1Cur)) (o : (Int × SOp × Sl1Cur) ⊕ SOp) (h : D0 r1 r20 s = some o) : vc Try.prog Ky (Er [11, 10, 9, 6, 5, 4, 3] (Hf r1 r20) (K0 r1 r20) o) (Hf r1 r20 s) := by
 obtain ⟨x11, x10, x5⟩ := s
 unfold D0 at h
 try dsimp only at h
 conv => whnf
 refine Br.od h (fun p28 h => ?_) (fun p28 h => ?_)
 ·conv => whnf
  refine Cells.lit rfl rfl ?_
  conv => whnf
  refine LendP.io Ae (rP true (Aj false)) (by first | rfl | simp only [Aa, V.fz, fzL, V.up, upL, Ab, Ac, Ad, slr, List.cons_append, List.nil_append] | simp [Aa, V.fz, fzL, V.up, upL, Ab, Ac, Ad, slr]) (fun _ => rfl) (fun _ => ⟨rfl, rfl⟩) (fun _ => rfl) h (fun r h => Aq h) (fun r29 u30 h => ?_)
  conv => whnf
  refine BslQ.o Ae [r29] (by exact fun _ => ⟨rfl, rfl⟩) (by first | rfl | simp only [Aa, V.fz, fzL, V.up, upL, Ab, Ac, Ad, slr, List.cons_append, List.nil_append] | simp [Aa, V.fz, fzL, V.up, upL, Ab, Ac, Ad, slr]) ?_
  conv => whnf
  refine NoOwn.o (fun _ => rfl) ?_
  conv => whnf
  refine Kid.lit rfl rfl ?_
  conv => whnf
  refine Kid.lit rfl rfl ?_
  conv => whnf
  refine SetKids.lit rfl ?_
  conv => whnf
  refine AppQ.o (m := 1) Ae (by exact fun _ => ⟨rfl, rfl⟩) (x10.Table) ([r29]) (by first | rfl | simp only [Aa, V.fz, fzL, V.up, upL, Ab, Ac, Ad, slr, List.cons_append, List.nil_append] | simp [Aa, V.fz, fzL, V.up, upL, Ab, Ac, Ad, slr]) (by first | rfl | simp only [Aa, V.fz, fzL, V.up, upL, Ab, Ac, Ad, slr, List.cons_append, List.nil_append] | simp [Aa, V.fz, fzL, V.up, upL, Ab, Ac, Ad, slr]) h fun h => ?_
  conv => whnf
  refine SetKids.lit rfl ?_
  conv => whnf
  refine Ask.o h fun p31 h => ?_
  conv => whnf
  cases h; exact ⟨rfl, rfl⟩
 conv => whnf
 cases h; exact ⟨rfl, rfl⟩
noncomputable def D9 (code0 : (List Int)) : Option (Int × SOp × SCondition) :=
 (Cu ({ code := code0, at_ := (0 : Int), seed := (0 : Int) })).bind fun (r1, u2) =>
 (Cw (u2)).bind fun (r3, u4) =>
 (Aw (Dx r1 r3) ((0 : Int), u4)).bind fun t => match t with
 | (.inl q15_3) => (some (r3.Size, q15_3, r1))
 | (.inr q15_5) => ((Am (q15_5) ((24 : Int))).bind fun (r16, u17) =>
 ask ((11 : Int) ≠ (0 : Int) ∧ InI (r16.tdiv (11 : Int))) <|
 ask (InI ((6 : Int) + r16.tdiv (11 : Int))) <|
 ask (0 ≤ (0 : Int) ∧ (0 : Int) ≤ (6 : Int) + r16.tdiv (11 : Int) ∧ (6 : Int) + r16.tdiv (11 : Int) ≤ (([(1 : Int), (2 : Int), (2 : Int), (2 : Int), (3 : Int), (4 : Int), (0 : Int), (5 : Int)].length : Nat) : Int)) <|
 (At (u17) (List.take (((6 : Int) + r16.tdiv (11 : Int)).toNat - Int.toNat (0 : Int)) (List.drop (Int.toNat (0 : Int)) [(1 : Int), (2 : Int), (2 : Int), (2 : Int), (3 : Int), (4 : Int), (0 : Int), (5 : Int)]))).bind fun (r20, u21) =>
 (((Cm (r20) ((1 : Int)) ((3 : Int))).bind fun r22 =>
 if (r22) = true then
 (Cm (r1.Arity) ((1 : Int)) ((3 : Int))).bind fun r24 =>
 some r24
 else
 some false : Option Bool)).bind fun q25_65 =>
 if (q25_65) = true then
 (Fb (r20) (r1.Arity)).bind fun r27 =>
 (Aw (D0 r1 r20) (r27, { Arity := r1.Arity, Table := Ba Int }, u21)).bind fun q32_10 =>
 some (r20, q32_10, r1)
 else
 some (r20, { Arity := r1.Arity, Table := Ba Int }, r1))
theorem Oa {code0 : (List Int)} {v : (Int × SOp × SCondition)} (h : D9 code0 = some v) : Ret Try.prog Gs [(slr false 1 (V.int IntKind.u8)) code0] ((fun r => V.tup [Ae r.1, (Al false) r.2.1, (Ag false) r.2.2]) v) := by
 refine Agf Vz (Nat.le_of_ble_eq_true rfl) ?_
 unfold D9 at h
 conv => whnf
 refine CallQ.io (Ag false) (rP true (Aj false)) (by first | rfl | simp only [Aa, V.fz, fzL, V.up, upL, Ab, Ac, Ad, slr, List.cons_append, List.nil_append] | simp [Aa, V.fz, fzL, V.up, upL, Ab, Ac, Ad, slr]) rfl (fun _ => rfl) (fun _ => ⟨rfl, rfl⟩) rfl h (fun r h => Ot h) (fun r1 u2 h => ?_)
 conv => whnf
 refine SetKids.lit rfl ?_
 conv => whnf
 refine CallQ.io (Az true) (rP true (Aj false)) (by first | rfl | simp only [Aa, V.fz, fzL, V.up, upL, Ab, Ac, Ad, slr, List.cons_append, List.nil_append] | simp [Aa, V.fz, fzL, V.up, upL, Ab, Ac, Ad, slr]) rfl (fun _ => rfl) (fun _ => ⟨rfl, rfl⟩) rfl h (fun r h => Ox h) (fun r3 u4 h => ?_)
 conv => whnf
 refine SetKids.lit rfl ?_
 conv => whnf
 refine FrzQ.d (V.ptr true (V.agg [V.int IntKind.i64 r3.Size, V.sl false (2 : Nat) (List.map (Al false) r3.Ops)])) (by first | (simp only [V.fzAt, Jt]; done) | exact Eq.trans (b := V.ptr true (V.agg [V.int IntKind.i64 r3.Size, (V.sl true (2 : Nat) (List.map (Al true) r3.Ops)).fz])) rfl (by simp only [Ac])) ?_
 conv => whnf
 refine LoopQ.o [7, 8, 6, 5, 4, 3] (Hh r1 r3) (Kz r1 r3) h (fun s o h => Sb s o h) (by first | rfl | simp [restrict, look, Aa, V.fz, fzL, V.up, upL, Ab, Ac, Ad, slr]) (by rintro (_ | _) <;> rfl) ?_
 rintro (q15_3 | q15_5) h
 ·try dsimp only at h
  conv => whnf
  cases h; exact (by first | rfl | simp only [Ah, V.fz, fzL, V.up, upL, Ab, slr] | simp [Ah, Aa, V.fz, fzL, V.up, upL, Ab, Ac, Ad, slr])
 try dsimp only at h
 conv => whnf
 refine BslQ.o Ae ([(1 : Int), (2 : Int), (2 : Int), (2 : Int), (3 : Int), (4 : Int), (0 : Int), (5 : Int)]) (by exact fun _ => ⟨rfl, rfl⟩) (by first | rfl | simp only [Aa, V.fz, fzL, V.up, upL, Ab, Ac, Ad, slr, List.cons_append, List.nil_append] | simp [Aa, V.fz, fzL, V.up, upL, Ab, Ac, Ad, slr]) ?_
 conv => whnf
 refine CallQ.io Ae (rP true (Aj false)) (by first | rfl | simp only [Aa, V.fz, fzL, V.up, upL, Ab, Ac, Ad, slr, List.cons_append, List.nil_append] | simp [Aa, V.fz, fzL, V.up, upL, Ab, Ac, Ad, slr]) rfl (fun _ => rfl) (fun _ => ⟨rfl, rfl⟩) rfl h (fun r h => Aq h) (fun r16 u17 h => ?_)
 conv => whnf
 refine Ask.o h fun p18 h => ?_
 conv => whnf
 refine Ask.o h fun p19 h => ?_
 conv => whnf
 refine SlcQ.lst (xs := [(1 : Int), (2 : Int), (2 : Int), (2 : Int), (3 : Int), (4 : Int), (0 : Int), (5 : Int)]) Ae (by first | rfl | simp only [Aa, V.fz, fzL, V.up, upL, Ab, Ac, Ad, slr, List.cons_append, List.nil_append] | simp [Aa, V.fz, fzL, V.up, upL, Ab, Ac, Ad, slr]) h fun h => ?_
 conv => whnf
 refine CallQ.io Ae (rP true (Aj false)) (by first | rfl | simp only [Aa, V.fz, fzL, V.up, upL, Ab, Ac, Ad, slr, List.cons_append, List.nil_append] | simp [Aa, V.fz, fzL, V.up, upL, Ab, Ac, Ad, slr]) rfl (fun _ => rfl) (fun _ => ⟨rfl, rfl⟩) rfl h (fun r h => A3 h) (fun r20 u21 h => ?_)
 conv => whnf
 refine Cells.lit rfl rfl ?_
 conv => whnf
 refine SetKids.lit rfl ?_
 conv => whnf
 refine CutQ.o (fun t : Bool => match t with | s => (Ex.normal, [65, 10, 9, 6, 5, 4, 3], [(65, A.val (V.bool s)), (10, A.val ((rP true (Al true)) ({ Arity := r1.Arity, Table := Ba Int }))), (9, A.val (Ae (r20))), (6, A.val ((rP true (Ag false)) (r1))), (5, A.val ((rP true (Aj false)) (u21))), (4, A.val ((rP true (Ag true)) ({ Arity := (0 : Int), Rules := Ba SRule }))), (3, A.val ((rP true (Al true)) ({ Arity := (0 : Int), Table := Ba Int })))])) h ?_ ?_
 ·intro t h
  conv => whnf
  refine CallQ.o V.bool (by first | rfl | simp only [Aa, V.fz, fzL, V.up, upL, Ab, Ac, Ad, slr, List.cons_append, List.nil_append] | simp [Aa, V.fz, fzL, V.up, upL, Ab, Ac, Ad, slr]) h (fun r h => E8 h) (fun r22 h => ?_)
  conv => whnf
  refine Br.ob h (fun p23 h => ?_) (fun p23 h => ?_)
  ·conv => whnf
   refine Br.yes ?_
   conv => whnf
   refine Cells.lit rfl rfl ?_
   conv => whnf
   refine Br.yes ?_
   conv => whnf
   refine CallQ.o V.bool (by first | rfl | simp only [Aa, V.fz, fzL, V.up, upL, Ab, Ac, Ad, slr, List.cons_append, List.nil_append] | simp [Aa, V.fz, fzL, V.up, upL, Ab, Ac, Ad, slr]) h (fun r h => E8 h) (fun r24 h => ?_)
   conv => whnf
   refine Br.yes ?_
   conv => whnf
   cases h; exact ⟨rfl, rfl⟩
  conv => whnf
  refine Br.no ?_
  conv => whnf
  refine Br.no ?_
  conv => whnf
  refine Br.no ?_
  conv => whnf
  cases h; exact ⟨rfl, rfl⟩
 rintro q25_65 h
 try dsimp only at h
 conv => whnf
 refine Br.ob h (fun p26 h => ?_) (fun p26 h => ?_)
 ·conv => whnf
  refine Cells.lit rfl rfl ?_
  conv => whnf
  refine CallQ.o Ae (by first | rfl | simp only [Aa, V.fz, fzL, V.up, upL, Ab, Ac, Ad, slr, List.cons_append, List.nil_append] | simp [Aa, V.fz, fzL, V.up, upL, Ab, Ac, Ad, slr]) h (fun r h => O8 h) (fun r27 h => ?_)
  conv => whnf
  refine LoopQ.o [11, 10, 9, 6, 5, 4, 3] (Hf r1 r20) (K0 r1 r20) h (fun s o h => Sd s o h) (by first | rfl | simp [restrict, look, Aa, V.fz, fzL, V.up, upL, Ab, Ac, Ad, slr]) (fun _ => rfl) ?_
  rintro q32_10 h
  try dsimp only at h
  conv => whnf
  refine Cells.lit rfl rfl ?_
  conv => whnf
  refine Cells.lit rfl rfl ?_
  conv => whnf
  refine SameQ.mk ⟨rfl, ?_⟩
  conv => whnf
  refine Cells.lit rfl rfl ?_
  conv => whnf
  refine SameQ.mk ⟨rfl, ?_⟩
  conv => whnf
  refine Cells.lit rfl rfl ?_
  conv => whnf
  refine SameQ.mk ⟨rfl, ?_⟩
  conv => whnf
  refine Cells.lit rfl rfl ?_
  conv => whnf
  refine SameQ.mk ⟨rfl, ?_⟩
  conv => whnf
  refine Cells.lit rfl rfl ?_
  conv => whnf
  refine SameQ.mk ⟨rfl, ?_⟩
  conv => whnf
  refine SetKids.lit rfl ?_
  conv => whnf
  refine Cells.lit rfl rfl ?_
  conv => whnf
  refine SameQ.mk ⟨rfl, ?_⟩
  conv => whnf
  refine SetKids.lit rfl ?_
  conv => whnf
  cases h; exact (by first | rfl | simp only [Ah, V.fz, fzL, V.up, upL, Ab, slr] | simp [Ah, Aa, V.fz, fzL, V.up, upL, Ab, Ac, Ad, slr])
 conv => whnf
 refine Cells.lit rfl rfl ?_
 conv => whnf
 refine Cells.lit rfl rfl ?_
 conv => whnf
 refine SameQ.mk ⟨rfl, ?_⟩
 conv => whnf
 refine Cells.lit rfl rfl ?_
 conv => whnf
 refine SameQ.mk ⟨rfl, ?_⟩
 conv => whnf
 refine Cells.lit rfl rfl ?_
 conv => whnf
 refine SameQ.mk ⟨rfl, ?_⟩
 conv => whnf
 refine Cells.lit rfl rfl ?_
 conv => whnf
 refine SameQ.mk ⟨rfl, ?_⟩
 conv => whnf
 refine Cells.lit rfl rfl ?_
 conv => whnf
 refine SameQ.mk ⟨rfl, ?_⟩
 conv => whnf
 refine SetKids.lit rfl ?_
 conv => whnf
 refine Cells.lit rfl rfl ?_
 conv => whnf
 refine SameQ.mk ⟨rfl, ?_⟩
 conv => whnf
 refine SetKids.lit rfl ?_
 conv => whnf
 cases h; exact (by first | rfl | simp only [Ah, Aa, V.fz, fzL, V.up, upL, Ab, Ac, Ad, slr] | simp [Ah, Aa, V.fz, fzL, V.up, upL, Ab, Ac, Ad, slr])
noncomputable def Iy (n0 : Int) (f0 : SOp) (c0 : SCondition) : Option (Bool × Bool) :=
 (Cn (n0) (f0) (c0)).bind fun r1 =>
 if (r1) = true then
 (Gr (n0) (f0.Table) (c0)).bind fun r3 =>
 (Cd (c0)).bind fun r4 =>
 (E0 (n0) (r3) (c0) (r4)).bind fun r5 =>
 some (r5, true)
 else
 some (false, false)
theorem Adq {n0 : Int} {f0 : SOp} {c0 : SCondition} {v : (Bool × Bool)} (h : Iy n0 f0 c0 = some v) : Ret Try.prog O3 [Ae n0, (Al false) f0, (Ag false) c0] ((fun r => V.tup [V.bool r.1, V.bool r.2]) v) := by
 refine Bg Adf (Nat.le_of_ble_eq_true rfl) ?_
 unfold Iy at h
 conv => whnf
 refine Cells.lit rfl rfl ?_
 conv => whnf
 refine Cells.lit rfl rfl ?_
 conv => whnf
 refine CallQ.o V.bool (by first | rfl | simp only [Aa, V.fz, fzL, V.up, upL, Ab, Ac, Ad, slr, List.cons_append, List.nil_append] | simp [Aa, V.fz, fzL, V.up, upL, Ab, Ac, Ad, slr]) h (fun r h => Kc h) (fun r1 h => ?_)
 conv => whnf
 refine Br.flip ?_
 conv => whnf
 refine Br.ob h (fun p2 h => ?_) (fun p2 h => ?_)
 ·conv => whnf
  refine Cells.lit rfl rfl ?_
  conv => whnf
  refine Cells.lit rfl rfl ?_
  conv => whnf
  refine CallP.o (slr true 1 Ae) (by first | rfl | simp only [Aa, V.fz, fzL, V.up, upL, Ab, Ac, Ad, slr, List.cons_append, List.nil_append] | simp [Aa, V.fz, fzL, V.up, upL, Ab, Ac, Ad, slr]) h (fun r h => U5 h) (fun r3 h => ?_)
  conv => whnf
  refine Cells.lit rfl rfl ?_
  conv => whnf
  refine Cells.lit rfl rfl ?_
  conv => whnf
  refine CallP.o (slr true 1 (slr true 1 Ae)) (by first | rfl | simp only [Aa, V.fz, fzL, V.up, upL, Ab, Ac, Ad, slr, List.cons_append, List.nil_append] | simp [Aa, V.fz, fzL, V.up, upL, Ab, Ac, Ad, slr]) h (fun r h => Gb h) (fun r4 h => ?_)
  conv => whnf
  refine CallQ.rd V.bool (by first | rfl | simp only [V.fz, fzL, V.up, Ab, Ad, slr] | simp [Aa, V.fz, fzL, V.up, upL, Ab, Ac, Ad, slr]) (fun _ => rfl) h (fun r h => P0 h) (fun r5 h => ?_)
  conv => whnf
  cases h; exact (by first | rfl | simp only [Ah, Aa, V.fz, fzL, V.up, upL, Ab, Ac, Ad, slr] | simp [Ah, Aa, V.fz, fzL, V.up, upL, Ab, Ac, Ad, slr])
 conv => whnf
 cases h; exact (by first | rfl | simp only [Ah, Aa, V.fz, fzL, V.up, upL, Ab, Ac, Ad, slr] | simp [Ah, Aa, V.fz, fzL, V.up, upL, Ab, Ac, Ad, slr])
noncomputable def Il (n0 : Int) (f0 : SOp) (c0 : SCondition) : Option (Bool × Bool) :=
 (Dp (n0) (f0) (c0)).bind fun r1 =>
 if (r1) = true then
 (Bf (c0)).bind fun r3 =>
 (D6 (n0) (f0) (r3)).bind fun r4 =>
 (Ez (n0) (r4) (c0) (r3)).bind fun r5 =>
 some (r5, true)
 else
 some (false, false)
theorem Acx {n0 : Int} {f0 : SOp} {c0 : SCondition} {v : (Bool × Bool)} (h : Il n0 f0 c0 = some v) : Ret Try.prog Pc [Ae n0, (Al false) f0, (Ag false) c0] ((fun r => V.tup [V.bool r.1, V.bool r.2]) v) := by
 refine Bg Adj (Nat.le_of_ble_eq_true rfl) ?_
 unfold Il at h
 conv => whnf
 refine Cells.lit rfl rfl ?_
 conv => whnf
 refine Cells.lit rfl rfl ?_
 conv => whnf
 refine CallQ.o V.bool (by first | rfl | simp only [Aa, V.fz, fzL, V.up, upL, Ab, Ac, Ad, slr, List.cons_append, List.nil_append] | simp [Aa, V.fz, fzL, V.up, upL, Ab, Ac, Ad, slr]) h (fun r h => Kw h) (fun r1 h => ?_)
 conv => whnf
 refine Br.flip ?_
 conv => whnf
 refine Br.ob h (fun p2 h => ?_) (fun p2 h => ?_)
 ·conv => whnf
  refine Cells.lit rfl rfl ?_
  conv => whnf
  refine CallQ.o (slr true 1 (slr true 1 Ae)) (by first | rfl | simp only [Aa, V.fz, fzL, V.up, upL, Ab, Ac, Ad, slr, List.cons_append, List.nil_append] | simp [Aa, V.fz, fzL, V.up, upL, Ab, Ac, Ad, slr]) h (fun r h => Da h) (fun r3 h => ?_)
  conv => whnf
  refine Cells.lit rfl rfl ?_
  conv => whnf
  refine CallP.rd (slr true 1 Ae) (by first | rfl | simp only [V.fz, fzL, V.up, Ab, Ad, slr] | simp [Aa, V.fz, fzL, V.up, upL, Ab, Ac, Ad, slr]) (fun _ => by simp [V.noFz, Bo]) h (fun r h => Nn h) (fun r4 h => ?_)
  conv => whnf
  refine Cells.lit rfl rfl ?_
  conv => whnf
  refine CallQ.rd V.bool (by first | rfl | simp only [V.fz, fzL, V.up, Ab, Ad, slr] | simp [Aa, V.fz, fzL, V.up, upL, Ab, Ac, Ad, slr]) (fun _ => rfl) h (fun r h => P2 h) (fun r5 h => ?_)
  conv => whnf
  cases h; exact (by first | rfl | simp only [Ah, Aa, V.fz, fzL, V.up, upL, Ab, Ac, Ad, slr] | simp [Ah, Aa, V.fz, fzL, V.up, upL, Ab, Ac, Ad, slr])
 conv => whnf
 cases h; exact (by first | rfl | simp only [Ah, Aa, V.fz, fzL, V.up, upL, Ab, Ac, Ad, slr] | simp [Ah, Aa, V.fz, fzL, V.up, upL, Ab, Ac, Ad, slr])
noncomputable def Di (n0 : Int) (f0 : SOp) (c0 : SCondition) : Option ((List Int) × Bool) :=
 (Cn (n0) (f0) (c0)).bind fun r1 =>
 if (r1) = true then
 (Gr (n0) (f0.Table) (c0)).bind fun r3 =>
 some (r3, true)
 else
 some (Ba Int, false)
theorem Qu {n0 : Int} {f0 : SOp} {c0 : SCondition} {v : ((List Int) × Bool)} (h : Di n0 f0 c0 = some v) : Ret Try.prog Gl [Ae n0, (Al false) f0, (Ag false) c0] ((fun r => V.tup [(slr true 1 Ae) r.1, V.bool r.2]) v) := by
 refine Bg Rq (Nat.le_of_ble_eq_true rfl) ?_
 unfold Di at h
 conv => whnf
 refine Cells.lit rfl rfl ?_
 conv => whnf
 refine Cells.lit rfl rfl ?_
 conv => whnf
 refine CallQ.o V.bool (by first | rfl | simp only [Aa, V.fz, fzL, V.up, upL, Ab, Ac, Ad, slr, List.cons_append, List.nil_append] | simp [Aa, V.fz, fzL, V.up, upL, Ab, Ac, Ad, slr]) h (fun r h => Kc h) (fun r1 h => ?_)
 conv => whnf
 refine Br.flip ?_
 conv => whnf
 refine Br.ob h (fun p2 h => ?_) (fun p2 h => ?_)
 ·conv => whnf
  refine Cells.lit rfl rfl ?_
  conv => whnf
  refine Cells.lit rfl rfl ?_
  conv => whnf
  refine CallQ.o (slr true 1 Ae) (by first | rfl | simp only [Aa, V.fz, fzL, V.up, upL, Ab, Ac, Ad, slr, List.cons_append, List.nil_append] | simp [Aa, V.fz, fzL, V.up, upL, Ab, Ac, Ad, slr]) h (fun r h => U5 h) (fun r3 h => ?_)
  conv => whnf
  cases h; exact (by first | rfl | simp only [Ah, Aa, V.fz, fzL, V.up, upL, Ab, Ac, Ad, slr] | simp [Ah, Aa, V.fz, fzL, V.up, upL, Ab, Ac, Ad, slr])
 conv => whnf
 refine BslQ.o Ae (Ba Int) (by exact fun _ => ⟨rfl, rfl⟩) (by first | rfl | simp only [Aa, V.fz, fzL, V.up, upL, Ab, Ac, Ad, slr, List.cons_append, List.nil_append] | simp [Aa, V.fz, fzL, V.up, upL, Ab, Ac, Ad, slr]) ?_
 conv => whnf
 cases h; exact (by first | rfl | simp only [Ah, Aa, V.fz, fzL, V.up, upL, Ab, Ac, Ad, slr] | simp [Ah, Aa, V.fz, fzL, V.up, upL, Ab, Ac, Ad, slr])
noncomputable def Dg (n0 : Int) (f0 : SOp) (c0 : SCondition) : Option ((List Int) × Bool) :=
 (Dp (n0) (f0) (c0)).bind fun r1 =>
 if (r1) = true then
 (Bf (c0)).bind fun r3 =>
 (D6 (n0) (f0) (r3)).bind fun r4 =>
 some (r4, true)
 else
 some (Ba Int, false)
theorem Re {n0 : Int} {f0 : SOp} {c0 : SCondition} {v : ((List Int) × Bool)} (h : Dg n0 f0 c0 = some v) : Ret Try.prog Gj [Ae n0, (Al false) f0, (Ag false) c0] ((fun r => V.tup [(slr true 1 Ae) r.1, V.bool r.2]) v) := by
 refine Bg Qw (Nat.le_of_ble_eq_true rfl) ?_
 unfold Dg at h
 conv => whnf
 refine Cells.lit rfl rfl ?_
 conv => whnf
 refine Cells.lit rfl rfl ?_
 conv => whnf
 refine CallQ.o V.bool (by first | rfl | simp only [Aa, V.fz, fzL, V.up, upL, Ab, Ac, Ad, slr, List.cons_append, List.nil_append] | simp [Aa, V.fz, fzL, V.up, upL, Ab, Ac, Ad, slr]) h (fun r h => Kw h) (fun r1 h => ?_)
 conv => whnf
 refine Br.flip ?_
 conv => whnf
 refine Br.ob h (fun p2 h => ?_) (fun p2 h => ?_)
 ·conv => whnf
  refine Cells.lit rfl rfl ?_
  conv => whnf
  refine Cells.lit rfl rfl ?_
  conv => whnf
  refine CallP.o (slr true 1 (slr true 1 Ae)) (by first | rfl | simp only [Aa, V.fz, fzL, V.up, upL, Ab, Ac, Ad, slr, List.cons_append, List.nil_append] | simp [Aa, V.fz, fzL, V.up, upL, Ab, Ac, Ad, slr]) h (fun r h => Da h) (fun r3 h => ?_)
  conv => whnf
  refine CallQ.rd (slr true 1 Ae) (by first | rfl | simp only [V.fz, fzL, V.up, Ab, Ad, slr] | simp [Aa, V.fz, fzL, V.up, upL, Ab, Ac, Ad, slr]) (fun _ => by simp [V.noFz, Bo]) h (fun r h => Nn h) (fun r4 h => ?_)
  conv => whnf
  cases h; exact (by first | rfl | simp only [Ah, Aa, V.fz, fzL, V.up, upL, Ab, Ac, Ad, slr] | simp [Ah, Aa, V.fz, fzL, V.up, upL, Ab, Ac, Ad, slr])
 conv => whnf
 refine BslQ.o Ae (Ba Int) (by exact fun _ => ⟨rfl, rfl⟩) (by first | rfl | simp only [Aa, V.fz, fzL, V.up, upL, Ab, Ac, Ad, slr, List.cons_append, List.nil_append] | simp [Aa, V.fz, fzL, V.up, upL, Ab, Ac, Ad, slr]) ?_
 conv => whnf
 cases h; exact (by first | rfl | simp only [Ah, Aa, V.fz, fzL, V.up, upL, Ab, Ac, Ad, slr] | simp [Ah, Aa, V.fz, fzL, V.up, upL, Ab, Ac, Ad, slr])
noncomputable def Dz (code0 : (List Int)) : Option (Int × (List Int) × SCondition) :=
 (D9 (code0)).bind fun r1 =>
 (((Dp (r1.fst) (r1.snd.fst) (r1.snd.snd)).bind fun r2 =>
 if (r2) = true then
 (Bf (r1.snd.snd)).bind fun r4 =>
 (D6 (r1.fst) (r1.snd.fst) (r4)).bind fun r5 =>
 some r5
 else
 some (Ba Int) : Option (List Int))).bind fun q6_9 =>
 (Am ({ code := code0, at_ := (0 : Int), seed := (0 : Int) }) ((10 : Int))).bind fun (r7, u8) =>
 if r7 = (0 : Int) then
 ask ((q6_9).length + ([(0 : Int)]).length ≤ LIM) <|
 some (r1.fst, q6_9 ++ [(0 : Int)], r1.snd.snd)
 else
 if r7 = (1 : Int) then
 if (↑q6_9.length : Int) > (0 : Int) then
 (Am (u8) ((↑q6_9.length : Int))).bind fun (r12, u13) =>
 (At (u13) ([(-1 : Int), r1.fst, (0 : Int), (1 : Int)])).bind fun (r14, _u15) =>
 ask ((0 : Int) ≤ r12 ∧ r12 < (↑q6_9.length : Int)) <|
 some (r1.fst, q6_9.set r12.toNat r14, r1.snd.snd)
 else
 some (r1.fst, q6_9, r1.snd.snd)
 else
 some (r1.fst, q6_9, r1.snd.snd)
theorem R7 {code0 : (List Int)} {v : (Int × (List Int) × SCondition)} (h : Dz code0 = some v) : Ret Try.prog Hg [(slr false 1 (V.int IntKind.u8)) code0] ((fun r => V.tup [Ae r.1, (slr false 1 Ae) r.2.1, (Ag false) r.2.2]) v) := by
 refine Agf R9 (Nat.le_of_ble_eq_true rfl) ?_
 unfold Dz at h
 conv => whnf
 refine CallQ.o (fun r => V.tup [Ae r.1, (Al false) r.2.1, (Ag false) r.2.2]) (by first | rfl | simp only [Aa, V.fz, fzL, V.up, upL, Ab, Ac, Ad, slr, List.cons_append, List.nil_append] | simp [Aa, V.fz, fzL, V.up, upL, Ab, Ac, Ad, slr]) h (fun r h => Oa h) (fun r1 h => ?_)
 conv => whnf
 refine SetKids.lit rfl ?_
 conv => whnf
 refine SetKids.lit rfl ?_
 conv => whnf
 refine BslQ.o Ae (Ba Int) (by exact fun _ => ⟨rfl, rfl⟩) (by first | rfl | simp only [Aa, V.fz, fzL, V.up, upL, Ab, Ac, Ad, slr, List.cons_append, List.nil_append] | simp [Aa, V.fz, fzL, V.up, upL, Ab, Ac, Ad, slr]) ?_
 conv => whnf
 refine CutQ.o (fun t : (List Int) => match t with | s => (Ex.normal, [9, 6, 8, 5, 4], [(9, A.val ((slr true 1 Ae) s)), (6, A.val (Ae (r1.fst))), (8, A.val ((rP true (Ag false)) (r1.snd.snd))), (5, A.val ((rP true (Aj false)) ({ code := code0, at_ := (0 : Int), seed := (0 : Int) }))), (4, A.val ((rP true (Ag true)) ({ Arity := (0 : Int), Rules := Ba SRule })))])) h ?_ ?_
 ·intro t h
  conv => whnf
  refine Cells.lit rfl rfl ?_
  conv => whnf
  refine Cells.lit rfl rfl ?_
  conv => whnf
  refine CallQ.o V.bool (by first | rfl | simp only [Aa, V.fz, fzL, V.up, upL, Ab, Ac, Ad, slr, List.cons_append, List.nil_append] | simp [Aa, V.fz, fzL, V.up, upL, Ab, Ac, Ad, slr]) h (fun r h => Kw h) (fun r2 h => ?_)
  conv => whnf
  refine Br.ob h (fun p3 h => ?_) (fun p3 h => ?_)
  ·conv => whnf
   refine Cells.lit rfl rfl ?_
   conv => whnf
   refine Cells.lit rfl rfl ?_
   conv => whnf
   refine CallP.o (slr true 1 (slr true 1 Ae)) (by first | rfl | simp only [Aa, V.fz, fzL, V.up, upL, Ab, Ac, Ad, slr, List.cons_append, List.nil_append] | simp [Aa, V.fz, fzL, V.up, upL, Ab, Ac, Ad, slr]) h (fun r h => Da h) (fun r4 h => ?_)
   conv => whnf
   refine CallQ.rd (slr true 1 Ae) (by first | rfl | simp only [V.fz, fzL, V.up, Ab, Ad, slr] | simp [Aa, V.fz, fzL, V.up, upL, Ab, Ac, Ad, slr]) (fun _ => by simp [V.noFz, Bo]) h (fun r h => Nn h) (fun r5 h => ?_)
   conv => whnf
   cases h; exact ⟨rfl, rfl⟩
  conv => whnf
  cases h; exact ⟨rfl, rfl⟩
 rintro q6_9 h
 try dsimp only at h
 conv => whnf
 refine CallQ.io Ae (rP true (Aj false)) (by first | rfl | simp only [Aa, V.fz, fzL, V.up, upL, Ab, Ac, Ad, slr, List.cons_append, List.nil_append] | simp [Aa, V.fz, fzL, V.up, upL, Ab, Ac, Ad, slr]) rfl (fun _ => rfl) (fun _ => ⟨rfl, rfl⟩) rfl h (fun r h => Aq h) (fun r7 u8 h => ?_)
 conv => whnf
 refine Br.oe h (fun p9 h => ?_) (fun p9 h => ?_)
 ·conv => whnf
  refine BslQ.o Ae ([(0 : Int)]) (by exact fun _ => ⟨rfl, rfl⟩) (by first | rfl | simp only [Aa, V.fz, fzL, V.up, upL, Ab, Ac, Ad, slr, List.cons_append, List.nil_append] | simp [Aa, V.fz, fzL, V.up, upL, Ab, Ac, Ad, slr]) ?_
  conv => whnf
  refine NoOwn.o (fun _ => rfl) ?_
  conv => whnf
  refine AppQ.o (m := 1) Ae (by exact fun _ => ⟨rfl, rfl⟩) (q6_9) ([(0 : Int)]) (by first | rfl | simp only [Aa, V.fz, fzL, V.up, upL, Ab, Ac, Ad, slr, List.cons_append, List.nil_append] | simp [Aa, V.fz, fzL, V.up, upL, Ab, Ac, Ad, slr]) (by first | rfl | simp only [Aa, V.fz, fzL, V.up, upL, Ab, Ac, Ad, slr, List.cons_append, List.nil_append] | simp [Aa, V.fz, fzL, V.up, upL, Ab, Ac, Ad, slr]) h fun h => ?_
  conv => whnf
  refine Cells.lit rfl rfl ?_
  conv => whnf
  refine SameQ.mk ⟨rfl, ?_⟩
  conv => whnf
  refine SameQ.mk ⟨rfl, ?_⟩
  conv => whnf
  refine Cells.lit rfl rfl ?_
  conv => whnf
  refine SameQ.mk ⟨rfl, ?_⟩
  conv => whnf
  refine SameQ.mk ⟨rfl, ?_⟩
  conv => whnf
  refine Cells.lit rfl rfl ?_
  conv => whnf
  refine SameQ.mk ⟨rfl, ?_⟩
  conv => whnf
  refine Cells.lit rfl rfl ?_
  conv => whnf
  refine SameQ.mk ⟨rfl, ?_⟩
  conv => whnf
  refine SetKids.lit rfl ?_
  conv => whnf
  cases h; exact (by first | rfl | simp only [Ah, V.fz, fzL, V.up, upL, Ab, slr] | simp [Ah, Aa, V.fz, fzL, V.up, upL, Ab, Ac, Ad, slr])
 conv => whnf
 refine Br.oe h (fun p10 h => ?_) (fun p10 h => ?_)
 ·conv => whnf
  refine Len.map ?_
  conv => whnf
  refine Br.od h (fun p11 h => ?_) (fun p11 h => ?_)
  ·conv => whnf
   refine Len.map ?_
   conv => whnf
   refine CallQ.io Ae (rP true (Aj false)) (by first | rfl | simp only [Aa, V.fz, fzL, V.up, upL, Ab, Ac, Ad, slr, List.cons_append, List.nil_append] | simp [Aa, V.fz, fzL, V.up, upL, Ab, Ac, Ad, slr]) rfl (fun _ => rfl) (fun _ => ⟨rfl, rfl⟩) rfl h (fun r h => Aq h) (fun r12 u13 h => ?_)
   conv => whnf
   refine BslQ.o Ae ([(-1 : Int), r1.fst, (0 : Int), (1 : Int)]) (by exact fun _ => ⟨rfl, rfl⟩) (by first | rfl | simp only [Aa, V.fz, fzL, V.up, upL, Ab, Ac, Ad, slr, List.cons_append, List.nil_append] | simp [Aa, V.fz, fzL, V.up, upL, Ab, Ac, Ad, slr]) ?_
   conv => whnf
   refine CallQ.io Ae (rP true (Aj false)) (by first | rfl | simp only [Aa, V.fz, fzL, V.up, upL, Ab, Ac, Ad, slr, List.cons_append, List.nil_append] | simp [Aa, V.fz, fzL, V.up, upL, Ab, Ac, Ad, slr]) rfl (fun _ => rfl) (fun _ => ⟨rfl, rfl⟩) rfl h (fun r h => A3 h) (fun r14 u15 h => ?_)
   conv => whnf
   refine Len.map ?_
   conv => whnf
   refine Ask.o h fun p16 h => ?_
   conv => whnf
   refine SetKids.one (fun _ => ⟨rfl, rfl⟩) (r14) (by first | rfl | simp only [Aa, V.fz, fzL, V.up, upL, Ab, Ac, Ad, slr, List.cons_append, List.nil_append] | simp [Aa, V.fz, fzL, V.up, upL, Ab, Ac, Ad, slr]) (by first | omega | (simp [A1] at *; omega)) ?_
   conv => whnf
   refine Cells.lit rfl rfl ?_
   conv => whnf
   refine SameQ.mk ⟨rfl, ?_⟩
   conv => whnf
   refine SameQ.mk ⟨rfl, ?_⟩
   conv => whnf
   refine Cells.lit rfl rfl ?_
   conv => whnf
   refine SameQ.mk ⟨rfl, ?_⟩
   conv => whnf
   refine SameQ.mk ⟨rfl, ?_⟩
   conv => whnf
   refine Cells.lit rfl rfl ?_
   conv => whnf
   refine SameQ.mk ⟨rfl, ?_⟩
   conv => whnf
   refine Cells.lit rfl rfl ?_
   conv => whnf
   refine SameQ.mk ⟨rfl, ?_⟩
   conv => whnf
   refine SetKids.lit rfl ?_
   conv => whnf
   cases h; exact (by first | rfl | simp only [Ah, Aa, V.fz, fzL, V.up, upL, Ab, slr] | simp [Ah, Aa, V.fz, fzL, V.up, upL, Ab, Ac, Ad, slr])
  conv => whnf
  refine Cells.lit rfl rfl ?_
  conv => whnf
  refine SameQ.mk ⟨rfl, ?_⟩
  conv => whnf
  refine SameQ.mk ⟨rfl, ?_⟩
  conv => whnf
  refine Cells.lit rfl rfl ?_
  conv => whnf
  refine SameQ.mk ⟨rfl, ?_⟩
  conv => whnf
  refine SameQ.mk ⟨rfl, ?_⟩
  conv => whnf
  refine Cells.lit rfl rfl ?_
  conv => whnf
  refine SameQ.mk ⟨rfl, ?_⟩
  conv => whnf
  refine Cells.lit rfl rfl ?_
  conv => whnf
  refine SameQ.mk ⟨rfl, ?_⟩
  conv => whnf
  refine SetKids.lit rfl ?_
  conv => whnf
  cases h; exact (by first | rfl | simp only [Ah, V.fz, fzL, V.up, upL, Ab, slr] | simp [Ah, Aa, V.fz, fzL, V.up, upL, Ab, Ac, Ad, slr])
 conv => whnf
 refine Cells.lit rfl rfl ?_
 conv => whnf
 refine SameQ.mk ⟨rfl, ?_⟩
 conv => whnf
 refine SameQ.mk ⟨rfl, ?_⟩
 conv => whnf
 refine Cells.lit rfl rfl ?_
 conv => whnf
 refine SameQ.mk ⟨rfl, ?_⟩
 conv => whnf
 refine SameQ.mk ⟨rfl, ?_⟩
 conv => whnf
 refine Cells.lit rfl rfl ?_
 conv => whnf
 refine SameQ.mk ⟨rfl, ?_⟩
 conv => whnf
 refine Cells.lit rfl rfl ?_
 conv => whnf
 refine SameQ.mk ⟨rfl, ?_⟩
 conv => whnf
 refine SetKids.lit rfl ?_
 conv => whnf
 cases h; exact (by first | rfl | simp only [Ah, V.fz, fzL, V.up, upL, Ab, slr] | simp [Ah, Aa, V.fz, fzL, V.up, upL, Ab, Ac, Ad, slr])
end Go.Proofs.Ytidaaijecmkndaa.Ax
