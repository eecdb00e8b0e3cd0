/-
 What the functions compute, as functions on plain data, and that the program does compute it; written by program.
-/
import Derived.Test.YtjinhobffbppbaaCode
import Derived.Test.YtjinhobffbppbaaG3
import Derived.Test.YtjinhobffbppbaaG5
import Derived.Test.YtjinhobffbppbaaG6
import Derived.Test.YtjinhobffbppbaaG9
namespace Go.Proofs.Ytjinhobffbppbaa.Ax
open Go
set_option maxRecDepth 100000
set_option maxHeartbeats 4000000
noncomputable def Db (code0 : (List Int)) : Option (SAlgebra × (List Int) × Int × (List Int)) :=
 (Ch ({ code := code0, at_ := (0 : Int), seed := (0 : Int) })).bind fun (r1, u2) =>
 (Bj (u2) (r1)).bind fun (r3, u4) =>
 ask (InI ((↑r3.length : Int) + (1 : Int))) <|
 (Al (u4) ((↑r3.length : Int) + (1 : Int))).bind fun (r6, u7) =>
 (Al (u7) ((24 : Int))).bind fun (r8, u9) =>
 ask ((23 : Int) ≠ (0 : Int) ∧ InI (r8.tdiv (23 : Int))) <|
 ask (InI (r6 - r8.tdiv (23 : Int))) <|
 (Bj (u9) (r1)).bind fun (r12, _u13) =>
 some (r1, r3, r6 - r8.tdiv (23 : Int), r12)
theorem O0 {code0 : (List Int)} {v : (SAlgebra × (List Int) × Int × (List Int))} (h : Db code0 = some v) : Ret Try.prog F5 [(slr false 1 (V.int IntKind.u8)) code0] ((fun r => V.tup [(Ag false) r.1, (slr false 1 Ae) r.2.1, Ae r.2.2.1, (slr false 1 Ae) r.2.2.2]) v) := by
 refine Ti Pk (Nat.le_of_ble_eq_true rfl) ?_
 unfold Db at h
 conv => whnf
 refine CallQ.io (Ag true) (rP true (Ai false)) (by first | rfl | simp only [Aa, V.fz, fzL, V.up, upL, Ab, Ac, Ad, slr, List.cons_append, List.nil_append] | simp [Aa, V.fz, fzL, V.up, upL, Ab, Ac, Ad, slr]) rfl (fun _ => rfl) (fun _ => ⟨rfl, rfl⟩) rfl h (fun r h => Jj h) (fun r1 u2 h => ?_)
 conv => whnf
 refine SetKids.lit rfl ?_
 conv => whnf
 refine FrzQ.d (V.ptr true (V.agg [V.int IntKind.i64 r1.Size, V.sl false (2 : Nat) (List.map (Ba false) r1.Ops)])) (by first | (simp only [V.fzAt, Iv]; done) | exact Eq.trans (b := V.ptr true (V.agg [V.int IntKind.i64 r1.Size, (V.sl true (2 : Nat) (List.map (Ba true) r1.Ops)).fz])) rfl (by simp only [Ac])) ?_
 conv => whnf
 refine Cells.lit rfl rfl ?_
 conv => whnf
 refine CallQ.io (slr false 1 Ae) (rP true (Ai false)) (by first | rfl | simp only [Aa, V.fz, fzL, V.up, upL, Ab, Ac, Ad, slr, List.cons_append, List.nil_append] | simp [Aa, V.fz, fzL, V.up, upL, Ab, Ac, Ad, slr]) rfl (fun _ => rfl) (fun _ => ⟨rfl, rfl⟩) rfl h (fun r h => Di h) (fun r3 u4 h => ?_)
 conv => whnf
 refine Cells.lit rfl rfl ?_
 conv => whnf
 refine Cells.lit rfl rfl ?_
 conv => whnf
 refine Cells.lit rfl rfl ?_
 conv => whnf
 refine SameQ.mk ⟨rfl, ?_⟩
 conv => whnf
 refine SameQ.mk ⟨rfl, ?_⟩
 conv => whnf
 refine SameQ.mk ⟨rfl, ?_⟩
 conv => whnf
 refine SameQ.mk ⟨rfl, ?_⟩
 conv => whnf
 refine SameQ.mk ⟨rfl, ?_⟩
 conv => whnf
 refine SameQ.mk ⟨rfl, ?_⟩
 conv => whnf
 refine Cells.lit rfl rfl ?_
 conv => whnf
 refine SameQ.mk ⟨rfl, ?_⟩
 conv => whnf
 refine Len.map ?_
 conv => whnf
 refine Cells.lit rfl rfl ?_
 conv => whnf
 refine SameQ.mk ⟨rfl, ?_⟩
 conv => whnf
 refine SameQ.mk ⟨rfl, ?_⟩
 conv => whnf
 refine SameQ.mk ⟨rfl, ?_⟩
 conv => whnf
 refine SameQ.mk ⟨rfl, ?_⟩
 conv => whnf
 refine SameQ.mk ⟨rfl, ?_⟩
 conv => whnf
 refine Cells.lit rfl rfl ?_
 conv => whnf
 refine SameQ.mk ⟨rfl, ?_⟩
 conv => whnf
 refine Ask.o h fun p5 h => ?_
 conv => whnf
 refine Cells.lit rfl rfl ?_
 conv => whnf
 refine SameQ.mk ⟨rfl, ?_⟩
 conv => whnf
 refine SameQ.mk ⟨rfl, ?_⟩
 conv => whnf
 refine SameQ.mk ⟨rfl, ?_⟩
 conv => whnf
 refine SameQ.mk ⟨rfl, ?_⟩
 conv => whnf
 refine SameQ.mk ⟨rfl, ?_⟩
 conv => whnf
 refine Cells.lit rfl rfl ?_
 conv => whnf
 refine SameQ.mk ⟨rfl, ?_⟩
 conv => whnf
 refine CallQ.io Ae (rP true (Ai false)) (by first | rfl | simp only [Aa, V.fz, fzL, V.up, upL, Ab, Ac, Ad, slr, List.cons_append, List.nil_append] | simp [Aa, V.fz, fzL, V.up, upL, Ab, Ac, Ad, slr]) rfl (fun _ => rfl) (fun _ => ⟨rfl, rfl⟩) rfl h (fun r h => Aq h) (fun r6 u7 h => ?_)
 conv => whnf
 refine Cells.lit rfl rfl ?_
 conv => whnf
 refine SameQ.mk ⟨rfl, ?_⟩
 conv => whnf
 refine SameQ.mk ⟨rfl, ?_⟩
 conv => whnf
 refine SameQ.mk ⟨rfl, ?_⟩
 conv => whnf
 refine SameQ.mk ⟨rfl, ?_⟩
 conv => whnf
 refine Cells.lit rfl rfl ?_
 conv => whnf
 refine SameQ.mk ⟨rfl, ?_⟩
 conv => whnf
 refine CallQ.io Ae (rP true (Ai false)) (by first | rfl | simp only [Aa, V.fz, fzL, V.up, upL, Ab, Ac, Ad, slr, List.cons_append, List.nil_append] | simp [Aa, V.fz, fzL, V.up, upL, Ab, Ac, Ad, slr]) rfl (fun _ => rfl) (fun _ => ⟨rfl, rfl⟩) rfl h (fun r h => Aq h) (fun r8 u9 h => ?_)
 conv => whnf
 obtain ⟨p14, h⟩ := Bz.1 h
 obtain ⟨p15, h⟩ := Bz.1 h
 obtain ⟨⟨r12, u13⟩, e16, h⟩ := Option.bind_eq_some_iff.1 h
 try dsimp only at h
 refine Two.mk ⟨?_, ?_⟩
 ·conv => whnf
  refine Cells.lit rfl rfl ?_
  conv => whnf
  refine SameQ.mk ⟨rfl, ?_⟩
  conv => whnf
  refine SameQ.mk ⟨rfl, ?_⟩
  conv => whnf
  refine SameQ.mk ⟨rfl, ?_⟩
  conv => whnf
  refine Cells.lit rfl rfl ?_
  conv => whnf
  refine SameQ.mk ⟨rfl, ?_⟩
  conv => whnf
  refine Ask.mk p14 ?_
  conv => whnf
  refine Two.mk ⟨?_, ?_⟩
  ·conv => whnf
   refine Cells.lit rfl rfl ?_
   conv => whnf
   refine SameQ.mk ⟨rfl, ?_⟩
   conv => whnf
   refine SameQ.mk ⟨rfl, ?_⟩
   conv => whnf
   refine SameQ.mk ⟨rfl, ?_⟩
   conv => whnf
   refine Cells.lit rfl rfl ?_
   conv => whnf
   refine SameQ.mk ⟨rfl, ?_⟩
   conv => whnf
   refine Ask.mk p15 ?_
   conv => whnf
   refine Cells.lit rfl rfl ?_
   conv => whnf
   refine SameQ.mk ⟨rfl, ?_⟩
   conv => whnf
   refine SameQ.mk ⟨rfl, ?_⟩
   conv => whnf
   refine SameQ.mk ⟨rfl, ?_⟩
   conv => whnf
   refine Cells.lit rfl rfl ?_
   conv => whnf
   refine SameQ.mk ⟨rfl, ?_⟩
   conv => whnf
   refine CallQ.io (slr false 1 Ae) (rP true (Ai false)) (by first | rfl | simp only [Aa, V.fz, fzL, V.up, upL, Ab, Ac, Ad, slr, List.cons_append, List.nil_append] | simp [Aa, V.fz, fzL, V.up, upL, Ab, Ac, Ad, slr]) rfl (fun _ => rfl) (fun _ => ⟨rfl, rfl⟩) rfl (show Option.bind (Bj (u9) (r1)) some = some (r12, u13) by rw [e16]; rfl) (fun r h => Di h) (fun b17 c18 hb => ?_)
   obtain ⟨rfl, rfl⟩ : r12 = b17 ∧ u13 = c18 := by cases hb; exact ⟨rfl, rfl⟩
   conv => whnf
   refine Cells.lit rfl rfl ?_
   conv => whnf
   refine SameQ.mk ⟨rfl, ?_⟩
   conv => whnf
   refine SameQ.mk ⟨rfl, ?_⟩
   conv => whnf
   refine SetKids.lit rfl ?_
   conv => whnf
   refine SameQ.mk ⟨rfl, ?_⟩
   conv => whnf
   cases h; exact (by first | rfl | simp only [Ah, Aa, V.fz, fzL, V.up, upL, Ab, Ac, Ad, slr] | simp [Ah, Aa, V.fz, fzL, V.up, upL, Ab, Ac, Ad, slr])
  conv => whnf
  refine Cells.lit rfl rfl ?_
  conv => whnf
  refine SameQ.mk ⟨rfl, ?_⟩
  conv => whnf
  refine SameQ.mk ⟨rfl, ?_⟩
  conv => whnf
  refine SameQ.mk ⟨rfl, ?_⟩
  conv => whnf
  refine Cells.lit rfl rfl ?_
  conv => whnf
  refine SameQ.mk ⟨rfl, ?_⟩
  conv => whnf
  refine CallQ.io (slr false 1 Ae) (rP true (Ai false)) (by first | rfl | simp only [Aa, V.fz, fzL, V.up, upL, Ab, Ac, Ad, slr, List.cons_append, List.nil_append] | simp [Aa, V.fz, fzL, V.up, upL, Ab, Ac, Ad, slr]) rfl (fun _ => rfl) (fun _ => ⟨rfl, rfl⟩) rfl (show Option.bind (Bj (u9) (r1)) some = some (r12, u13) by rw [e16]; rfl) (fun r h => Di h) (fun b19 c20 hb => ?_)
  obtain ⟨rfl, rfl⟩ : r12 = b19 ∧ u13 = c20 := by cases hb; exact ⟨rfl, rfl⟩
  conv => whnf
  refine Two.mk ⟨?_, ?_⟩
  ·conv => whnf
   refine Cells.lit rfl rfl ?_
   conv => whnf
   refine SameQ.mk ⟨rfl, ?_⟩
   conv => whnf
   refine SameQ.mk ⟨rfl, ?_⟩
   conv => whnf
   refine Ask.mk p15 ?_
   conv => whnf
   refine Cells.lit rfl rfl ?_
   conv => whnf
   refine SameQ.mk ⟨rfl, ?_⟩
   conv => whnf
   refine SameQ.mk ⟨rfl, ?_⟩
   conv => whnf
   refine SetKids.lit rfl ?_
   conv => whnf
   refine SameQ.mk ⟨rfl, ?_⟩
   conv => whnf
   cases h; exact (by first | rfl | simp only [Ah, Aa, V.fz, fzL, V.up, upL, Ab, Ac, Ad, slr] | simp [Ah, Aa, V.fz, fzL, V.up, upL, Ab, Ac, Ad, slr])
  conv => whnf
  refine Cells.lit rfl rfl ?_
  conv => whnf
  refine SameQ.mk ⟨rfl, ?_⟩
  conv => whnf
  refine SameQ.mk ⟨rfl, ?_⟩
  conv => whnf
  refine SetKids.lit rfl ?_
  conv => whnf
  refine Two.mk ⟨?_, ?_⟩
  ·conv => whnf
   refine SameQ.mk ⟨rfl, ?_⟩
   conv => whnf
   refine Ask.mk p15 ?_
   conv => whnf
   refine SameQ.mk ⟨rfl, ?_⟩
   conv => whnf
   cases h; exact (by first | rfl | simp only [Ah, Aa, V.fz, fzL, V.up, upL, Ab, Ac, Ad, slr] | simp [Ah, Aa, V.fz, fzL, V.up, upL, Ab, Ac, Ad, slr])
  conv => whnf
  refine SameQ.mk ⟨rfl, ?_⟩
  conv => whnf
  refine Ask.mk p15 ?_
  conv => whnf
  cases h; exact (by first | rfl | simp only [Ah, Aa, V.fz, fzL, V.up, upL, Ab, Ac, Ad, slr] | simp [Ah, Aa, V.fz, fzL, V.up, upL, Ab, Ac, Ad, slr])
 conv => whnf
 refine Cells.lit rfl rfl ?_
 conv => whnf
 refine SameQ.mk ⟨rfl, ?_⟩
 conv => whnf
 refine SameQ.mk ⟨rfl, ?_⟩
 conv => whnf
 refine SameQ.mk ⟨rfl, ?_⟩
 conv => whnf
 refine Cells.lit rfl rfl ?_
 conv => whnf
 refine SameQ.mk ⟨rfl, ?_⟩
 conv => whnf
 refine CallQ.io (slr false 1 Ae) (rP true (Ai false)) (by first | rfl | simp only [Aa, V.fz, fzL, V.up, upL, Ab, Ac, Ad, slr, List.cons_append, List.nil_append] | simp [Aa, V.fz, fzL, V.up, upL, Ab, Ac, Ad, slr]) rfl (fun _ => rfl) (fun _ => ⟨rfl, rfl⟩) rfl (show Option.bind (Bj (u9) (r1)) some = some (r12, u13) by rw [e16]; rfl) (fun r h => Di h) (fun b21 c22 hb => ?_)
 obtain ⟨rfl, rfl⟩ : r12 = b21 ∧ u13 = c22 := by cases hb; exact ⟨rfl, rfl⟩
 conv => whnf
 refine Two.mk ⟨?_, ?_⟩
 ·conv => whnf
  refine Cells.lit rfl rfl ?_
  conv => whnf
  refine SameQ.mk ⟨rfl, ?_⟩
  conv => whnf
  refine SameQ.mk ⟨rfl, ?_⟩
  conv => whnf
  refine Ask.mk p14 ?_
  conv => whnf
  refine Two.mk ⟨?_, ?_⟩
  ·conv => whnf
   refine Cells.lit rfl rfl ?_
   conv => whnf
   refine SameQ.mk ⟨rfl, ?_⟩
   conv => whnf
   refine SameQ.mk ⟨rfl, ?_⟩
   conv => whnf
   refine Ask.mk p15 ?_
   conv => whnf
   refine Cells.lit rfl rfl ?_
   conv => whnf
   refine SameQ.mk ⟨rfl, ?_⟩
   conv => whnf
   refine SameQ.mk ⟨rfl, ?_⟩
   conv => whnf
   refine SetKids.lit rfl ?_
   conv => whnf
   refine SameQ.mk ⟨rfl, ?_⟩
   conv => whnf
   cases h; exact (by first | rfl | simp only [Ah, Aa, V.fz, fzL, V.up, upL, Ab, Ac, Ad, slr] | simp [Ah, Aa, V.fz, fzL, V.up, upL, Ab, Ac, Ad, slr])
  conv => whnf
  refine Cells.lit rfl rfl ?_
  conv => whnf
  refine SameQ.mk ⟨rfl, ?_⟩
  conv => whnf
  refine SameQ.mk ⟨rfl, ?_⟩
  conv => whnf
  refine SetKids.lit rfl ?_
  conv => whnf
  refine Two.mk ⟨?_, ?_⟩
  ·conv => whnf
   refine SameQ.mk ⟨rfl, ?_⟩
   conv => whnf
   refine Ask.mk p15 ?_
   conv => whnf
   refine SameQ.mk ⟨rfl, ?_⟩
   conv => whnf
   cases h; exact (by first | rfl | simp only [Ah, Aa, V.fz, fzL, V.up, upL, Ab, Ac, Ad, slr] | simp [Ah, Aa, V.fz, fzL, V.up, upL, Ab, Ac, Ad, slr])
  conv => whnf
  refine SameQ.mk ⟨rfl, ?_⟩
  conv => whnf
  refine Ask.mk p15 ?_
  conv => whnf
  cases h; exact (by first | rfl | simp only [Ah, Aa, V.fz, fzL, V.up, upL, Ab, Ac, Ad, slr] | simp [Ah, Aa, V.fz, fzL, V.up, upL, Ab, Ac, Ad, slr])
 conv => whnf
 refine Cells.lit rfl rfl ?_
 conv => whnf
 refine SameQ.mk ⟨rfl, ?_⟩
 conv => whnf
 refine SameQ.mk ⟨rfl, ?_⟩
 conv => whnf
 refine SetKids.lit rfl ?_
 conv => whnf
 refine Two.mk ⟨?_, ?_⟩
 ·conv => whnf
  refine SameQ.mk ⟨rfl, ?_⟩
  conv => whnf
  refine Ask.mk p14 ?_
  conv => whnf
  refine Two.mk ⟨?_, ?_⟩
  ·conv => whnf
   refine SameQ.mk ⟨rfl, ?_⟩
   conv => whnf
   refine Ask.mk p15 ?_
   conv => whnf
   refine SameQ.mk ⟨rfl, ?_⟩
   conv => whnf
   cases h; exact (by first | rfl | simp only [Ah, Aa, V.fz, fzL, V.up, upL, Ab, Ac, Ad, slr] | simp [Ah, Aa, V.fz, fzL, V.up, upL, Ab, Ac, Ad, slr])
  conv => whnf
  refine SameQ.mk ⟨rfl, ?_⟩
  conv => whnf
  refine Ask.mk p15 ?_
  conv => whnf
  cases h; exact (by first | rfl | simp only [Ah, Aa, V.fz, fzL, V.up, upL, Ab, Ac, Ad, slr] | simp [Ah, Aa, V.fz, fzL, V.up, upL, Ab, Ac, Ad, slr])
 conv => whnf
 refine SameQ.mk ⟨rfl, ?_⟩
 conv => whnf
 refine Ask.mk p14 ?_
 conv => whnf
 refine Ask.mk p15 ?_
 conv => whnf
 cases h; exact (by first | rfl | simp only [Ah, Aa, V.fz, fzL, V.up, upL, Ab, Ac, Ad, slr] | simp [Ah, Aa, V.fz, fzL, V.up, upL, Ab, Ac, Ad, slr])
noncomputable def Cq (a0 : SAlgebra) : (Int × (List (List Int)) × Sl1Cur) → Option ((Int × (List (List Int)) × Sl1Cur) ⊕ ((List (List Int)) × Sl1Cur)) := fun (x6, x5, x22) =>
 if x6 > (0 : Int) then
 (Bj (x22) (a0)).bind fun (r4, u5) =>
 ask ((x5).length + ([r4]).length ≤ LIM) <|
 ask (InI (x6 - (1 : Int))) <|
 some (.inl (x6 - (1 : Int), x5 ++ [r4], u5))
 else
 some (.inr (x5, x22))
def Fj (a0 : SAlgebra) : (Int × (List (List Int)) × Sl1Cur) → St := fun s => [(6, A.val (Ae s.1)), (5, A.val ((slr true 1 (slr false 1 Ae)) s.2.1)), (3, A.val ((rP true (Ag false)) (a0))), (0, A.ref 22 []), (22, A.val ((rP true (Ai false)) s.2.2))]
def Hh (_a0 : SAlgebra) : ((List (List Int)) × Sl1Cur) → Tgt
 | s => ((Ex.exit 0), [5, 22], [(5, A.val ((slr true 1 (slr false 1 Ae)) s.1)), (22, A.val ((rP true (Ai false)) s.2))])
theorem Nq {a0 : SAlgebra} (s : (Int × (List (List Int)) × Sl1Cur)) (o : (Int × (List (List Int)) × Sl1Cur) ⊕ ((List (List Int)) × Sl1Cur)) (h : Cq a0 s = some o) : vc Try.prog Ho (F6 [6, 5, 3, 0, 22] (Fj a0) (Hh a0) o) (Fj a0 s) := by
 obtain ⟨x6, x5, x22⟩ := s
 unfold Cq at h
 try dsimp only at h
 conv => whnf
 refine Br.od h (fun p3 h => ?_) (fun p3 h => ?_)
 ·conv => whnf
  refine Cells.lit rfl rfl ?_
  conv => whnf
  refine CallQ.io (slr false 1 Ae) (rP true (Ai false)) (by first | rfl | simp only [Aa, V.fz, fzL, V.up, upL, Ab, Ac, Ad, slr, List.cons_append, List.nil_append] | simp [Aa, V.fz, fzL, V.up, upL, Ab, Ac, Ad, slr]) rfl (fun _ => rfl) (fun _ => ⟨rfl, rfl⟩) rfl h (fun r h => Di h) (fun r4 u5 h => ?_)
  conv => whnf
  refine BslQ.o (slr false 1 Ae) [r4] (by exact fun _ => ⟨rfl, rfl⟩) (by first | rfl | simp only [Aa, V.fz, fzL, V.up, upL, Ab, Ac, Ad, slr, List.cons_append, List.nil_append] | simp [Aa, V.fz, fzL, V.up, upL, Ab, Ac, Ad, slr]) ?_
  conv => whnf
  refine NoOwn.o (fun _ => rfl) ?_
  conv => whnf
  refine AppQ.o (m := 1) (slr false 1 Ae) (by exact fun _ => ⟨rfl, rfl⟩) (x5) ([r4]) (by first | rfl | simp only [Aa, V.fz, fzL, V.up, upL, Ab, Ac, Ad, slr, List.cons_append, List.nil_append] | simp [Aa, V.fz, fzL, V.up, upL, Ab, Ac, Ad, slr]) (by first | rfl | simp only [Aa, V.fz, fzL, V.up, upL, Ab, Ac, Ad, slr, List.cons_append, List.nil_append] | simp [Aa, V.fz, fzL, V.up, upL, Ab, Ac, Ad, slr]) h fun h => ?_
  conv => whnf
  refine Ask.o h fun p6 h => ?_
  conv => whnf
  cases h; exact ⟨rfl, rfl⟩
 conv => whnf
 cases h; exact ⟨rfl, rfl⟩
noncomputable def Du (c0 : Sl1Cur) (a0 : SAlgebra) : Option ((List (List Int)) × Sl1Cur) :=
 (Ak (c0) ([(3 : Int), (6 : Int), (6 : Int), (2 : Int), (1 : Int), (0 : Int), (7 : Int)])).bind fun (r1, u2) =>
 (Bb (Cq a0) (r1, Au (List Int), u2)).bind fun (q7_5, q7_22) =>
 some (q7_5, q7_22)
theorem Qc {c0 : Sl1Cur} {a0 : SAlgebra} {v : ((List (List Int)) × Sl1Cur)} (h : Du c0 a0 = some v) : Og Try.prog Gk [(rP true (Ai false)) c0, (Ag false) a0] ((slr true 1 (slr false 1 Ae)) v.1) 0 ((rP true (Ai false)) v.2) := by
 refine Nm Qm (Nat.le_of_ble_eq_true rfl) ?_
 unfold Du at h
 conv => whnf
 refine BslQ.o (slr true 1 Ae) (Au (List Int)) (by exact fun _ => ⟨rfl, rfl⟩) (by first | rfl | simp only [Aa, V.fz, fzL, V.up, upL, Ab, Ac, Ad, slr, List.cons_append, List.nil_append] | simp [Aa, V.fz, fzL, V.up, upL, Ab, Ac, Ad, slr]) ?_
 conv => whnf
 refine BslQ.o Ae ([(3 : Int), (6 : Int), (6 : Int), (2 : Int), (1 : Int), (0 : Int), (7 : Int)]) (by exact fun _ => ⟨rfl, rfl⟩) (by first | rfl | simp only [Aa, V.fz, fzL, V.up, upL, Ab, Ac, Ad, slr, List.cons_append, List.nil_append] | simp [Aa, V.fz, fzL, V.up, upL, Ab, Ac, Ad, slr]) ?_
 conv => whnf
 refine CallQ.io Ae (rP true (Ai false)) (by first | rfl | simp only [Aa, V.fz, fzL, V.up, upL, Ab, Ac, Ad, slr, List.cons_append, List.nil_append] | simp [Aa, V.fz, fzL, V.up, upL, Ab, Ac, Ad, slr]) rfl (fun _ => rfl) (fun _ => ⟨rfl, rfl⟩) rfl h (fun r h => Ap h) (fun r1 u2 h => ?_)
 conv => whnf
 refine LoopQ.o [6, 5, 3, 0, 22] (Fj a0) (Hh a0) h (fun s o h => Nq s o h) (by first | rfl | simp [restrict, look, Aa, V.fz, fzL, V.up, upL, Ab, Ac, Ad, slr]) (fun _ => rfl) ?_
 rintro ⟨q7_5, q7_22⟩ h
 try dsimp only at h
 conv => whnf
 cases h; exact ⟨(by first | rfl | simp only [Ah, Aa, V.fz, fzL, V.up, upL, Ab, Ac, Ad, slr] | simp [Ah, Aa, V.fz, fzL, V.up, upL, Ab, Ac, Ad, slr]), (by first | rfl | simp only [Ah, Aa, V.fz, fzL, V.up, upL, Ab, Ac, Ad, slr] | simp [Ah, Aa, V.fz, fzL, V.up, upL, Ab, Ac, Ad, slr])⟩
noncomputable def Cg (code0 : (List Int)) : Option (SAlgebra × (List Int) × (List (List Int))) :=
 (Ch ({ code := code0, at_ := (0 : Int), seed := (0 : Int) })).bind fun (r1, u2) =>
 (Bj (u2) (r1)).bind fun (r3, u4) =>
 (Du (u4) (r1)).bind fun (r5, _u6) =>
 some (r1, r3, r5)
theorem Mj {code0 : (List Int)} {v : (SAlgebra × (List Int) × (List (List Int)))} (h : Cg code0 = some v) : Ret Try.prog E4 [(slr false 1 (V.int IntKind.u8)) code0] ((fun r => V.tup [(Ag false) r.1, (slr false 1 Ae) r.2.1, (slr false 1 (slr false 1 Ae)) r.2.2]) v) := by
 refine Ti Mw (Nat.le_of_ble_eq_true rfl) ?_
 unfold Cg at h
 conv => whnf
 refine CallQ.io (Ag true) (rP true (Ai false)) (by first | rfl | simp only [Aa, V.fz, fzL, V.up, upL, Ab, Ac, Ad, slr, List.cons_append, List.nil_append] | simp [Aa, V.fz, fzL, V.up, upL, Ab, Ac, Ad, slr]) rfl (fun _ => rfl) (fun _ => ⟨rfl, rfl⟩) rfl h (fun r h => Jj h) (fun r1 u2 h => ?_)
 conv => whnf
 refine SetKids.lit rfl ?_
 conv => whnf
 refine FrzQ.d (V.ptr true (V.agg [V.int IntKind.i64 r1.Size, V.sl false (2 : Nat) (List.map (Ba false) r1.Ops)])) (by first | (simp only [V.fzAt, Iv]; done) | exact Eq.trans (b := V.ptr true (V.agg [V.int IntKind.i64 r1.Size, (V.sl true (2 : Nat) (List.map (Ba true) r1.Ops)).fz])) rfl (by simp only [Ac])) ?_
 conv => whnf
 refine Cells.lit rfl rfl ?_
 conv => whnf
 refine Cells.lit rfl rfl ?_
 conv => whnf
 refine Cells.lit rfl rfl ?_
 conv => whnf
 refine Cells.lit rfl rfl ?_
 conv => whnf
 refine SameQ.mk ⟨rfl, ?_⟩
 conv => whnf
 refine SameQ.mk ⟨rfl, ?_⟩
 conv => whnf
 refine Cells.lit rfl rfl ?_
 conv => whnf
 refine SameQ.mk ⟨rfl, ?_⟩
 conv => whnf
 refine SameQ.mk ⟨rfl, ?_⟩
 conv => whnf
 refine Cells.lit rfl rfl ?_
 conv => whnf
 refine SameQ.mk ⟨rfl, ?_⟩
 conv => whnf
 refine CallQ.io (slr false 1 Ae) (rP true (Ai false)) (by first | rfl | simp only [Aa, V.fz, fzL, V.up, upL, Ab, Ac, Ad, slr, List.cons_append, List.nil_append] | simp [Aa, V.fz, fzL, V.up, upL, Ab, Ac, Ad, slr]) rfl (fun _ => rfl) (fun _ => ⟨rfl, rfl⟩) rfl h (fun r h => Di h) (fun r3 u4 h => ?_)
 conv => whnf
 refine Cells.lit rfl rfl ?_
 conv => whnf
 refine SameQ.mk ⟨rfl, ?_⟩
 conv => whnf
 refine SameQ.mk ⟨rfl, ?_⟩
 conv => whnf
 refine Cells.lit rfl rfl ?_
 conv => whnf
 refine SameQ.mk ⟨rfl, ?_⟩
 conv => whnf
 refine CallQ.io (slr true 1 (slr false 1 Ae)) (rP true (Ai false)) (by first | rfl | simp only [Aa, V.fz, fzL, V.up, upL, Ab, Ac, Ad, slr, List.cons_append, List.nil_append] | simp [Aa, V.fz, fzL, V.up, upL, Ab, Ac, Ad, slr]) rfl (fun _ => rfl) (fun _ => ⟨rfl, rfl⟩) rfl h (fun r h => Qc h) (fun r5 u6 h => ?_)
 conv => whnf
 refine Cells.lit rfl rfl ?_
 conv => whnf
 refine SameQ.mk ⟨rfl, ?_⟩
 conv => whnf
 refine SetKids.lit rfl ?_
 conv => whnf
 cases h; exact (by first | rfl | simp only [Ah, V.fz, fzL, V.up, upL, Ab, slr] | simp [Ah, Aa, V.fz, fzL, V.up, upL, Ab, Ac, Ad, slr])
end Go.Proofs.Ytjinhobffbppbaa.Ax
