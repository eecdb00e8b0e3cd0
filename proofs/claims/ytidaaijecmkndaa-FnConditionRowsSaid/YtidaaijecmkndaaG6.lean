/-
 What the functions compute, as functions on plain data, and that the program does compute it; written by program.
-/
import Derived.Test.YtidaaijecmkndaaCode
import Derived.Test.YtidaaijecmkndaaG1
import Derived.Test.YtidaaijecmkndaaG2
import Derived.Test.YtidaaijecmkndaaG3
import Derived.Test.YtidaaijecmkndaaG4
import Derived.Test.YtidaaijecmkndaaG5
namespace Go.Proofs.Ytidaaijecmkndaa.Ax
open Go
set_option maxRecDepth 100000
set_option maxHeartbeats 4000000
noncomputable def Ca (_x4 : Int) (x3 : SCondition) : (Int × SRule × Sl1Cur) → Option ((Int × SRule × Sl1Cur) ⊕ (SRule × Sl1Cur)) := fun (x6, x5, x113') =>
 if x6 < x3.Arity then
 (Am (x113') ((2 : Int))).bind fun (r12, u13) =>
 ask ((x5.Left).length + ([r12]).length ≤ LIM) <|
 ask (InI (x6 + (1 : Int))) <|
 some (.inl (x6 + (1 : Int), { Left := x5.Left ++ [r12], Right := x5.Right }, u13))
 else
 some (.inr (x5, x113'))
def Ev (x4 : Int) (x3 : SCondition) : (Int × SRule × Sl1Cur) → St := fun s => [(6, A.val (Ae s.1)), (5, A.val ((rP true (Bb true)) s.2.1)), (4, A.val (Ae (x4))), (3, A.val ((rP true (Ag true)) (x3))), (2, A.val ((rP true (Ag true)) ({ Arity := (0 : Int), Rules := Ba SRule }))), (0, A.ref 113 []), (113, A.val ((rP true (Aj false)) s.2.2))]
def Gy (x4 : Int) (x3 : SCondition) : (SRule × Sl1Cur) → Tgt
 | s => ((Ex.exit 2), [5, 4, 3, 2, 0, 113], [(5, A.val ((rP true (Bb true)) s.1)), (4, A.val (Ae (x4))), (3, A.val ((rP true (Ag true)) (x3))), (2, A.val ((rP true (Ag true)) ({ Arity := (0 : Int), Rules := Ba SRule }))), (0, A.ref 113 []), (113, A.val ((rP true (Aj false)) s.2))])
theorem Me {x4 : Int} {x3 : SCondition} (s : (Int × SRule × Sl1Cur)) (o : (Int × SRule × Sl1Cur) ⊕ (SRule × Sl1Cur)) (h : Ca x4 x3 s = some o) : vc Try.prog Gz (Er [6, 5, 4, 3, 2, 0, 113] (Ev x4 x3) (Gy x4 x3) o) (Ev x4 x3 s) := by
 obtain ⟨x6, x5, x113'⟩ := s
 unfold Ca at h
 try dsimp only at h
 conv => whnf
 refine Cells.lit rfl rfl ?_
 conv => whnf
 refine Br.od h (fun p11 h => ?_) (fun p11 h => ?_)
 ·conv => whnf
  refine Cells.lit rfl rfl ?_
  conv => whnf
  refine LendP.io Ae (rP true (Aj false)) (by first | rfl | simp only [Aa, V.fz, fzL, V.up, upL, Ab, Ac, Ad, slr, List.cons_append, List.nil_append] | simp [Aa, V.fz, fzL, V.up, upL, Ab, Ac, Ad, slr]) (fun _ => rfl) (fun _ => ⟨rfl, rfl⟩) (fun _ => rfl) h (fun r h => Aq h) (fun r12 u13 h => ?_)
  conv => whnf
  refine BslQ.o Ae [r12] (by exact fun _ => ⟨rfl, rfl⟩) (by first | rfl | simp only [Aa, V.fz, fzL, V.up, upL, Ab, Ac, Ad, slr, List.cons_append, List.nil_append] | simp [Aa, V.fz, fzL, V.up, upL, Ab, Ac, Ad, slr]) ?_
  conv => whnf
  refine NoOwn.o (fun _ => rfl) ?_
  conv => whnf
  refine Kid.lit rfl rfl ?_
  conv => whnf
  refine Kid.lit rfl rfl ?_
  conv => whnf
  refine SetKids.lit rfl ?_
  conv => whnf
  refine AppQ.o (m := 1) Ae (by exact fun _ => ⟨rfl, rfl⟩) (x5.Left) ([r12]) (by first | rfl | simp only [Aa, V.fz, fzL, V.up, upL, Ab, Ac, Ad, slr, List.cons_append, List.nil_append] | simp [Aa, V.fz, fzL, V.up, upL, Ab, Ac, Ad, slr]) (by first | rfl | simp only [Aa, V.fz, fzL, V.up, upL, Ab, Ac, Ad, slr, List.cons_append, List.nil_append] | simp [Aa, V.fz, fzL, V.up, upL, Ab, Ac, Ad, slr]) h fun h => ?_
  conv => whnf
  refine SetKids.lit rfl ?_
  conv => whnf
  refine Ask.o h fun p14 h => ?_
  conv => whnf
  cases h; exact ⟨rfl, rfl⟩
 conv => whnf
 cases h; exact ⟨rfl, rfl⟩
noncomputable def B7 (_x4 : Int) (x3 : SCondition) : (Int × SRule × Sl1Cur) → Option ((Int × SRule × Sl1Cur) ⊕ (SRule × Sl1Cur)) := fun (x7, x5, x113') =>
 if x7 < x3.Arity then
 (Am (x113') ((2 : Int))).bind fun (r20, u21) =>
 ask ((x5.Right).length + ([r20]).length ≤ LIM) <|
 ask (InI (x7 + (1 : Int))) <|
 some (.inl (x7 + (1 : Int), { Left := x5.Left, Right := x5.Right ++ [r20] }, u21))
 else
 some (.inr (x5, x113'))
def Ep (x4 : Int) (x3 : SCondition) : (Int × SRule × Sl1Cur) → St := fun s => [(7, A.val (Ae s.1)), (5, A.val ((rP true (Bb true)) s.2.1)), (4, A.val (Ae (x4))), (3, A.val ((rP true (Ag true)) (x3))), (2, A.val ((rP true (Ag true)) ({ Arity := (0 : Int), Rules := Ba SRule }))), (0, A.ref 113 []), (113, A.val ((rP true (Aj false)) s.2.2))]
def Hb (x4 : Int) (x3 : SCondition) : (SRule × Sl1Cur) → Tgt
 | s => ((Ex.exit 4), [5, 4, 3, 2, 0, 113], [(5, A.val ((rP true (Bb true)) s.1)), (4, A.val (Ae (x4))), (3, A.val ((rP true (Ag true)) (x3))), (2, A.val ((rP true (Ag true)) ({ Arity := (0 : Int), Rules := Ba SRule }))), (0, A.ref 113 []), (113, A.val ((rP true (Aj false)) s.2))])
theorem Mq {x4 : Int} {x3 : SCondition} (s : (Int × SRule × Sl1Cur)) (o : (Int × SRule × Sl1Cur) ⊕ (SRule × Sl1Cur)) (h : B7 x4 x3 s = some o) : vc Try.prog G2 (Er [7, 5, 4, 3, 2, 0, 113] (Ep x4 x3) (Hb x4 x3) o) (Ep x4 x3 s) := by
 obtain ⟨x7, x5, x113'⟩ := s
 unfold B7 at h
 try dsimp only at h
 conv => whnf
 refine Cells.lit rfl rfl ?_
 conv => whnf
 refine Br.od h (fun p19 h => ?_) (fun p19 h => ?_)
 ·conv => whnf
  refine Cells.lit rfl rfl ?_
  conv => whnf
  refine LendP.io Ae (rP true (Aj false)) (by first | rfl | simp only [Aa, V.fz, fzL, V.up, upL, Ab, Ac, Ad, slr, List.cons_append, List.nil_append] | simp [Aa, V.fz, fzL, V.up, upL, Ab, Ac, Ad, slr]) (fun _ => rfl) (fun _ => ⟨rfl, rfl⟩) (fun _ => rfl) h (fun r h => Aq h) (fun r20 u21 h => ?_)
  conv => whnf
  refine BslQ.o Ae [r20] (by exact fun _ => ⟨rfl, rfl⟩) (by first | rfl | simp only [Aa, V.fz, fzL, V.up, upL, Ab, Ac, Ad, slr, List.cons_append, List.nil_append] | simp [Aa, V.fz, fzL, V.up, upL, Ab, Ac, Ad, slr]) ?_
  conv => whnf
  refine NoOwn.o (fun _ => rfl) ?_
  conv => whnf
  refine Kid.lit rfl rfl ?_
  conv => whnf
  refine Kid.lit rfl rfl ?_
  conv => whnf
  refine SetKids.lit rfl ?_
  conv => whnf
  refine AppQ.o (m := 1) Ae (by exact fun _ => ⟨rfl, rfl⟩) (x5.Right) ([r20]) (by first | rfl | simp only [Aa, V.fz, fzL, V.up, upL, Ab, Ac, Ad, slr, List.cons_append, List.nil_append] | simp [Aa, V.fz, fzL, V.up, upL, Ab, Ac, Ad, slr]) (by first | rfl | simp only [Aa, V.fz, fzL, V.up, upL, Ab, Ac, Ad, slr, List.cons_append, List.nil_append] | simp [Aa, V.fz, fzL, V.up, upL, Ab, Ac, Ad, slr]) h fun h => ?_
  conv => whnf
  refine SetKids.lit rfl ?_
  conv => whnf
  refine Ask.o h fun p22 h => ?_
  conv => whnf
  cases h; exact ⟨rfl, rfl⟩
 conv => whnf
 cases h; exact ⟨rfl, rfl⟩
noncomputable def B8 : (Int × SCondition × Sl1Cur) → Option ((Int × SCondition × Sl1Cur) ⊕ (SCondition × Sl1Cur)) := fun (x4, x3, x113) =>
 if x4 > (0 : Int) then
 (Am (x113) ((2 : Int))).bind fun (r9, u10) =>
 (Aw (Ca x4 x3) ((0 : Int), { Left := Ba Int, Right := [r9] }, u10)).bind fun (q15_5, q15_113) =>
 (Bt (q15_113) ((2 : Int))).bind fun (r16, u17) =>
 if (r16) = true then
 (Aw (B7 x4 x3) ((1 : Int), q15_5, u17)).bind fun (q23_5, q23_113) =>
 ask ((x3.Rules).length + ([q23_5]).length ≤ LIM) <|
 ask (InI (x4 - (1 : Int))) <|
 some (.inl (x4 - (1 : Int), { Arity := x3.Arity, Rules := x3.Rules ++ [q23_5] }, q23_113))
 else
 ask ((x3.Rules).length + ([q15_5]).length ≤ LIM) <|
 ask (InI (x4 - (1 : Int))) <|
 some (.inl (x4 - (1 : Int), { Arity := x3.Arity, Rules := x3.Rules ++ [q15_5] }, u17))
 else
 some (.inr (x3, x113))
def Eu : (Int × SCondition × Sl1Cur) → St := fun s => [(4, A.val (Ae s.1)), (3, A.val ((rP true (Ag true)) s.2.1)), (2, A.val ((rP true (Ag true)) ({ Arity := (0 : Int), Rules := Ba SRule }))), (0, A.ref 113 []), (113, A.val ((rP true (Aj false)) s.2.2))]
def G7 : (SCondition × Sl1Cur) → Tgt
 | s => ((Ex.exit 0), [3, 2, 0, 113], [(3, A.val ((rP true (Ag true)) s.1)), (2, A.val ((rP true (Ag true)) ({ Arity := (0 : Int), Rules := Ba SRule }))), (0, A.ref 113 []), (113, A.val ((rP true (Aj false)) s.2))])
theorem Mp (s : (Int × SCondition × Sl1Cur)) (o : (Int × SCondition × Sl1Cur) ⊕ (SCondition × Sl1Cur)) (h : B8 s = some o) : vc Try.prog G0 (Er [4, 3, 2, 0, 113] (Eu) (G7) o) (Eu s) := by
 obtain ⟨x4, x3, x113⟩ := s
 unfold B8 at h
 try dsimp only at h
 conv => whnf
 refine Br.od h (fun p8 h => ?_) (fun p8 h => ?_)
 ·conv => whnf
  refine BslQ.o Ae (Ba Int) (by exact fun _ => ⟨rfl, rfl⟩) (by first | rfl | simp only [Aa, V.fz, fzL, V.up, upL, Ab, Ac, Ad, slr, List.cons_append, List.nil_append] | simp [Aa, V.fz, fzL, V.up, upL, Ab, Ac, Ad, slr]) ?_
  conv => whnf
  refine CallQ.io Ae (rP true (Aj false)) (by first | rfl | simp only [Aa, V.fz, fzL, V.up, upL, Ab, Ac, Ad, slr, List.cons_append, List.nil_append] | simp [Aa, V.fz, fzL, V.up, upL, Ab, Ac, Ad, slr]) rfl (fun _ => rfl) (fun _ => ⟨rfl, rfl⟩) rfl h (fun r h => Aq h) (fun r9 u10 h => ?_)
  conv => whnf
  refine BslQ.o Ae [r9] (by exact fun _ => ⟨rfl, rfl⟩) (by first | rfl | simp only [Aa, V.fz, fzL, V.up, upL, Ab, Ac, Ad, slr, List.cons_append, List.nil_append] | simp [Aa, V.fz, fzL, V.up, upL, Ab, Ac, Ad, slr]) ?_
  conv => whnf
  refine SetKids.lit rfl ?_
  conv => whnf
  refine LoopQ.o [6, 5, 4, 3, 2, 0, 113] (Ev x4 x3) (Gy x4 x3) h (fun s o h => Me s o h) (by first | rfl | simp [restrict, look, Aa, V.fz, fzL, V.up, upL, Ab, Ac, Ad, slr]) (fun _ => rfl) ?_
  rintro ⟨q15_5, q15_113⟩ h
  try dsimp only at h
  conv => whnf
  refine CallQ.io V.bool (rP true (Aj false)) (by first | rfl | simp only [Aa, V.fz, fzL, V.up, upL, Ab, Ac, Ad, slr, List.cons_append, List.nil_append] | simp [Aa, V.fz, fzL, V.up, upL, Ab, Ac, Ad, slr]) rfl (fun _ => rfl) (fun _ => ⟨rfl, rfl⟩) rfl h (fun r h => Fq h) (fun r16 u17 h => ?_)
  conv => whnf
  refine Br.ob h (fun p18 h => ?_) (fun p18 h => ?_)
  ·conv => whnf
   refine LoopQ.o [7, 5, 4, 3, 2, 0, 113] (Ep x4 x3) (Hb x4 x3) h (fun s o h => Mq s o h) (by first | rfl | simp [restrict, look, Aa, V.fz, fzL, V.up, upL, Ab, Ac, Ad, slr]) (fun _ => rfl) ?_
   rintro ⟨q23_5, q23_113⟩ h
   try dsimp only at h
   conv => whnf
   refine Cells.lit rfl rfl ?_
   conv => whnf
   refine Cells.lit rfl rfl ?_
   conv => whnf
   refine BslQ.o (Bb true) [q23_5] (by exact fun _ => ⟨rfl, rfl⟩) (by first | rfl | simp only [Aa, V.fz, fzL, V.up, upL, Ab, Ac, Ad, slr, List.cons_append, List.nil_append] | simp [Aa, V.fz, fzL, V.up, upL, Ab, Ac, Ad, slr]) ?_
   conv => whnf
   refine NoOwn.own rfl ?_
   conv => whnf
   refine Kid.lit rfl rfl ?_
   conv => whnf
   refine Kid.lit rfl rfl ?_
   conv => whnf
   refine SetKids.lit rfl ?_
   conv => whnf
   refine AppQ.o (m := 2) (Bb true) (by exact fun _ => ⟨rfl, rfl⟩) (x3.Rules) ([q23_5]) (by first | rfl | simp only [Aa, V.fz, fzL, V.up, upL, Ab, Ac, Ad, slr, List.cons_append, List.nil_append] | simp [Aa, V.fz, fzL, V.up, upL, Ab, Ac, Ad, slr]) (by first | rfl | simp only [Aa, V.fz, fzL, V.up, upL, Ab, Ac, Ad, slr, List.cons_append, List.nil_append] | simp [Aa, V.fz, fzL, V.up, upL, Ab, Ac, Ad, slr]) h fun h => ?_
   conv => whnf
   refine SetKids.lit rfl ?_
   conv => whnf
   refine Ask.o h fun p24 h => ?_
   conv => whnf
   cases h; exact ⟨rfl, rfl⟩
  conv => whnf
  refine Cells.lit rfl rfl ?_
  conv => whnf
  refine Cells.lit rfl rfl ?_
  conv => whnf
  refine BslQ.o (Bb true) [q15_5] (by exact fun _ => ⟨rfl, rfl⟩) (by first | rfl | simp only [Aa, V.fz, fzL, V.up, upL, Ab, Ac, Ad, slr, List.cons_append, List.nil_append] | simp [Aa, V.fz, fzL, V.up, upL, Ab, Ac, Ad, slr]) ?_
  conv => whnf
  refine NoOwn.own rfl ?_
  conv => whnf
  refine Kid.lit rfl rfl ?_
  conv => whnf
  refine Kid.lit rfl rfl ?_
  conv => whnf
  refine SetKids.lit rfl ?_
  conv => whnf
  refine AppQ.o (m := 2) (Bb true) (by exact fun _ => ⟨rfl, rfl⟩) (x3.Rules) ([q15_5]) (by first | rfl | simp only [Aa, V.fz, fzL, V.up, upL, Ab, Ac, Ad, slr, List.cons_append, List.nil_append] | simp [Aa, V.fz, fzL, V.up, upL, Ab, Ac, Ad, slr]) (by first | rfl | simp only [Aa, V.fz, fzL, V.up, upL, Ab, Ac, Ad, slr, List.cons_append, List.nil_append] | simp [Aa, V.fz, fzL, V.up, upL, Ab, Ac, Ad, slr]) h fun h => ?_
  conv => whnf
  refine SetKids.lit rfl ?_
  conv => whnf
  refine Ask.o h fun p25 h => ?_
  conv => whnf
  cases h; exact ⟨rfl, rfl⟩
 conv => whnf
 cases h; exact ⟨rfl, rfl⟩
noncomputable def B9 : (SCondition × Sl1Cur) → Option ((SCondition × Sl1Cur) ⊕ (SCondition × Sl1Cur)) := fun (x3, x113) =>
 (Am (x113) ((2 : Int))).bind fun (r41, u42) =>
 ask (InI ((6 : Int) + r41)) <|
 if (↑x3.Rules.length : Int) < (6 : Int) + r41 then
 ask ((0 : Int) ≤ (0 : Int) ∧ (0 : Int) < (↑x3.Rules.length : Int)) <|
 ask ((x3.Rules).length + ([nth x3.Rules (Int.toNat (0 : Int))]).length ≤ LIM) <|
 some (.inl ({ Arity := x3.Arity, Rules := x3.Rules ++ [nth x3.Rules (Int.toNat (0 : Int))] }, u42))
 else
 some (.inr (x3, u42))
def Es : (SCondition × Sl1Cur) → St := fun s => [(3, A.val ((rP true (Lc)) s.1)), (2, A.val ((rP true (Ag true)) ({ Arity := (0 : Int), Rules := Ba SRule }))), (0, A.ref 113 []), (113, A.val ((rP true (Aj false)) s.2))]
def G4 : (SCondition × Sl1Cur) → Tgt
 | s => ((Ex.exit 7), [3, 2, 113], [(3, A.val ((rP true (Lc)) s.1)), (2, A.val ((rP true (Ag true)) ({ Arity := (0 : Int), Rules := Ba SRule }))), (113, A.val ((rP true (Aj false)) s.2))])
theorem Ml (s : (SCondition × Sl1Cur)) (o : (SCondition × Sl1Cur) ⊕ (SCondition × Sl1Cur)) (h : B9 s = some o) : vc Try.prog G8 (Er [3, 2, 0, 113] (Es) (G4) o) (Es s) := by
 obtain ⟨x3, x113⟩ := s
 unfold B9 at h
 try dsimp only at h
 conv => whnf
 refine Cells.lit rfl rfl ?_
 conv => whnf
 refine Kid.lit rfl rfl ?_
 conv => whnf
 refine Len.map ?_
 conv => whnf
 refine LendP.io Ae (rP true (Aj false)) (by first | rfl | simp only [Aa, V.fz, fzL, V.up, upL, Ab, Ac, Ad, slr, List.cons_append, List.nil_append] | simp [Aa, V.fz, fzL, V.up, upL, Ab, Ac, Ad, slr]) (fun _ => rfl) (fun _ => ⟨rfl, rfl⟩) (fun _ => rfl) h (fun r h => Aq h) (fun r41 u42 h => ?_)
 conv => whnf
 refine Ask.o h fun p43 h => ?_
 conv => whnf
 refine Br.od h (fun p44 h => ?_) (fun p44 h => ?_)
 ·conv => whnf
  refine Cells.lit rfl rfl ?_
  conv => whnf
  refine Cells.lit rfl rfl ?_
  conv => whnf
  refine Kid.lit rfl rfl ?_
  conv => whnf
  refine Len.map ?_
  conv => whnf
  refine Ask.o h fun p45 h => ?_
  conv => whnf
  refine Kid.lit rfl rfl ?_
  conv => whnf
  refine Cells.wide0 (by exact fun _ => ⟨rfl, rfl⟩) (by first | omega | (simp [A1] at *; omega)) (by decide) ?_
  conv => whnf
  refine BslQ.o (Bb false) ([nth x3.Rules (Int.toNat (0 : Int))]) (by exact fun _ => ⟨rfl, rfl⟩) (by first | rfl | simp only [Aa, V.fz, fzL, V.up, upL, Ab, Ac, Ad, slr, List.cons_append, List.nil_append] | simp [Aa, V.fz, fzL, V.up, upL, Ab, Ac, Ad, slr]) ?_
  conv => whnf
  refine NoOwn.o (fun _ => rfl) ?_
  conv => whnf
  refine Kid.lit rfl rfl ?_
  conv => whnf
  refine Kid.lit rfl rfl ?_
  conv => whnf
  refine SetKids.lit rfl ?_
  conv => whnf
  refine AppQ.o (m := 2) (Bb false) (by exact fun _ => ⟨rfl, rfl⟩) (x3.Rules) ([nth x3.Rules (Int.toNat (0 : Int))]) (by first | rfl | simp only [Aa, V.fz, fzL, V.up, upL, Ab, Ac, Ad, slr, List.cons_append, List.nil_append] | simp [Aa, V.fz, fzL, V.up, upL, Ab, Ac, Ad, slr]) (by first | rfl | simp only [Aa, V.fz, fzL, V.up, upL, Ab, Ac, Ad, slr, List.cons_append, List.nil_append] | simp [Aa, V.fz, fzL, V.up, upL, Ab, Ac, Ad, slr]) h fun h => ?_
  conv => whnf
  refine SetKids.lit rfl ?_
  conv => whnf
  cases h; exact ⟨rfl, rfl⟩
 conv => whnf
 cases h; exact ⟨rfl, rfl⟩
noncomputable def Cu (c0 : Sl1Cur) : Option (SCondition × Sl1Cur) :=
 (Bt (c0) ((4 : Int))).bind fun (r1, u2) =>
 if (r1) = true then
 (At (u2) ([(2 : Int), (2 : Int), (3 : Int)])).bind fun (r4, u5) =>
 (At (u5) ([(1 : Int), (1 : Int), (2 : Int), (3 : Int)])).bind fun (r6, u7) =>
 (Aw (B8) (r6, { Arity := r4, Rules := Ba SRule }, u7)).bind fun (q26_3, q26_113) =>
 (Am (q26_113) ((12 : Int))).bind fun (r27, u28) =>
 if r27 = (0 : Int) then
 ask (InI ((5 : Int) - q26_3.Arity)) <|
 (At (u28) ([(1 : Int), (4 : Int), (5 : Int) - q26_3.Arity])).bind fun (r31, u32) =>
 some ({ Arity := r31, Rules := q26_3.Rules }, u32)
 else
 if r27 = (1 : Int) then
 ask ((0 : Int) ≤ (0 : Int) ∧ (0 : Int) < (↑q26_3.Rules.length : Int)) <|
 (At (u28) ([(-1 : Int), (2 : Int)])).bind fun (r35, u36) =>
 ask ((0 : Int) ≤ (0 : Int) ∧ (0 : Int) < (↑(nth q26_3.Rules (Int.toNat (0 : Int))).Left.length : Int)) <|
 some ({ Arity := q26_3.Arity, Rules := q26_3.Rules.set (Int.toNat (0 : Int)) { Left := (nth q26_3.Rules (Int.toNat (0 : Int))).Left.set (Int.toNat (0 : Int)) r35, Right := (nth q26_3.Rules (Int.toNat (0 : Int))).Right } }, u36)
 else
 if r27 = (2 : Int) then
 ask ((0 : Int) ≤ (0 : Int) ∧ (0 : Int) < (↑q26_3.Rules.length : Int)) <|
 some ({ Arity := q26_3.Arity, Rules := q26_3.Rules.set (Int.toNat (0 : Int)) { Left := (nth q26_3.Rules (Int.toNat (0 : Int))).Left, Right := Ba Int } }, u28)
 else
 if r27 = (3 : Int) then
 (Aw (B9) (q26_3, u28)).bind fun (q46_3, q46_113) =>
 some (q46_3, q46_113)
 else
 some (q26_3, u28)
 else
 (F1 (u2) ([{ data := #[(109 : UInt8), (97 : UInt8), (108 : UInt8), (99 : UInt8), (101 : UInt8), (118 : UInt8)] }, { data := #[(109 : UInt8), (97 : UInt8), (106 : UInt8), (111 : UInt8), (114 : UInt8), (105 : UInt8), (116 : UInt8), (121 : UInt8)] }, { data := #[(109 : UInt8), (105 : UInt8), (110 : UInt8), (111 : UInt8), (114 : UInt8), (105 : UInt8), (116 : UInt8), (121 : UInt8)] }, { data := #[(112 : UInt8), (105 : UInt8), (120 : UInt8), (108 : UInt8), (101 : UInt8), (121 : UInt8)] }, { data := #[(99 : UInt8), (111 : UInt8), (109 : UInt8), (109 : UInt8), (117 : UInt8), (116 : UInt8), (97 : UInt8), (116 : UInt8), (105 : UInt8), (118 : UInt8), (101 : UInt8)] }, { data := #[(119 : UInt8), (101 : UInt8), (97 : UInt8), (107 : UInt8)] }])).bind fun (r47, u48) =>
 (Fy (r47)).bind fun r49 =>
 some (r49, u48)
theorem Ot {c0 : Sl1Cur} {v : (SCondition × Sl1Cur)} (h : Cu c0 = some v) : Tc Try.prog Ft [(rP true (Aj false)) c0] ((Ag false) v.1) 0 ((rP true (Aj false)) v.2) := by
 refine Aja Pf (Nat.le_of_ble_eq_true rfl) ?_
 unfold Cu at h
 conv => whnf
 refine CallQ.io V.bool (rP true (Aj false)) (by first | rfl | simp only [Aa, V.fz, fzL, V.up, upL, Ab, Ac, Ad, slr, List.cons_append, List.nil_append] | simp [Aa, V.fz, fzL, V.up, upL, Ab, Ac, Ad, slr]) rfl (fun _ => rfl) (fun _ => ⟨rfl, rfl⟩) rfl h (fun r h => Fq h) (fun r1 u2 h => ?_)
 conv => whnf
 refine Br.flip ?_
 conv => whnf
 refine Br.ob h (fun p3 h => ?_) (fun p3 h => ?_)
 ·conv => whnf
  refine BslQ.o Ae ([(2 : Int), (2 : Int), (3 : Int)]) (by exact fun _ => ⟨rfl, rfl⟩) (by first | rfl | simp only [Aa, V.fz, fzL, V.up, upL, Ab, Ac, Ad, slr, List.cons_append, List.nil_append] | simp [Aa, V.fz, fzL, V.up, upL, Ab, Ac, Ad, slr]) ?_
  conv => whnf
  refine CallQ.io Ae (rP true (Aj false)) (by first | rfl | simp only [Aa, V.fz, fzL, V.up, upL, Ab, Ac, Ad, slr, List.cons_append, List.nil_append] | simp [Aa, V.fz, fzL, V.up, upL, Ab, Ac, Ad, slr]) rfl (fun _ => rfl) (fun _ => ⟨rfl, rfl⟩) rfl h (fun r h => A3 h) (fun r4 u5 h => ?_)
  conv => whnf
  refine SetKids.lit rfl ?_
  conv => whnf
  refine BslQ.o Ae ([(1 : Int), (1 : Int), (2 : Int), (3 : Int)]) (by exact fun _ => ⟨rfl, rfl⟩) (by first | rfl | simp only [Aa, V.fz, fzL, V.up, upL, Ab, Ac, Ad, slr, List.cons_append, List.nil_append] | simp [Aa, V.fz, fzL, V.up, upL, Ab, Ac, Ad, slr]) ?_
  conv => whnf
  refine CallQ.io Ae (rP true (Aj false)) (by first | rfl | simp only [Aa, V.fz, fzL, V.up, upL, Ab, Ac, Ad, slr, List.cons_append, List.nil_append] | simp [Aa, V.fz, fzL, V.up, upL, Ab, Ac, Ad, slr]) rfl (fun _ => rfl) (fun _ => ⟨rfl, rfl⟩) rfl h (fun r h => A3 h) (fun r6 u7 h => ?_)
  conv => whnf
  refine LoopQ.o [4, 3, 2, 0, 113] (Eu) (G7) h (fun s o h => Mp s o h) (by first | rfl | simp [restrict, look, Aa, V.fz, fzL, V.up, upL, Ab, Ac, Ad, slr]) (fun _ => rfl) ?_
  rintro ⟨q26_3, q26_113⟩ h
  try dsimp only at h
  conv => whnf
  refine CallQ.io Ae (rP true (Aj false)) (by first | rfl | simp only [Aa, V.fz, fzL, V.up, upL, Ab, Ac, Ad, slr, List.cons_append, List.nil_append] | simp [Aa, V.fz, fzL, V.up, upL, Ab, Ac, Ad, slr]) rfl (fun _ => rfl) (fun _ => ⟨rfl, rfl⟩) rfl h (fun r h => Aq h) (fun r27 u28 h => ?_)
  conv => whnf
  refine Br.oe h (fun p29 h => ?_) (fun p29 h => ?_)
  ·conv => whnf
   refine Cells.lit rfl rfl ?_
   conv => whnf
   refine Ask.o h fun p30 h => ?_
   conv => whnf
   refine BslQ.o Ae ([(1 : Int), (4 : Int), (5 : Int) - q26_3.Arity]) (by exact fun _ => ⟨rfl, rfl⟩) (by first | rfl | simp only [Aa, V.fz, fzL, V.up, upL, Ab, Ac, Ad, slr, List.cons_append, List.nil_append] | simp [Aa, V.fz, fzL, V.up, upL, Ab, Ac, Ad, slr]) ?_
   conv => whnf
   refine CallQ.io Ae (rP true (Aj false)) (by first | rfl | simp only [Aa, V.fz, fzL, V.up, upL, Ab, Ac, Ad, slr, List.cons_append, List.nil_append] | simp [Aa, V.fz, fzL, V.up, upL, Ab, Ac, Ad, slr]) rfl (fun _ => rfl) (fun _ => ⟨rfl, rfl⟩) rfl h (fun r h => A3 h) (fun r31 u32 h => ?_)
   conv => whnf
   refine SetKids.lit rfl ?_
   conv => whnf
   refine Cells.lit rfl rfl ?_
   conv => whnf
   refine SetKids.lit rfl ?_
   conv => whnf
   cases h; exact ⟨(by first | rfl | simp only [Ah, V.fz, fzL, V.up, Ab, slr] | simp [Ah, Aa, V.fz, fzL, V.up, upL, Ab, Ac, Ad, slr]), (by first | rfl | simp only [Ah, Aa, V.fz, fzL, V.up, upL, Ab, Ac, Ad, slr] | simp [Ah, Aa, V.fz, fzL, V.up, upL, Ab, Ac, Ad, slr])⟩
  conv => whnf
  refine Br.oe h (fun p33 h => ?_) (fun p33 h => ?_)
  ·conv => whnf
   refine Cells.lit rfl rfl ?_
   conv => whnf
   refine Kid.lit rfl rfl ?_
   conv => whnf
   refine Len.map ?_
   conv => whnf
   refine Ask.o h fun p34 h => ?_
   conv => whnf
   refine Kid.lit rfl rfl ?_
   conv => whnf
   refine Cells.wide (by exact fun _ => ⟨rfl, rfl⟩) (by first | omega | (simp [A1] at *; omega)) (by decide) ?_
   conv => whnf
   refine SameQ.mk ⟨rfl, ?_⟩
   conv => whnf
   refine Cells.lit rfl rfl ?_
   conv => whnf
   refine SameQ.mk ⟨rfl, ?_⟩
   conv => whnf
   refine Kid.lit rfl rfl ?_
   conv => whnf
   refine Len.map ?_
   conv => whnf
   refine Ask.mk p34 ?_
   conv => whnf
   refine SameQ.mk ⟨rfl, ?_⟩
   conv => whnf
   refine SameQ.mk ⟨rfl, ?_⟩
   conv => whnf
   refine Kid.lit rfl rfl ?_
   conv => whnf
   refine Cells.wide (by exact fun _ => ⟨rfl, rfl⟩) (by first | omega | (simp [A1] at *; omega)) (by decide) ?_
   conv => whnf
   refine SameQ.mk ⟨rfl, ?_⟩
   conv => whnf
   refine SameQ.mk ⟨rfl, ?_⟩
   conv => whnf
   refine BslQ.o Ae ([(-1 : Int), (2 : Int)]) (by exact fun _ => ⟨rfl, rfl⟩) (by first | rfl | simp only [Aa, V.fz, fzL, V.up, upL, Ab, Ac, Ad, slr, List.cons_append, List.nil_append] | simp [Aa, V.fz, fzL, V.up, upL, Ab, Ac, Ad, slr]) ?_
   conv => whnf
   refine SameQ.mk ⟨rfl, ?_⟩
   conv => whnf
   refine Cells.lit rfl rfl ?_
   conv => whnf
   refine SameQ.mk ⟨rfl, ?_⟩
   conv => whnf
   refine Kid.lit rfl rfl ?_
   conv => whnf
   refine Len.map ?_
   conv => whnf
   refine Ask.mk p34 ?_
   conv => whnf
   refine SameQ.mk ⟨rfl, ?_⟩
   conv => whnf
   refine SameQ.mk ⟨rfl, ?_⟩
   conv => whnf
   refine Kid.lit rfl rfl ?_
   conv => whnf
   refine Cells.wide (by exact fun _ => ⟨rfl, rfl⟩) (by first | omega | (simp [A1] at *; omega)) (by decide) ?_
   conv => whnf
   refine SameQ.mk ⟨rfl, ?_⟩
   conv => whnf
   refine SameQ.mk ⟨rfl, ?_⟩
   conv => whnf
   refine CallQ.io Ae (rP true (Aj false)) (by first | rfl | simp only [Aa, V.fz, fzL, V.up, upL, Ab, Ac, Ad, slr, List.cons_append, List.nil_append] | simp [Aa, V.fz, fzL, V.up, upL, Ab, Ac, Ad, slr]) rfl (fun _ => rfl) (fun _ => ⟨rfl, rfl⟩) rfl h (fun r h => A3 h) (fun r35 u36 h => ?_)
   conv => whnf
   refine SameQ.mk ⟨rfl, ?_⟩
   conv => whnf
   refine Cells.lit rfl rfl ?_
   conv => whnf
   refine SameQ.mk ⟨rfl, ?_⟩
   conv => whnf
   refine Kid.lit rfl rfl ?_
   conv => whnf
   refine Len.map ?_
   conv => whnf
   refine Ask.mk p34 ?_
   conv => whnf
   refine SameQ.mk ⟨rfl, ?_⟩
   conv => whnf
   refine SameQ.mk ⟨rfl, ?_⟩
   conv => whnf
   refine Kid.lit rfl rfl ?_
   conv => whnf
   refine Cells.wide (by exact fun _ => ⟨rfl, rfl⟩) (by first | omega | (simp [A1] at *; omega)) (by decide) ?_
   conv => whnf
   refine SameQ.mk ⟨rfl, ?_⟩
   conv => whnf
   refine Kid.lit rfl rfl ?_
   conv => whnf
   refine Kid.wide (by exact fun _ => ⟨rfl, rfl⟩) (by first | omega | (simp [A1] at *; omega)) (by rfl) ?_
   conv => whnf
   refine Len.map ?_
   conv => whnf
   refine Ask.o h fun p37 h => ?_
   conv => whnf
   refine Kid.lit rfl rfl ?_
   conv => whnf
   refine Kid.wide (by exact fun _ => ⟨rfl, rfl⟩) (by first | omega | (simp [A1] at *; omega)) (by rfl) ?_
   conv => whnf
   refine SetKids.one (fun _ => ⟨rfl, rfl⟩) (r35) (by first | rfl | simp only [Aa, V.fz, fzL, V.up, upL, Ab, Ac, Ad, slr, List.cons_append, List.nil_append] | simp [Aa, V.fz, fzL, V.up, upL, Ab, Ac, Ad, slr]) (by first | omega | (simp [A1] at *; omega)) ?_
   conv => whnf
   refine Kid.lit rfl rfl ?_
   conv => whnf
   refine Kid.wide (by exact fun _ => ⟨rfl, rfl⟩) (by first | omega | (simp [A1] at *; omega)) (by rfl) ?_
   conv => whnf
   refine SetKids.wide (by exact fun _ => ⟨rfl, rfl⟩) ({ Left := (nth q26_3.Rules (Int.toNat (0 : Int))).Left.set (Int.toNat (0 : Int)) r35, Right := (nth q26_3.Rules (Int.toNat (0 : Int))).Right }) (by first | omega | (simp [A1] at *; omega)) (by rfl) (by decide) ?_
   conv => whnf
   refine SetKids.lit rfl ?_
   conv => whnf
   refine Cells.lit rfl rfl ?_
   conv => whnf
   refine SetKids.lit rfl ?_
   conv => whnf
   cases h; exact ⟨(by first | rfl | simp only [Ah, V.fz, fzL, V.up, Ab] | simp [Ah, Aa, V.fz, fzL, V.up, upL, Ab, Ac, Ad, slr]), (by first | rfl | simp only [Ah, Aa, V.fz, fzL, V.up, upL, Ab, Ac, Ad, slr] | simp [Ah, Aa, V.fz, fzL, V.up, upL, Ab, Ac, Ad, slr])⟩
  conv => whnf
  refine Br.oe h (fun p38 h => ?_) (fun p38 h => ?_)
  ·conv => whnf
   refine Cells.lit rfl rfl ?_
   conv => whnf
   refine BslQ.o Ae (Ba Int) (by exact fun _ => ⟨rfl, rfl⟩) (by first | rfl | simp only [Aa, V.fz, fzL, V.up, upL, Ab, Ac, Ad, slr, List.cons_append, List.nil_append] | simp [Aa, V.fz, fzL, V.up, upL, Ab, Ac, Ad, slr]) ?_
   conv => whnf
   refine Kid.lit rfl rfl ?_
   conv => whnf
   refine Len.map ?_
   conv => whnf
   refine Ask.o h fun p39 h => ?_
   conv => whnf
   refine Kid.lit rfl rfl ?_
   conv => whnf
   refine SetKids.wide (by exact fun _ => ⟨rfl, rfl⟩) ({ Left := (nth q26_3.Rules (Int.toNat (0 : Int))).Left, Right := Ba Int }) (by first | omega | (simp [A1] at *; omega)) (by rfl) (by decide) ?_
   conv => whnf
   refine Kid.lit rfl rfl ?_
   conv => whnf
   refine SetKids.lit rfl ?_
   conv => whnf
   refine Cells.lit rfl rfl ?_
   conv => whnf
   refine SetKids.lit rfl ?_
   conv => whnf
   cases h; exact ⟨(by first | rfl | simp only [Ah, V.fz, fzL, V.up, Ab] | simp [Ah, Aa, V.fz, fzL, V.up, upL, Ab, Ac, Ad, slr]), (by first | rfl | simp only [Ah, Aa, V.fz, fzL, V.up, upL, Ab, Ac, Ad, slr] | simp [Ah, Aa, V.fz, fzL, V.up, upL, Ab, Ac, Ad, slr])⟩
  conv => whnf
  refine Br.oe h (fun p40 h => ?_) (fun p40 h => ?_)
  ·conv => whnf
   refine FrzQ.d (V.ptr true (V.agg [V.int IntKind.i64 q26_3.Arity, V.sl true (2 : Nat) (List.map (Bb false) q26_3.Rules)])) (by first | (simp only [V.fzAt, Cf, Jt, Ab]; done) | exact Eq.trans (b := V.ptr true (V.agg [V.int IntKind.i64 q26_3.Arity, V.sl true (2 : Nat) (List.map (Bb false) q26_3.Rules)])) rfl (by simp only [Ac])) ?_
   conv => whnf
   refine LoopQ.o [3, 2, 0, 113] (Es) (G4) h (fun s o h => Ml s o h) (by first | rfl | simp [restrict, look, Aa, V.fz, fzL, V.up, upL, Ab, Ac, Ad, slr]) (fun _ => rfl) ?_
   rintro ⟨q46_3, q46_113⟩ h
   try dsimp only at h
   conv => whnf
   refine Cells.lit rfl rfl ?_
   conv => whnf
   refine SetKids.lit rfl ?_
   conv => whnf
   cases h; exact ⟨(by first | rfl | simp only [Ah, V.fz, fzL, V.up, Ab, slr] | simp [Ah, Aa, V.fz, fzL, V.up, upL, Ab, Ac, Ad, slr]), (by first | rfl | simp only [Ah, Aa, V.fz, fzL, V.up, upL, Ab, Ac, Ad, slr] | simp [Ah, Aa, V.fz, fzL, V.up, upL, Ab, Ac, Ad, slr])⟩
  conv => whnf
  refine Cells.lit rfl rfl ?_
  conv => whnf
  refine SetKids.lit rfl ?_
  conv => whnf
  cases h; exact ⟨(by first | rfl | simp only [Ah, V.fz, fzL, V.up, Ab, slr] | simp [Ah, Aa, V.fz, fzL, V.up, upL, Ab, Ac, Ad, slr]), (by first | rfl | simp only [Ah, Aa, V.fz, fzL, V.up, upL, Ab, Ac, Ad, slr] | simp [Ah, Aa, V.fz, fzL, V.up, upL, Ab, Ac, Ad, slr])⟩
 conv => whnf
 refine BslQ.o V.str ([{ data := #[(109 : UInt8), (97 : UInt8), (108 : UInt8), (99 : UInt8), (101 : UInt8), (118 : UInt8)] }, { data := #[(109 : UInt8), (97 : UInt8), (106 : UInt8), (111 : UInt8), (114 : UInt8), (105 : UInt8), (116 : UInt8), (121 : UInt8)] }, { data := #[(109 : UInt8), (105 : UInt8), (110 : UInt8), (111 : UInt8), (114 : UInt8), (105 : UInt8), (116 : UInt8), (121 : UInt8)] }, { data := #[(112 : UInt8), (105 : UInt8), (120 : UInt8), (108 : UInt8), (101 : UInt8), (121 : UInt8)] }, { data := #[(99 : UInt8), (111 : UInt8), (109 : UInt8), (109 : UInt8), (117 : UInt8), (116 : UInt8), (97 : UInt8), (116 : UInt8), (105 : UInt8), (118 : UInt8), (101 : UInt8)] }, { data := #[(119 : UInt8), (101 : UInt8), (97 : UInt8), (107 : UInt8)] }]) (by exact fun _ => ⟨rfl, rfl⟩) (by first | rfl | simp only [Aa, V.fz, fzL, V.up, upL, Ab, Ac, Ad, slr, List.cons_append, List.nil_append] | simp [Aa, V.fz, fzL, V.up, upL, Ab, Ac, Ad, slr]) ?_
 conv => whnf
 refine CallQ.io V.str (rP true (Aj false)) (by first | rfl | simp only [Aa, V.fz, fzL, V.up, upL, Ab, Ac, Ad, slr, List.cons_append, List.nil_append] | simp [Aa, V.fz, fzL, V.up, upL, Ab, Ac, Ad, slr]) rfl (fun _ => rfl) (fun _ => ⟨rfl, rfl⟩) rfl h (fun r h => X4 h) (fun r47 u48 h => ?_)
 conv => whnf
 refine CallQ.o (Ag true) (by first | rfl | simp only [Aa, V.fz, fzL, V.up, upL, Ab, Ac, Ad, slr, List.cons_append, List.nil_append] | simp [Aa, V.fz, fzL, V.up, upL, Ab, Ac, Ad, slr]) h (fun r h => Xl h) (fun r49 h => ?_)
 conv => whnf
 refine SetKids.lit rfl ?_
 conv => whnf
 cases h; exact ⟨(by first | rfl | simp only [Ah, V.fz, fzL, V.up, Ab, slr] | simp [Ah, Aa, V.fz, fzL, V.up, upL, Ab, Ac, Ad, slr]), (by first | rfl | simp only [Ah, Aa, V.fz, fzL, V.up, upL, Ab, Ac, Ad, slr] | simp [Ah, Aa, V.fz, fzL, V.up, upL, Ab, Ac, Ad, slr])⟩
noncomputable def Cn (n0 : Int) (f0 : SOp) (c0 : SCondition) : Option Bool :=
 (Ce (n0)).bind fun r1 =>
 if (r1) = true then
 (Ci (c0)).bind fun r3 =>
 if (r3) = true then
 if f0.Arity = c0.Arity then
 (J9 (f0) (n0)).bind fun r6 =>
 some r6
 else
 some false
 else
 some false
 else
 some false
theorem Kc {n0 : Int} {f0 : SOp} {c0 : SCondition} {v : Bool} (h : Cn n0 f0 c0 = some v) : Ret Try.prog Fc [Ae n0, (Al false) f0, (Ag false) c0] (V.bool v) := by
 refine Bg Q6 (Nat.le_of_ble_eq_true rfl) ?_
 unfold Cn at h
 conv => whnf
 refine CallQ.o V.bool (by first | rfl | simp only [Aa, V.fz, fzL, V.up, upL, Ab, Ac, Ad, slr, List.cons_append, List.nil_append] | simp [Aa, V.fz, fzL, V.up, upL, Ab, Ac, Ad, slr]) h (fun r h => I8 h) (fun r1 h => ?_)
 conv => whnf
 refine Br.ob h (fun p2 h => ?_) (fun p2 h => ?_)
 ·conv => whnf
  refine Cells.lit rfl rfl ?_
  conv => whnf
  refine Br.yes ?_
  conv => whnf
  refine CallQ.o V.bool (by first | rfl | simp only [Aa, V.fz, fzL, V.up, upL, Ab, Ac, Ad, slr, List.cons_append, List.nil_append] | simp [Aa, V.fz, fzL, V.up, upL, Ab, Ac, Ad, slr]) h (fun r h => H3 h) (fun r3 h => ?_)
  conv => whnf
  refine Br.yes ?_
  conv => whnf
  refine Br.ob h (fun p4 h => ?_) (fun p4 h => ?_)
  ·conv => whnf
   refine Br.yes ?_
   conv => whnf
   refine Cells.lit rfl rfl ?_
   conv => whnf
   refine Br.yes ?_
   conv => whnf
   refine Br.yes ?_
   conv => whnf
   refine Cells.lit rfl rfl ?_
   conv => whnf
   refine Br.yes ?_
   conv => whnf
   refine Br.yes ?_
   conv => whnf
   refine Br.oe h (fun p5 h => ?_) (fun p5 h => ?_)
   ·conv => whnf
    refine Cells.lit rfl rfl ?_
    conv => whnf
    refine Br.yes ?_
    conv => whnf
    refine Br.yes ?_
    conv => whnf
    refine CallQ.o V.bool (by first | rfl | simp only [Aa, V.fz, fzL, V.up, upL, Ab, Ac, Ad, slr, List.cons_append, List.nil_append] | simp [Aa, V.fz, fzL, V.up, upL, Ab, Ac, Ad, slr]) h (fun r h => Agc h) (fun r6 h => ?_)
    conv => whnf
    refine Br.yes ?_
    conv => whnf
    cases h; exact (by first | rfl | simp only [Ah, Aa, V.fz, fzL, V.up, upL, Ab, Ac, Ad, slr] | simp [Ah, Aa, V.fz, fzL, V.up, upL, Ab, Ac, Ad, slr])
   conv => whnf
   refine Br.no ?_
   conv => whnf
   refine Br.no ?_
   conv => whnf
   refine Br.no ?_
   conv => whnf
   cases h; exact (by first | rfl | simp only [Ah, Aa, V.fz, fzL, V.up, upL, Ab, Ac, Ad, slr] | simp [Ah, Aa, V.fz, fzL, V.up, upL, Ab, Ac, Ad, slr])
  conv => whnf
  refine Br.no ?_
  conv => whnf
  refine Br.no ?_
  conv => whnf
  refine Br.no ?_
  conv => whnf
  refine Br.no ?_
  conv => whnf
  refine Br.no ?_
  conv => whnf
  refine Br.no ?_
  conv => whnf
  refine Br.no ?_
  conv => whnf
  refine Br.no ?_
  conv => whnf
  refine Br.no ?_
  conv => whnf
  cases h; exact (by first | rfl | simp only [Ah, Aa, V.fz, fzL, V.up, upL, Ab, Ac, Ad, slr] | simp [Ah, Aa, V.fz, fzL, V.up, upL, Ab, Ac, Ad, slr])
 conv => whnf
 refine Br.no ?_
 conv => whnf
 refine Br.no ?_
 conv => whnf
 refine Br.no ?_
 conv => whnf
 refine Br.no ?_
 conv => whnf
 refine Br.no ?_
 conv => whnf
 refine Br.no ?_
 conv => whnf
 refine Br.no ?_
 conv => whnf
 refine Br.no ?_
 conv => whnf
 refine Br.no ?_
 conv => whnf
 refine Br.no ?_
 conv => whnf
 refine Br.no ?_
 conv => whnf
 refine Br.no ?_
 conv => whnf
 cases h; exact (by first | rfl | simp only [Ah, Aa, V.fz, fzL, V.up, upL, Ab, Ac, Ad, slr] | simp [Ah, Aa, V.fz, fzL, V.up, upL, Ab, Ac, Ad, slr])
noncomputable def B3 (c0 : SCondition) : (Int × (List (List Int))) → Option ((Int × (List (List Int))) ⊕ (List (List Int))) := fun (x12, x3) =>
 if x12 < (↑c0.Rules.length : Int) then
 ask ((0 : Int) ≤ x12 ∧ x12 < (↑c0.Rules.length : Int)) <|
 (C0 ((nth c0.Rules x12.toNat).Left) (c0) (x3)).bind fun (_r3, u4) =>
 (C0 ((nth c0.Rules x12.toNat).Right) (c0) (u4)).bind fun (_r5, u6) =>
 ask (InI (x12 + (1 : Int))) <|
 some (.inl (x12 + (1 : Int), u6))
 else
 some (.inr x3)
def Gd (c0 : SCondition) : (Int × (List (List Int))) → St := fun s => [(12, A.val (Ae s.1)), (11, A.val (Ae ((↑c0.Rules.length : Int)))), (10, A.val ((slr false 2 (Bb false)) (c0.Rules))), (4, A.clo Ff [A.ref (1 : Nat) [], A.ref (3 : Nat) []]), (3, A.val ((rP true (slr true 1 (slr true 1 Ae))) s.2)), (1, A.val ((rP true (Ag false)) (c0)))]
def J6 (_c0 : SCondition) : (List (List Int)) → Tgt
 | s => ((Ex.exit 0), [3], [(3, A.val ((rP true (slr true 1 (slr true 1 Ae))) s))])
theorem Q1 {c0 : SCondition} (s : (Int × (List (List Int)))) (o : (Int × (List (List Int))) ⊕ (List (List Int))) (h : B3 c0 s = some o) : vc Try.prog Kd (Er [12, 11, 10, 4, 3, 1] (Gd c0) (J6 c0) o) (Gd c0 s) := by
 obtain ⟨x12, x3⟩ := s
 unfold B3 at h
 try dsimp only at h
 conv => whnf
 refine Br.od h (fun p1 h => ?_) (fun p1 h => ?_)
 ·conv => whnf
  refine Len.map ?_
  conv => whnf
  refine Ask.o h fun p2 h => ?_
  conv => whnf
  refine Elem.o (by first | omega | (simp [A1] at *; omega)) ?_
  conv => whnf
  refine SetKids.lit rfl ?_
  conv => whnf
  refine Cells.lit rfl rfl ?_
  conv => whnf
  refine CallQ.io (fun r => V.tup []) (rP true (slr true 1 (slr true 1 Ae))) (by first | rfl | simp only [Aa, V.fz, fzL, V.up, upL, Ab, Ac, Ad, slr, List.cons_append, List.nil_append] | simp [Aa, V.fz, fzL, V.up, upL, Ab, Ac, Ad, slr]) rfl (fun _ => rfl) (fun _ => ⟨by first | rfl | simp [Fr, V.noFz, Bo], rfl⟩) rfl h (fun r h => K1 h) (fun r3 u4 h => ?_)
  conv => whnf
  refine Cells.lit rfl rfl ?_
  conv => whnf
  refine CallQ.io (fun r => V.tup []) (rP true (slr true 1 (slr true 1 Ae))) (by first | rfl | simp only [Aa, V.fz, fzL, V.up, upL, Ab, Ac, Ad, slr, List.cons_append, List.nil_append] | simp [Aa, V.fz, fzL, V.up, upL, Ab, Ac, Ad, slr]) rfl (fun _ => rfl) (fun _ => ⟨by first | rfl | simp [Fr, V.noFz, Bo], rfl⟩) rfl h (fun r h => K1 h) (fun r5 u6 h => ?_)
  conv => whnf
  refine Ask.o h fun p7 h => ?_
  conv => whnf
  cases h; exact ⟨rfl, rfl⟩
 conv => whnf
 cases h; exact ⟨rfl, rfl⟩
noncomputable def Cd (c0 : SCondition) : Option (List (List Int)) :=
 (Aw (B3 c0) ((0 : Int), Ba (List Int))).bind fun q8_3 =>
 some q8_3
theorem Gb {c0 : SCondition} {v : (List (List Int))} (h : Cd c0 = some v) : Ret Try.prog Dm [(Ag false) c0] ((slr true 1 (slr true 1 Ae)) v) := by
 refine Bg Vo (Nat.le_of_ble_eq_true rfl) ?_
 unfold Cd at h
 conv => whnf
 refine BslQ.o (slr true 1 Ae) (Ba (List Int)) (by exact fun _ => ⟨rfl, rfl⟩) (by first | rfl | simp only [Aa, V.fz, fzL, V.up, upL, Ab, Ac, Ad, slr, List.cons_append, List.nil_append] | simp [Aa, V.fz, fzL, V.up, upL, Ab, Ac, Ad, slr]) ?_
 conv => whnf
 refine SetKids.lit rfl ?_
 conv => whnf
 refine Cells.lit rfl rfl ?_
 conv => whnf
 refine Len.map ?_
 conv => whnf
 refine LoopQ.o [12, 11, 10, 4, 3, 1] (Gd c0) (J6 c0) h (fun s o h => Q1 s o h) (by first | rfl | simp [restrict, look, Aa, V.fz, fzL, V.up, upL, Ab, Ac, Ad, slr]) (fun _ => rfl) ?_
 rintro q8_3 h
 try dsimp only at h
 conv => whnf
 refine Cells.lit rfl rfl ?_
 conv => whnf
 cases h; exact (by first | rfl | simp only [Ah, Aa, V.fz, fzL, V.up, upL, Ab, Ac, Ad, slr] | simp [Ah, Aa, V.fz, fzL, V.up, upL, Ab, Ac, Ad, slr])
end Go.Proofs.Ytidaaijecmkndaa.Ax
