/-
 What the functions compute, as functions on plain data, and that the program does compute it; written by program.
-/
import Derived.Test.YtidaaijecmkndaaCode
import Derived.Test.YtidaaijecmkndaaG1
import Derived.Test.YtidaaijecmkndaaG3
import Derived.Test.YtidaaijecmkndaaG5
import Derived.Test.YtidaaijecmkndaaG6
import Derived.Test.YtidaaijecmkndaaG7
import Derived.Test.YtidaaijecmkndaaG8
import Derived.Test.YtidaaijecmkndaaG9
namespace Go.Proofs.Ytidaaijecmkndaa.Ax
open Go
set_option maxRecDepth 100000
set_option maxHeartbeats 4000000
noncomputable def Gr (a0 : SAlgebra) : (Int × (List (List Int))) → Option ((Int × (List (List Int))) ⊕ (List (List Int))) := fun (x4, x3) =>
 ask ((0 : Int) ≤ a0.Size) <|
 if x4 < Anr (1 : Int) a0.Size then
 (In (x4)).bind fun r3 =>
 (Dt (a0) (r3)).bind fun r4 =>
 if (r4) = true then
 (I1 (x3) (r3)).bind fun r6 =>
 ask (InI (x4 + (1 : Int))) <|
 some (.inl (x4 + (1 : Int), r6))
 else
 ask (InI (x4 + (1 : Int))) <|
 some (.inl (x4 + (1 : Int), x3))
 else
 some (.inr x3)
def Mg (a0 : SAlgebra) : (Int × (List (List Int))) → St := fun s => [(4, A.val (Af s.1)), (3, A.val ((slr true 1 (slr false 1 Af)) s.2)), (1, A.val ((rP true (Ah false)) (a0)))]
def Sk (_a0 : SAlgebra) : (List (List Int)) → Tgt
 | s => ((Ex.exit 0), [3], [(3, A.val ((slr true 1 (slr false 1 Af)) s))])
theorem Abq {a0 : SAlgebra} (s : (Int × (List (List Int)))) (o : (Int × (List (List Int))) ⊕ (List (List Int))) (h : Gr a0 s = some o) : vc Try.prog Sz (Dl [4, 3, 1] (Mg a0) (Sk a0) o) (Mg a0 s) := by
 obtain ⟨x4, x3⟩ := s
 unfold Gr at h
 try dsimp only at h
 conv => whnf
 refine Cells.lit rfl rfl ?_
 conv => whnf
 refine Ask.o h fun p1 h => ?_
 conv => whnf
 refine Br.od h (fun p2 h => ?_) (fun p2 h => ?_)
 ·conv => whnf
  refine CallQ.o (slr true 1 Af) (by first | rfl | simp only [Aa, V.fz, fzL, V.up, upL, Ab, Ac, Ad, slr, List.cons_append, List.nil_append] | simp [Aa, V.fz, fzL, V.up, upL, Ab, Ac, Ad, slr]) h (fun r h => Afb h) (fun r3 h => ?_)
  conv => whnf
  refine Cells.lit rfl rfl ?_
  conv => whnf
  refine CallQ.rd V.bool (by first | rfl | simp only [V.fz, fzL, Ab, slr] | simp [Aa, V.fz, fzL, V.up, upL, Ab, Ac, Ad, slr]) (fun _ => rfl) h (fun r h => Lv h) (fun r4 h => ?_)
  conv => whnf
  refine Br.ob h (fun p5 h => ?_) (fun p5 h => ?_)
  ·conv => whnf
   refine FrzQ.d (V.sl false (1 : Nat) (List.map (slr false (1 : Nat) Af) x3)) (by first | (simp only [slr]; done) | (simp [Gt, V.fz, Ab, slr]; done)) ?_
   conv => whnf
   refine FrzQ.d (V.sl false (1 : Nat) (List.map Af r3)) (by first | (simp only [slr]; done) | (simp [Gt, V.fz, Ab, slr]; done)) ?_
   conv => whnf
   refine CallQ.o (slr true 1 (slr false 1 Af)) (by first | rfl | simp only [Aa, V.fz, fzL, V.up, upL, Ab, Ac, Ad, slr, List.cons_append, List.nil_append] | simp [Aa, V.fz, fzL, V.up, upL, Ab, Ac, Ad, slr]) h (fun r h => Af0 h) (fun r6 h => ?_)
   conv => whnf
   refine Ask.o h fun p7 h => ?_
   conv => whnf
   cases h; exact ⟨rfl, rfl⟩
  conv => whnf
  refine Ask.o h fun p8 h => ?_
  conv => whnf
  cases h; exact ⟨rfl, rfl⟩
 conv => whnf
 cases h; exact ⟨rfl, rfl⟩
noncomputable def Hw (a0 : SAlgebra) : Option (List (List Int)) :=
 (Ap (Gr a0) ((0 : Int), A9 (List Int))).bind fun q9_3 =>
 some q9_3
theorem Yw {a0 : SAlgebra} {v : (List (List Int))} (h : Hw a0 = some v) : Ret Try.prog Mt [(Ah false) a0] ((slr true 1 (slr false 1 Af)) v) := by
 refine A7 Ai8 (Nat.le_of_ble_eq_true rfl) ?_
 unfold Hw at h
 conv => whnf
 refine BslQ.o (slr true 1 Af) (A9 (List Int)) (by exact fun _ => ⟨rfl, rfl⟩) (by first | rfl | simp only [Aa, V.fz, fzL, V.up, upL, Ab, Ac, Ad, slr, List.cons_append, List.nil_append] | simp [Aa, V.fz, fzL, V.up, upL, Ab, Ac, Ad, slr]) ?_
 conv => whnf
 refine LoopQ.o [4, 3, 1] (Mg a0) (Sk a0) h (fun s o h => Abq s o h) (by first | rfl | simp [restrict, look, Aa, V.fz, fzL, V.up, upL, Ab, Ac, Ad, slr]) (fun _ => rfl) ?_
 rintro q9_3 h
 try dsimp only at h
 conv => whnf
 cases h; exact (by first | rfl | simp only [Ag, Aa, V.fz, fzL, V.up, upL, Ab, Ac, Ad, slr] | simp [Ag, Aa, V.fz, fzL, V.up, upL, Ab, Ac, Ad, slr])
noncomputable def Cz (code0 : (List Int)) : Option (SAlgebra × (List Int)) :=
 (Cp ({ code := code0, at_ := (0 : Int), seed := (0 : Int) })).bind fun (r1, u2) =>
 (Es (u2) (r1)).bind fun (r3, _u4) =>
 some (r1, r3)
theorem R4 {code0 : (List Int)} {v : (SAlgebra × (List Int))} (h : Cz code0 = some v) : Ret Try.prog F8 [(slr false 1 (V.int IntKind.u8)) code0] ((fun r => V.tup [(Ah false) r.1, (slr false 1 Af) r.2]) v) := by
 refine Yp Rz (Nat.le_of_ble_eq_true rfl) ?_
 unfold Cz at h
 conv => whnf
 refine CallQ.io (Ah true) (rP true (Aj false)) (by first | rfl | simp only [Aa, V.fz, fzL, V.up, upL, Ab, Ac, Ad, slr, List.cons_append, List.nil_append] | simp [Aa, V.fz, fzL, V.up, upL, Ab, Ac, Ad, slr]) rfl (fun _ => rfl) (fun _ => ⟨rfl, rfl⟩) rfl h (fun r h => Ll h) (fun r1 u2 h => ?_)
 conv => whnf
 refine SetKids.lit rfl ?_
 conv => whnf
 refine FrzQ.d (V.ptr true (V.agg [V.int IntKind.i64 r1.Size, V.sl false (2 : Nat) (List.map (A4 false) r1.Ops)])) (by first | (simp only [V.fzAt, I9]; done) | exact Eq.trans (b := V.ptr true (V.agg [V.int IntKind.i64 r1.Size, (V.sl true (2 : Nat) (List.map (A4 true) r1.Ops)).fz])) rfl (by simp only [Ac])) ?_
 conv => whnf
 refine Cells.lit rfl rfl ?_
 conv => whnf
 refine Cells.lit rfl rfl ?_
 conv => whnf
 refine LendP.io (slr true 1 Af) (rP true (Aj false)) (by first | rfl | simp only [Aa, V.fz, fzL, V.up, upL, Ab, Ac, Ad, slr, List.cons_append, List.nil_append] | simp [Aa, V.fz, fzL, V.up, upL, Ab, Ac, Ad, slr]) (fun _ => rfl) (fun _ => ⟨rfl, rfl⟩) (fun _ => rfl) h (fun r h => Xe h) (fun r3 u4 h => ?_)
 conv => whnf
 refine SetKids.lit rfl ?_
 conv => whnf
 cases h; exact (by first | rfl | simp only [Ag, V.fz, fzL, V.up, upL, Ab, slr] | simp [Ag, Aa, V.fz, fzL, V.up, upL, Ab, Ac, Ad, slr])
noncomputable def Gs (a0 : SAlgebra) (x0 : (List Int)) (y0 : (List Int)) : Option ((List Int) × Bool) :=
 (Ft (a0) (x0) (y0)).bind fun r1 =>
 if (r1) = true then
 (Fv (x0) (y0)).bind fun r3 =>
 some (r3, true)
 else
 some (A9 Int, false)
theorem Abi {a0 : SAlgebra} {x0 : (List Int)} {y0 : (List Int)} {v : ((List Int) × Bool)} (h : Gs a0 x0 y0 = some v) : Ret Try.prog Md [(Ah false) a0, (slr false 1 Af) x0, (slr false 1 Af) y0] ((fun r => V.tup [(slr true 1 Af) r.1, V.bool r.2]) v) := by
 refine A7 Ab2 (Nat.le_of_ble_eq_true rfl) ?_
 unfold Gs at h
 conv => whnf
 refine Cells.lit rfl rfl ?_
 conv => whnf
 refine CallQ.o V.bool (by first | rfl | simp only [Aa, V.fz, fzL, V.up, upL, Ab, Ac, Ad, slr, List.cons_append, List.nil_append] | simp [Aa, V.fz, fzL, V.up, upL, Ab, Ac, Ad, slr]) h (fun r h => Ui h) (fun r1 h => ?_)
 conv => whnf
 refine Br.flip ?_
 conv => whnf
 refine Br.ob h (fun p2 h => ?_) (fun p2 h => ?_)
 ·conv => whnf
  refine CallQ.o (slr true 1 Af) (by first | rfl | simp only [Aa, V.fz, fzL, V.up, upL, Ab, Ac, Ad, slr, List.cons_append, List.nil_append] | simp [Aa, V.fz, fzL, V.up, upL, Ab, Ac, Ad, slr]) h (fun r h => Zx h) (fun r3 h => ?_)
  conv => whnf
  cases h; exact (by first | rfl | simp only [Ag, Aa, V.fz, fzL, V.up, upL, Ab, Ac, Ad, slr] | simp [Ag, Aa, V.fz, fzL, V.up, upL, Ab, Ac, Ad, slr])
 conv => whnf
 refine BslQ.o Af (A9 Int) (by exact fun _ => ⟨rfl, rfl⟩) (by first | rfl | simp only [Aa, V.fz, fzL, V.up, upL, Ab, Ac, Ad, slr, List.cons_append, List.nil_append] | simp [Aa, V.fz, fzL, V.up, upL, Ab, Ac, Ad, slr]) ?_
 conv => whnf
 cases h; exact (by first | rfl | simp only [Ag, Aa, V.fz, fzL, V.up, upL, Ab, Ac, Ad, slr] | simp [Ag, Aa, V.fz, fzL, V.up, upL, Ab, Ac, Ad, slr])
noncomputable def Gk (a0 : SAlgebra) (x0 : (List Int)) (y0 : (List Int)) : Option ((List Int) × Bool) :=
 (Ft (a0) (x0) (y0)).bind fun r1 =>
 if (r1) = true then
 (Jq (x0)).bind fun r3 =>
 ask ((r3).length + (y0).length ≤ LIM) <|
 (C5 (a0) (r3 ++ y0)).bind fun r4 =>
 some (r4, true)
 else
 some (A9 Int, false)
theorem Aby {a0 : SAlgebra} {x0 : (List Int)} {y0 : (List Int)} {v : ((List Int) × Bool)} (h : Gk a0 x0 y0 = some v) : Ret Try.prog L4 [(Ah false) a0, (slr false 1 Af) x0, (slr false 1 Af) y0] ((fun r => V.tup [(slr true 1 Af) r.1, V.bool r.2]) v) := by
 refine A7 Abz (Nat.le_of_ble_eq_true rfl) ?_
 unfold Gk at h
 conv => whnf
 refine Cells.lit rfl rfl ?_
 conv => whnf
 refine CallQ.o V.bool (by first | rfl | simp only [Aa, V.fz, fzL, V.up, upL, Ab, Ac, Ad, slr, List.cons_append, List.nil_append] | simp [Aa, V.fz, fzL, V.up, upL, Ab, Ac, Ad, slr]) h (fun r h => Ui h) (fun r1 h => ?_)
 conv => whnf
 refine Br.flip ?_
 conv => whnf
 refine Br.ob h (fun p2 h => ?_) (fun p2 h => ?_)
 ·conv => whnf
  refine Cells.lit rfl rfl ?_
  conv => whnf
  refine CallP.o (slr true 1 Af) (by first | rfl | simp only [Aa, V.fz, fzL, V.up, upL, Ab, Ac, Ad, slr, List.cons_append, List.nil_append] | simp [Aa, V.fz, fzL, V.up, upL, Ab, Ac, Ad, slr]) h (fun r h => Ajv h) (fun r3 h => ?_)
  conv => whnf
  refine AppQ.o (m := 1) Af (by exact fun _ => ⟨rfl, rfl⟩) (r3) (y0) (by first | rfl | simp only [Aa, V.fz, fzL, V.up, upL, Ab, Ac, Ad, slr, List.cons_append, List.nil_append] | simp [Aa, V.fz, fzL, V.up, upL, Ab, Ac, Ad, slr]) (by first | rfl | simp only [Aa, V.fz, fzL, V.up, upL, Ab, Ac, Ad, slr, List.cons_append, List.nil_append] | simp [Aa, V.fz, fzL, V.up, upL, Ab, Ac, Ad, slr]) h fun h => ?_
  conv => whnf
  refine CallQ.rd (slr true 1 Af) (by first | rfl | simp only [V.fz, fzL, V.up, Ab, Ad, slr] | simp [Aa, V.fz, fzL, V.up, upL, Ab, Ac, Ad, slr]) (fun _ => by simp [V.noFz, Bo]) h (fun r h => Mk h) (fun r4 h => ?_)
  conv => whnf
  cases h; exact (by first | rfl | simp only [Ag, Aa, V.fz, fzL, V.up, upL, Ab, Ac, Ad, slr] | simp [Ag, Aa, V.fz, fzL, V.up, upL, Ab, Ac, Ad, slr])
 conv => whnf
 refine BslQ.o Af (A9 Int) (by exact fun _ => ⟨rfl, rfl⟩) (by first | rfl | simp only [Aa, V.fz, fzL, V.up, upL, Ab, Ac, Ad, slr, List.cons_append, List.nil_append] | simp [Aa, V.fz, fzL, V.up, upL, Ab, Ac, Ad, slr]) ?_
 conv => whnf
 cases h; exact (by first | rfl | simp only [Ag, Aa, V.fz, fzL, V.up, upL, Ab, Ac, Ad, slr] | simp [Ag, Aa, V.fz, fzL, V.up, upL, Ab, Ac, Ad, slr])
noncomputable def C0 (a0 : SAlgebra) : Option ((List (List Int)) × Bool) :=
 (Cr (a0)).bind fun r1 =>
 if (r1) = true then
 (Hp (a0)).bind fun r3 =>
 some (r3, true)
 else
 some (A9 (List Int), false)
theorem R6 {a0 : SAlgebra} {v : ((List (List Int)) × Bool)} (h : C0 a0 = some v) : Ret Try.prog Gd [(Ah false) a0] ((fun r => V.tup [(slr true 1 (slr true 1 Af)) r.1, V.bool r.2]) v) := by
 refine A7 Rj (Nat.le_of_ble_eq_true rfl) ?_
 unfold C0 at h
 conv => whnf
 refine Cells.lit rfl rfl ?_
 conv => whnf
 refine CallQ.o V.bool (by first | rfl | simp only [Aa, V.fz, fzL, V.up, upL, Ab, Ac, Ad, slr, List.cons_append, List.nil_append] | simp [Aa, V.fz, fzL, V.up, upL, Ab, Ac, Ad, slr]) h (fun r h => H6 h) (fun r1 h => ?_)
 conv => whnf
 refine Br.flip ?_
 conv => whnf
 refine Br.ob h (fun p2 h => ?_) (fun p2 h => ?_)
 ·conv => whnf
  refine Cells.lit rfl rfl ?_
  conv => whnf
  refine CallQ.o (slr true 1 (slr true 1 Af)) (by first | rfl | simp only [Aa, V.fz, fzL, V.up, upL, Ab, Ac, Ad, slr, List.cons_append, List.nil_append] | simp [Aa, V.fz, fzL, V.up, upL, Ab, Ac, Ad, slr]) h (fun r h => Adj h) (fun r3 h => ?_)
  conv => whnf
  cases h; exact (by first | rfl | simp only [Ag, Aa, V.fz, fzL, V.up, upL, Ab, Ac, Ad, slr] | simp [Ag, Aa, V.fz, fzL, V.up, upL, Ab, Ac, Ad, slr])
 conv => whnf
 refine BslQ.o (slr true 1 Af) (A9 (List Int)) (by exact fun _ => ⟨rfl, rfl⟩) (by first | rfl | simp only [Aa, V.fz, fzL, V.up, upL, Ab, Ac, Ad, slr, List.cons_append, List.nil_append] | simp [Aa, V.fz, fzL, V.up, upL, Ab, Ac, Ad, slr]) ?_
 conv => whnf
 cases h; exact (by first | rfl | simp only [Ag, Aa, V.fz, fzL, V.up, upL, Ab, Ac, Ad, slr] | simp [Ag, Aa, V.fz, fzL, V.up, upL, Ab, Ac, Ad, slr])
noncomputable def Cy (a0 : SAlgebra) : Option ((List (List Int)) × Bool) :=
 (Cw (a0)).bind fun r1 =>
 if (r1) = true then
 (Hw (a0)).bind fun r3 =>
 some (r3, true)
 else
 some (A9 (List Int), false)
theorem Sj {a0 : SAlgebra} {v : ((List (List Int)) × Bool)} (h : Cy a0 = some v) : Ret Try.prog Ge [(Ah false) a0] ((fun r => V.tup [(slr false 1 (slr false 1 Af)) r.1, V.bool r.2]) v) := by
 refine Yp Sg (Nat.le_of_ble_eq_true rfl) ?_
 unfold Cy at h
 conv => whnf
 refine Cells.lit rfl rfl ?_
 conv => whnf
 refine CallQ.o V.bool (by first | rfl | simp only [Aa, V.fz, fzL, V.up, upL, Ab, Ac, Ad, slr, List.cons_append, List.nil_append] | simp [Aa, V.fz, fzL, V.up, upL, Ab, Ac, Ad, slr]) h (fun r h => Iw h) (fun r1 h => ?_)
 conv => whnf
 refine Br.flip ?_
 conv => whnf
 refine Br.ob h (fun p2 h => ?_) (fun p2 h => ?_)
 ·conv => whnf
  refine Cells.lit rfl rfl ?_
  conv => whnf
  refine CallQ.o (slr true 1 (slr false 1 Af)) (by first | rfl | simp only [Aa, V.fz, fzL, V.up, upL, Ab, Ac, Ad, slr, List.cons_append, List.nil_append] | simp [Aa, V.fz, fzL, V.up, upL, Ab, Ac, Ad, slr]) h (fun r h => Yw h) (fun r3 h => ?_)
  conv => whnf
  cases h; exact (by first | rfl | simp only [Ag, V.fz, fzL, V.up, Ab, slr] | simp [Ag, Aa, V.fz, fzL, V.up, upL, Ab, Ac, Ad, slr])
 conv => whnf
 refine BslQ.o (slr true 1 Af) (A9 (List Int)) (by exact fun _ => ⟨rfl, rfl⟩) (by first | rfl | simp only [Aa, V.fz, fzL, V.up, upL, Ab, Ac, Ad, slr, List.cons_append, List.nil_append] | simp [Aa, V.fz, fzL, V.up, upL, Ab, Ac, Ad, slr]) ?_
 conv => whnf
 cases h; exact (by first | rfl | simp only [Ag, Aa, V.fz, fzL, V.up, upL, Ab, Ac, Ad, slr] | simp [Ag, Aa, V.fz, fzL, V.up, upL, Ab, Ac, Ad, slr])
noncomputable def Dy (c0 : Sl1Cur) (a0 : SAlgebra) : Option ((List Int) × Sl1Cur) :=
 (Cw (a0)).bind fun r1 =>
 if (r1) = true then
 (Hw (a0)).bind fun r3 =>
 (A3 (c0) ((↑r3.length : Int))).bind fun (r4, u5) =>
 ask ((0 : Int) ≤ r4 ∧ r4 < (↑r3.length : Int)) <|
 (H3 (nth r3 r4.toNat)).bind fun r7 =>
 (A3 (u5) ((16 : Int))).bind fun (r8, u9) =>
 if r8 = (0 : Int) then
 ask (InI (a0.Size - (1 : Int))) <|
 (A2 (u9) ([(0 : Int), a0.Size - (1 : Int), a0.Size])).bind fun (r12, u13) =>
 ask ((r7).length + ([r12]).length ≤ LIM) <|
 some (r7 ++ [r12], u13)
 else
 if r8 = (1 : Int) then
 if (↑r7.length : Int) > (0 : Int) then
 ask (0 ≤ (1 : Int) ∧ (1 : Int) ≤ (↑r7.length : Int) ∧ (↑r7.length : Int) ≤ ((r7.length : Nat) : Int)) <|
 some (List.take ((↑r7.length : Int).toNat - Int.toNat (1 : Int)) (List.drop (Int.toNat (1 : Int)) r7), u9)
 else
 some (r7, u9)
 else
 some (r7, u9)
 else
 some ([(0 : Int)], c0)
theorem Al {c0 : Sl1Cur} {a0 : SAlgebra} {v : ((List Int) × Sl1Cur)} (h : Dy c0 a0 = some v) : Vm Try.prog Ak [(rP true (Aj false)) c0, (Ah false) a0] ((slr false 1 Af) v.1) 0 ((rP true (Aj false)) v.2) := by
 refine Aqm Ya (Nat.le_of_ble_eq_true rfl) ?_
 unfold Dy at h
 conv => whnf
 refine Cells.lit rfl rfl ?_
 conv => whnf
 refine CallQ.o V.bool (by first | rfl | simp only [Aa, V.fz, fzL, V.up, upL, Ab, Ac, Ad, slr, List.cons_append, List.nil_append] | simp [Aa, V.fz, fzL, V.up, upL, Ab, Ac, Ad, slr]) h (fun r h => Iw h) (fun r1 h => ?_)
 conv => whnf
 refine Br.flip ?_
 conv => whnf
 refine Br.ob h (fun p2 h => ?_) (fun p2 h => ?_)
 ·conv => whnf
  refine Cells.lit rfl rfl ?_
  conv => whnf
  refine CallQ.o (slr true 1 (slr false 1 Af)) (by first | rfl | simp only [Aa, V.fz, fzL, V.up, upL, Ab, Ac, Ad, slr, List.cons_append, List.nil_append] | simp [Aa, V.fz, fzL, V.up, upL, Ab, Ac, Ad, slr]) h (fun r h => Yw h) (fun r3 h => ?_)
  conv => whnf
  refine Len.map ?_
  conv => whnf
  refine CallQ.io Af (rP true (Aj false)) (by first | rfl | simp only [Aa, V.fz, fzL, V.up, upL, Ab, Ac, Ad, slr, List.cons_append, List.nil_append] | simp [Aa, V.fz, fzL, V.up, upL, Ab, Ac, Ad, slr]) rfl (fun _ => rfl) (fun _ => ⟨rfl, rfl⟩) rfl h (fun r h => Bd h) (fun r4 u5 h => ?_)
  conv => whnf
  refine Len.map ?_
  conv => whnf
  refine Ask.o h fun p6 h => ?_
  conv => whnf
  refine Cells.one (fun _ => ⟨rfl, rfl⟩) (by first | omega | (simp [Au] at *; omega)) ?_
  conv => whnf
  refine CallQ.o (slr true 1 Af) (by first | rfl | simp only [Aa, V.fz, fzL, V.up, upL, Ab, Ac, Ad, slr, List.cons_append, List.nil_append] | simp [Aa, V.fz, fzL, V.up, upL, Ab, Ac, Ad, slr]) h (fun r h => Y0 h) (fun r7 h => ?_)
  conv => whnf
  refine CallQ.io Af (rP true (Aj false)) (by first | rfl | simp only [Aa, V.fz, fzL, V.up, upL, Ab, Ac, Ad, slr, List.cons_append, List.nil_append] | simp [Aa, V.fz, fzL, V.up, upL, Ab, Ac, Ad, slr]) rfl (fun _ => rfl) (fun _ => ⟨rfl, rfl⟩) rfl h (fun r h => Bd h) (fun r8 u9 h => ?_)
  conv => whnf
  refine Br.oe h (fun p10 h => ?_) (fun p10 h => ?_)
  ·conv => whnf
   refine Cells.lit rfl rfl ?_
   conv => whnf
   refine Ask.o h fun p11 h => ?_
   conv => whnf
   refine Cells.lit rfl rfl ?_
   conv => whnf
   refine BslQ.o Af ([(0 : Int), a0.Size - (1 : Int), a0.Size]) (by exact fun _ => ⟨rfl, rfl⟩) (by first | rfl | simp only [Aa, V.fz, fzL, V.up, upL, Ab, Ac, Ad, slr, List.cons_append, List.nil_append] | simp [Aa, V.fz, fzL, V.up, upL, Ab, Ac, Ad, slr]) ?_
   conv => whnf
   refine CallQ.io Af (rP true (Aj false)) (by first | rfl | simp only [Aa, V.fz, fzL, V.up, upL, Ab, Ac, Ad, slr, List.cons_append, List.nil_append] | simp [Aa, V.fz, fzL, V.up, upL, Ab, Ac, Ad, slr]) rfl (fun _ => rfl) (fun _ => ⟨rfl, rfl⟩) rfl h (fun r h => Bf h) (fun r12 u13 h => ?_)
   conv => whnf
   refine BslQ.o Af [r12] (by exact fun _ => ⟨rfl, rfl⟩) (by first | rfl | simp only [Aa, V.fz, fzL, V.up, upL, Ab, Ac, Ad, slr, List.cons_append, List.nil_append] | simp [Aa, V.fz, fzL, V.up, upL, Ab, Ac, Ad, slr]) ?_
   conv => whnf
   refine NoOwn.o (fun _ => rfl) ?_
   conv => whnf
   refine AppQ.o (m := 1) Af (by exact fun _ => ⟨rfl, rfl⟩) (r7) ([r12]) (by first | rfl | simp only [Aa, V.fz, fzL, V.up, upL, Ab, Ac, Ad, slr, List.cons_append, List.nil_append] | simp [Aa, V.fz, fzL, V.up, upL, Ab, Ac, Ad, slr]) (by first | rfl | simp only [Aa, V.fz, fzL, V.up, upL, Ab, Ac, Ad, slr, List.cons_append, List.nil_append] | simp [Aa, V.fz, fzL, V.up, upL, Ab, Ac, Ad, slr]) h fun h => ?_
   conv => whnf
   cases h; exact ⟨(by first | rfl | simp only [Ag, Ac, slr] | simp [Ag, Aa, V.fz, fzL, V.up, upL, Ab, Ac, Ad, slr]), (by first | rfl | simp only [Ag, Aa, V.fz, fzL, V.up, upL, Ab, Ac, Ad, slr] | simp [Ag, Aa, V.fz, fzL, V.up, upL, Ab, Ac, Ad, slr])⟩
  conv => whnf
  refine Br.oe h (fun p14 h => ?_) (fun p14 h => ?_)
  ·conv => whnf
   refine Len.map ?_
   conv => whnf
   refine Br.od h (fun p15 h => ?_) (fun p15 h => ?_)
   ·conv => whnf
    refine FrzQ.d (V.sl false (1 : Nat) (List.map Af r7)) (by first | (simp only [slr]; done) | (simp [Gt, V.fz, Ab, slr]; done)) ?_
    conv => whnf
    refine Len.map ?_
    conv => whnf
    refine SlcQ.o Af h fun h => ?_
    conv => whnf
    cases h; exact ⟨(by first | rfl | simp only [Ag, Aa, V.fz, fzL, V.up, upL, Ab, Ac, Ad, slr] | simp [Ag, Aa, V.fz, fzL, V.up, upL, Ab, Ac, Ad, slr]), (by first | rfl | simp only [Ag, Aa, V.fz, fzL, V.up, upL, Ab, Ac, Ad, slr] | simp [Ag, Aa, V.fz, fzL, V.up, upL, Ab, Ac, Ad, slr])⟩
   conv => whnf
   cases h; exact ⟨(by first | rfl | simp only [Ag, Ac, slr] | simp [Ag, Aa, V.fz, fzL, V.up, upL, Ab, Ac, Ad, slr]), (by first | rfl | simp only [Ag, Aa, V.fz, fzL, V.up, upL, Ab, Ac, Ad, slr] | simp [Ag, Aa, V.fz, fzL, V.up, upL, Ab, Ac, Ad, slr])⟩
  conv => whnf
  cases h; exact ⟨(by first | rfl | simp only [Ag, Ac, slr] | simp [Ag, Aa, V.fz, fzL, V.up, upL, Ab, Ac, Ad, slr]), (by first | rfl | simp only [Ag, Aa, V.fz, fzL, V.up, upL, Ab, Ac, Ad, slr] | simp [Ag, Aa, V.fz, fzL, V.up, upL, Ab, Ac, Ad, slr])⟩
 conv => whnf
 refine BslQ.o Af ([(0 : Int)]) (by exact fun _ => ⟨rfl, rfl⟩) (by first | rfl | simp only [Aa, V.fz, fzL, V.up, upL, Ab, Ac, Ad, slr, List.cons_append, List.nil_append] | simp [Aa, V.fz, fzL, V.up, upL, Ab, Ac, Ad, slr]) ?_
 conv => whnf
 cases h; exact ⟨(by first | rfl | simp only [Ag, Aa, V.fz, fzL, V.up, upL, Ab, Ac, Ad, slr] | simp [Ag, Aa, V.fz, fzL, V.up, upL, Ab, Ac, Ad, slr]), (by first | rfl | simp only [Ag, Aa, V.fz, fzL, V.up, upL, Ab, Ac, Ad, slr] | simp [Ag, Aa, V.fz, fzL, V.up, upL, Ab, Ac, Ad, slr])⟩
end Go.Proofs.Ytidaaijecmkndaa.Ax
