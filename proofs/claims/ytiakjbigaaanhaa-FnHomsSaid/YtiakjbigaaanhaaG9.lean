/-
 What the functions compute, as functions on plain data, and that the program does compute it; written by program.
-/
import Derived.Test.YtiakjbigaaanhaaCode
import Derived.Test.YtiakjbigaaanhaaG2
import Derived.Test.YtiakjbigaaanhaaG3
import Derived.Test.YtiakjbigaaanhaaG4
import Derived.Test.YtiakjbigaaanhaaG6
import Derived.Test.YtiakjbigaaanhaaG7
namespace Go.Proofs.Ytiakjbigaaanhaa.Ax
open Go
set_option maxRecDepth 100000
set_option maxHeartbeats 4000000
noncomputable def Dp (a0 : SAlgebra) (b0 : SAlgebra) : Option Bool :=
 (Cv (a0)).bind fun r1 =>
 if (r1) = true then
 (Cv (b0)).bind fun r3 =>
 if (r3) = true then
 (Dq (a0) (b0)).bind fun r5 =>
 some r5
 else
 some false
 else
 some false
theorem Ia {a0 : SAlgebra} {b0 : SAlgebra} {v : Bool} (h : Dp a0 b0 = some v) : Ret Try.prog Fh [(Ae false) a0, (Ae false) b0] (V.bool v) := by
 refine Av Ak0 (Nat.le_of_ble_eq_true rfl) ?_
 unfold Dp at h
 conv => whnf
 refine Cells.lit rfl rfl ?_
 conv => whnf
 refine CallQ.o V.bool (by first | rfl | simp only [Aa, V.fz, fzL, V.up, upL, Ab, Ac, Ad, slr, List.cons_append, List.nil_append] | simp [Aa, V.fz, fzL, V.up, upL, Ab, Ac, Ad, slr]) h (fun r h => G1 h) (fun r1 h => ?_)
 conv => whnf
 refine Br.ob h (fun p2 h => ?_) (fun p2 h => ?_)
 ·conv => whnf
  refine Cells.lit rfl rfl ?_
  conv => whnf
  refine Br.yes ?_
  conv => whnf
  refine CallQ.o V.bool (by first | rfl | simp only [Aa, V.fz, fzL, V.up, upL, Ab, Ac, Ad, slr, List.cons_append, List.nil_append] | simp [Aa, V.fz, fzL, V.up, upL, Ab, Ac, Ad, slr]) h (fun r h => G1 h) (fun r3 h => ?_)
  conv => whnf
  refine Br.yes ?_
  conv => whnf
  refine Br.ob h (fun p4 h => ?_) (fun p4 h => ?_)
  ·conv => whnf
   refine Cells.lit rfl rfl ?_
   conv => whnf
   refine Br.yes ?_
   conv => whnf
   refine Cells.lit rfl rfl ?_
   conv => whnf
   refine Br.yes ?_
   conv => whnf
   refine CallQ.o V.bool (by first | rfl | simp only [Aa, V.fz, fzL, V.up, upL, Ab, Ac, Ad, slr, List.cons_append, List.nil_append] | simp [Aa, V.fz, fzL, V.up, upL, Ab, Ac, Ad, slr]) h (fun r h => Qv h) (fun r5 h => ?_)
   conv => whnf
   refine Br.yes ?_
   conv => whnf
   cases h; exact (by first | rfl | simp only [Ah, Aa, V.fz, fzL, V.up, upL, Ab, Ac, Ad, slr] | simp [Ah, Aa, V.fz, fzL, V.up, upL, Ab, Ac, Ad, slr])
  conv => whnf
  refine Br.no ?_
  conv => whnf
  refine Br.no ?_
  conv => whnf
  refine Br.no ?_
  conv => whnf
  cases h; exact (by first | rfl | simp only [Ah, Aa, V.fz, fzL, V.up, upL, Ab, Ac, Ad, slr] | simp [Ah, Aa, V.fz, fzL, V.up, upL, Ab, Ac, Ad, slr])
 conv => whnf
 refine Br.no ?_
 conv => whnf
 refine Br.no ?_
 conv => whnf
 refine Br.no ?_
 conv => whnf
 refine Br.no ?_
 conv => whnf
 refine Br.no ?_
 conv => whnf
 refine Br.no ?_
 conv => whnf
 cases h; exact (by first | rfl | simp only [Ah, Aa, V.fz, fzL, V.up, upL, Ab, Ac, Ad, slr] | simp [Ah, Aa, V.fz, fzL, V.up, upL, Ab, Ac, Ad, slr])
noncomputable def Gg (a0 : SAlgebra) (b0 : SAlgebra) (f0 : (List Int)) : Option Bool :=
 (H5 (a0) (b0) (f0)).bind fun r1 =>
 if (r1) = true then
 (E4 (a0) (b0) (f0)).bind fun r3 =>
 some !r3.snd.snd
 else
 some false
theorem Qf {a0 : SAlgebra} {b0 : SAlgebra} {f0 : (List Int)} {v : Bool} (h : Gg a0 b0 f0 = some v) : Ret Try.prog Ji [(Ae false) a0, (Ae false) b0, (slr false 1 Ag) f0] (V.bool v) := by
 refine Av Aov (Nat.le_of_ble_eq_true rfl) ?_
 unfold Gg at h
 conv => whnf
 refine Cells.lit rfl rfl ?_
 conv => whnf
 refine Cells.lit rfl rfl ?_
 conv => whnf
 refine CallQ.o V.bool (by first | rfl | simp only [Aa, V.fz, fzL, V.up, upL, Ab, Ac, Ad, slr, List.cons_append, List.nil_append] | simp [Aa, V.fz, fzL, V.up, upL, Ab, Ac, Ad, slr]) h (fun r h => Zj h) (fun r1 h => ?_)
 conv => whnf
 refine Br.flip ?_
 conv => whnf
 refine Br.ob h (fun p2 h => ?_) (fun p2 h => ?_)
 ·conv => whnf
  refine Cells.lit rfl rfl ?_
  conv => whnf
  refine Cells.lit rfl rfl ?_
  conv => whnf
  refine CallQ.o (fun r => V.tup [Ag r.1, (slr true 1 Ag) r.2.1, V.bool r.2.2]) (by first | rfl | simp only [Aa, V.fz, fzL, V.up, upL, Ab, Ac, Ad, slr, List.cons_append, List.nil_append] | simp [Aa, V.fz, fzL, V.up, upL, Ab, Ac, Ad, slr]) h (fun r h => Uz h) (fun r3 h => ?_)
  conv => whnf
  cases h; exact (by first | rfl | simp only [Ah, Aa, V.fz, fzL, V.up, upL, Ab, Ac, Ad, slr] | simp [Ah, Aa, V.fz, fzL, V.up, upL, Ab, Ac, Ad, slr])
 conv => whnf
 cases h; exact (by first | rfl | simp only [Ah, Aa, V.fz, fzL, V.up, upL, Ab, Ac, Ad, slr] | simp [Ah, Aa, V.fz, fzL, V.up, upL, Ab, Ac, Ad, slr])
noncomputable def Ki (a0 : SAlgebra) (op0 : Int) : Option Bool :=
 (B8 (a0)).bind fun r1 =>
 if (r1) = true then
 if op0 ≥ (0 : Int) then
 some (decide (op0 < (↑a0.Ops.length : Int)))
 else
 some false
 else
 some false
theorem Al6 {a0 : SAlgebra} {op0 : Int} {v : Bool} (h : Ki a0 op0 = some v) : Ret Try.prog S8 [(Ae false) a0, Ag op0] (V.bool v) := by
 refine Av Akj (Nat.le_of_ble_eq_true rfl) ?_
 unfold Ki at h
 conv => whnf
 refine Cells.lit rfl rfl ?_
 conv => whnf
 refine CallQ.o V.bool (by first | rfl | simp only [Aa, V.fz, fzL, V.up, upL, Ab, Ac, Ad, slr, List.cons_append, List.nil_append] | simp [Aa, V.fz, fzL, V.up, upL, Ab, Ac, Ad, slr]) h (fun r h => Ga h) (fun r1 h => ?_)
 conv => whnf
 refine Br.ob h (fun p2 h => ?_) (fun p2 h => ?_)
 ·conv => whnf
  refine Br.yes ?_
  conv => whnf
  refine Br.yes ?_
  conv => whnf
  refine Br.od h (fun p3 h => ?_) (fun p3 h => ?_)
  ·conv => whnf
   refine Br.yes ?_
   conv => whnf
   refine Br.yes ?_
   conv => whnf
   refine Cells.lit rfl rfl ?_
   conv => whnf
   refine Br.yes ?_
   conv => whnf
   refine Len.map ?_
   conv => whnf
   refine Br.yes ?_
   conv => whnf
   refine Br.yes ?_
   conv => whnf
   cases h; exact (by first | rfl | simp only [Ah, Aa, V.fz, fzL, V.up, upL, Ab, Ac, Ad, slr] | simp [Ah, Aa, V.fz, fzL, V.up, upL, Ab, Ac, Ad, slr])
  conv => whnf
  refine Br.no ?_
  conv => whnf
  refine Br.no ?_
  conv => whnf
  refine Br.no ?_
  conv => whnf
  refine Br.no ?_
  conv => whnf
  refine Br.no ?_
  conv => whnf
  cases h; exact (by first | rfl | simp only [Ah, Aa, V.fz, fzL, V.up, upL, Ab, Ac, Ad, slr] | simp [Ah, Aa, V.fz, fzL, V.up, upL, Ab, Ac, Ad, slr])
 conv => whnf
 refine Br.no ?_
 conv => whnf
 refine Br.no ?_
 conv => whnf
 refine Br.no ?_
 conv => whnf
 refine Br.no ?_
 conv => whnf
 refine Br.no ?_
 conv => whnf
 refine Br.no ?_
 conv => whnf
 refine Br.no ?_
 conv => whnf
 refine Br.no ?_
 conv => whnf
 cases h; exact (by first | rfl | simp only [Ah, Aa, V.fz, fzL, V.up, upL, Ab, Ac, Ad, slr] | simp [Ah, Aa, V.fz, fzL, V.up, upL, Ab, Ac, Ad, slr])
noncomputable def Cz (n0 : Int) : (Int × (List Int) × Sl1Cur) → Option ((Int × (List Int) × Sl1Cur) ⊕ ((List Int) × Sl1Cur)) := fun (x6, x5, x53) =>
 if x6 < n0 then
 ask (InI ((↑x5.length : Int) + (1 : Int))) <|
 (Ak (x53) ((↑x5.length : Int) + (1 : Int))).bind fun (r3, u4) =>
 ask (0 ≤ (0 : Int) ∧ (0 : Int) ≤ r3 ∧ r3 ≤ ((x5.length : Nat) : Int)) <|
 ask ((Al Int).length + (List.take (r3.toNat - Int.toNat (0 : Int)) (List.drop (Int.toNat (0 : Int)) x5)).length ≤ LIM) <|
 ask ((Al Int ++ List.take (r3.toNat - Int.toNat (0 : Int)) (List.drop (Int.toNat (0 : Int)) x5)).length + ([x6]).length ≤ LIM) <|
 ask (0 ≤ r3 ∧ r3 ≤ (↑x5.length : Int) ∧ (↑x5.length : Int) ≤ ((x5.length : Nat) : Int)) <|
 ask ((Al Int ++ List.take (r3.toNat - Int.toNat (0 : Int)) (List.drop (Int.toNat (0 : Int)) x5) ++ [x6]).length + (List.take ((↑x5.length : Int).toNat - r3.toNat) (List.drop r3.toNat x5)).length ≤ LIM) <|
 ask (InI (x6 + (1 : Int))) <|
 some (.inl (x6 + (1 : Int), Al Int ++ List.take (r3.toNat - Int.toNat (0 : Int)) (List.drop (Int.toNat (0 : Int)) x5) ++ [x6] ++ List.take ((↑x5.length : Int).toNat - r3.toNat) (List.drop r3.toNat x5), u4))
 else
 some (.inr (x5, x53))
def Gl (n0 : Int) : (Int × (List Int) × Sl1Cur) → St := fun s => [(6, A.val (Ag s.1)), (5, A.val ((slr true 1 Ag) s.2.1)), (0, A.ref 53 []), (53, A.val ((rP true (Aj false)) s.2.2)), (1, A.val (Ag (n0)))]
def J7 (n0 : Int) : ((List Int) × Sl1Cur) → Tgt
 | s => ((Ex.exit 0), [5, 0, 53, 1], [(5, A.val ((slr true 1 Ag) s.1)), (0, A.ref 53 []), (53, A.val ((rP true (Aj false)) s.2)), (1, A.val (Ag (n0)))])
theorem Tm {n0 : Int} (s : (Int × (List Int) × Sl1Cur)) (o : (Int × (List Int) × Sl1Cur) ⊕ ((List Int) × Sl1Cur)) (h : Cz n0 s = some o) : vc Try.prog J3 (Cc [6, 5, 0, 53, 1] (Gl n0) (J7 n0) o) (Gl n0 s) := by
 obtain ⟨x6, x5, x53⟩ := s
 unfold Cz at h
 try dsimp only at h
 conv => whnf
 refine Br.od h (fun p1 h => ?_) (fun p1 h => ?_)
 ·conv => whnf
  refine Len.map ?_
  conv => whnf
  refine Ask.o h fun p2 h => ?_
  conv => whnf
  refine CallQ.io Ag (rP true (Aj false)) (by first | rfl | simp only [Aa, V.fz, fzL, V.up, upL, Ab, Ac, Ad, slr, List.cons_append, List.nil_append] | simp [Aa, V.fz, fzL, V.up, upL, Ab, Ac, Ad, slr]) rfl (fun _ => rfl) (fun _ => ⟨rfl, rfl⟩) rfl h (fun r h => Ar h) (fun r3 u4 h => ?_)
  conv => whnf
  refine FrzQ.d (V.sl false (1 : Nat) (List.map Ag x5)) (by first | (simp only [slr]; done) | (simp [A9, V.fz, Ab, slr]; done)) ?_
  conv => whnf
  refine BslQ.o Ag (Al Int) (by exact fun _ => ⟨rfl, rfl⟩) (by first | rfl | simp only [Aa, V.fz, fzL, V.up, upL, Ab, Ac, Ad, slr, List.cons_append, List.nil_append] | simp [Aa, V.fz, fzL, V.up, upL, Ab, Ac, Ad, slr]) ?_
  conv => whnf
  refine SlcQ.o Ag h fun h => ?_
  conv => whnf
  refine AppQ.o (m := 1) Ag (by exact fun _ => ⟨rfl, rfl⟩) (Al Int) (List.take (r3.toNat - Int.toNat (0 : Int)) (List.drop (Int.toNat (0 : Int)) x5)) (by first | rfl | simp only [Aa, V.fz, fzL, V.up, upL, Ab, Ac, Ad, slr, List.cons_append, List.nil_append] | simp [Aa, V.fz, fzL, V.up, upL, Ab, Ac, Ad, slr]) (by first | rfl | simp only [Aa, V.fz, fzL, V.up, upL, Ab, Ac, Ad, slr, List.cons_append, List.nil_append] | simp [Aa, V.fz, fzL, V.up, upL, Ab, Ac, Ad, slr]) h fun h => ?_
  conv => whnf
  refine BslQ.o Ag [x6] (by exact fun _ => ⟨rfl, rfl⟩) (by first | rfl | simp only [Aa, V.fz, fzL, V.up, upL, Ab, Ac, Ad, slr, List.cons_append, List.nil_append] | simp [Aa, V.fz, fzL, V.up, upL, Ab, Ac, Ad, slr]) ?_
  conv => whnf
  refine NoOwn.o (fun _ => rfl) ?_
  conv => whnf
  refine AppQ.o (m := 1) Ag (by exact fun _ => ⟨rfl, rfl⟩) (Al Int ++ List.take (r3.toNat - Int.toNat (0 : Int)) (List.drop (Int.toNat (0 : Int)) x5)) ([x6]) (by first | rfl | simp only [Aa, V.fz, fzL, V.up, upL, Ab, Ac, Ad, slr, List.cons_append, List.nil_append] | simp [Aa, V.fz, fzL, V.up, upL, Ab, Ac, Ad, slr]) (by first | rfl | simp only [Aa, V.fz, fzL, V.up, upL, Ab, Ac, Ad, slr, List.cons_append, List.nil_append] | simp [Aa, V.fz, fzL, V.up, upL, Ab, Ac, Ad, slr]) h fun h => ?_
  conv => whnf
  refine Len.map ?_
  conv => whnf
  refine SlcQ.o Ag h fun h => ?_
  conv => whnf
  refine AppQ.o (m := 1) Ag (by exact fun _ => ⟨rfl, rfl⟩) (Al Int ++ List.take (r3.toNat - Int.toNat (0 : Int)) (List.drop (Int.toNat (0 : Int)) x5) ++ [x6]) (List.take ((↑x5.length : Int).toNat - r3.toNat) (List.drop r3.toNat x5)) (by first | rfl | simp only [Aa, V.fz, fzL, V.up, upL, Ab, Ac, Ad, slr, List.cons_append, List.nil_append] | simp [Aa, V.fz, fzL, V.up, upL, Ab, Ac, Ad, slr]) (by first | rfl | simp only [Aa, V.fz, fzL, V.up, upL, Ab, Ac, Ad, slr, List.cons_append, List.nil_append] | simp [Aa, V.fz, fzL, V.up, upL, Ab, Ac, Ad, slr]) h fun h => ?_
  conv => whnf
  refine Ask.o h fun p5 h => ?_
  conv => whnf
  cases h; exact ⟨rfl, rfl⟩
 conv => whnf
 cases h; exact ⟨rfl, rfl⟩
noncomputable def C4 (c0 : Sl1Cur) (n0 : Int) : Option ((List Int) × Sl1Cur) :=
 (Am (Cz n0) ((0 : Int), Al Int, c0)).bind fun (q6_5, q6_53) =>
 (Ak (q6_53) ((24 : Int))).bind fun (r7, u8) =>
 if r7 = (0 : Int) then
 ask ((q6_5).length + ([n0]).length ≤ LIM) <|
 some (q6_5 ++ [n0], u8)
 else
 if r7 = (1 : Int) then
 if n0 > (0 : Int) then
 (Ak (u8) (n0)).bind fun (r12, u13) =>
 (A7 (u13) ([(0 : Int), (-1 : Int), n0])).bind fun (r14, u15) =>
 ask ((0 : Int) ≤ r12 ∧ r12 < (↑q6_5.length : Int)) <|
 some (q6_5.set r12.toNat r14, u15)
 else
 some (q6_5, u8)
 else
 some (q6_5, u8)
theorem Wy {c0 : Sl1Cur} {n0 : Int} {v : ((List Int) × Sl1Cur)} (h : C4 c0 n0 = some v) : Tu Try.prog Ij [(rP true (Aj false)) c0, Ag n0] ((slr true 1 Ag) v.1) 0 ((rP true (Aj false)) v.2) := by
 refine Qh Ws (Nat.le_of_ble_eq_true rfl) ?_
 unfold C4 at h
 conv => whnf
 refine BslQ.o Ag (Al Int) (by exact fun _ => ⟨rfl, rfl⟩) (by first | rfl | simp only [Aa, V.fz, fzL, V.up, upL, Ab, Ac, Ad, slr, List.cons_append, List.nil_append] | simp [Aa, V.fz, fzL, V.up, upL, Ab, Ac, Ad, slr]) ?_
 conv => whnf
 refine LoopQ.o [6, 5, 0, 53, 1] (Gl n0) (J7 n0) h (fun s o h => Tm s o h) (by first | rfl | simp [restrict, look, Aa, V.fz, fzL, V.up, upL, Ab, Ac, Ad, slr]) (fun _ => rfl) ?_
 rintro ⟨q6_5, q6_53⟩ h
 try dsimp only at h
 conv => whnf
 refine CallQ.io Ag (rP true (Aj false)) (by first | rfl | simp only [Aa, V.fz, fzL, V.up, upL, Ab, Ac, Ad, slr, List.cons_append, List.nil_append] | simp [Aa, V.fz, fzL, V.up, upL, Ab, Ac, Ad, slr]) rfl (fun _ => rfl) (fun _ => ⟨rfl, rfl⟩) rfl h (fun r h => Ar h) (fun r7 u8 h => ?_)
 conv => whnf
 refine Br.oe h (fun p9 h => ?_) (fun p9 h => ?_)
 ·conv => whnf
  refine BslQ.o Ag [n0] (by exact fun _ => ⟨rfl, rfl⟩) (by first | rfl | simp only [Aa, V.fz, fzL, V.up, upL, Ab, Ac, Ad, slr, List.cons_append, List.nil_append] | simp [Aa, V.fz, fzL, V.up, upL, Ab, Ac, Ad, slr]) ?_
  conv => whnf
  refine NoOwn.o (fun _ => rfl) ?_
  conv => whnf
  refine AppQ.o (m := 1) Ag (by exact fun _ => ⟨rfl, rfl⟩) (q6_5) ([n0]) (by first | rfl | simp only [Aa, V.fz, fzL, V.up, upL, Ab, Ac, Ad, slr, List.cons_append, List.nil_append] | simp [Aa, V.fz, fzL, V.up, upL, Ab, Ac, Ad, slr]) (by first | rfl | simp only [Aa, V.fz, fzL, V.up, upL, Ab, Ac, Ad, slr, List.cons_append, List.nil_append] | simp [Aa, V.fz, fzL, V.up, upL, Ab, Ac, Ad, slr]) h fun h => ?_
  conv => whnf
  cases h; exact ⟨(by first | rfl | simp only [Ah, Aa, V.fz, fzL, V.up, upL, Ab, Ac, Ad, slr] | simp [Ah, Aa, V.fz, fzL, V.up, upL, Ab, Ac, Ad, slr]), (by first | rfl | simp only [Ah, Aa, V.fz, fzL, V.up, upL, Ab, Ac, Ad, slr] | simp [Ah, Aa, V.fz, fzL, V.up, upL, Ab, Ac, Ad, slr])⟩
 conv => whnf
 refine Br.oe h (fun p10 h => ?_) (fun p10 h => ?_)
 ·conv => whnf
  refine Br.od h (fun p11 h => ?_) (fun p11 h => ?_)
  ·conv => whnf
   refine CallQ.io Ag (rP true (Aj false)) (by first | rfl | simp only [Aa, V.fz, fzL, V.up, upL, Ab, Ac, Ad, slr, List.cons_append, List.nil_append] | simp [Aa, V.fz, fzL, V.up, upL, Ab, Ac, Ad, slr]) rfl (fun _ => rfl) (fun _ => ⟨rfl, rfl⟩) rfl h (fun r h => Ar h) (fun r12 u13 h => ?_)
   conv => whnf
   refine BslQ.o Ag ([(0 : Int), (-1 : Int), n0]) (by exact fun _ => ⟨rfl, rfl⟩) (by first | rfl | simp only [Aa, V.fz, fzL, V.up, upL, Ab, Ac, Ad, slr, List.cons_append, List.nil_append] | simp [Aa, V.fz, fzL, V.up, upL, Ab, Ac, Ad, slr]) ?_
   conv => whnf
   refine CallQ.io Ag (rP true (Aj false)) (by first | rfl | simp only [Aa, V.fz, fzL, V.up, upL, Ab, Ac, Ad, slr, List.cons_append, List.nil_append] | simp [Aa, V.fz, fzL, V.up, upL, Ab, Ac, Ad, slr]) rfl (fun _ => rfl) (fun _ => ⟨rfl, rfl⟩) rfl h (fun r h => Bg h) (fun r14 u15 h => ?_)
   conv => whnf
   refine Len.map ?_
   conv => whnf
   refine Ask.o h fun p16 h => ?_
   conv => whnf
   refine SetKids.one (fun _ => ⟨rfl, rfl⟩) (r14) (by first | rfl | simp only [Aa, V.fz, fzL, V.up, upL, Ab, Ac, Ad, slr, List.cons_append, List.nil_append] | simp [Aa, V.fz, fzL, V.up, upL, Ab, Ac, Ad, slr]) (by first | omega | (simp [Ap] at *; omega)) ?_
   conv => whnf
   cases h; exact ⟨(by first | rfl | simp only [Ah, Aa, V.fz, fzL, V.up, upL, Ab, Ac, Ad, slr] | simp [Ah, Aa, V.fz, fzL, V.up, upL, Ab, Ac, Ad, slr]), (by first | rfl | simp only [Ah, Aa, V.fz, fzL, V.up, upL, Ab, Ac, Ad, slr] | simp [Ah, Aa, V.fz, fzL, V.up, upL, Ab, Ac, Ad, slr])⟩
  conv => whnf
  cases h; exact ⟨(by first | rfl | simp only [Ah, Aa, V.fz, fzL, V.up, upL, Ab, Ac, Ad, slr] | simp [Ah, Aa, V.fz, fzL, V.up, upL, Ab, Ac, Ad, slr]), (by first | rfl | simp only [Ah, Aa, V.fz, fzL, V.up, upL, Ab, Ac, Ad, slr] | simp [Ah, Aa, V.fz, fzL, V.up, upL, Ab, Ac, Ad, slr])⟩
 conv => whnf
 cases h; exact ⟨(by first | rfl | simp only [Ah, Aa, V.fz, fzL, V.up, upL, Ab, Ac, Ad, slr] | simp [Ah, Aa, V.fz, fzL, V.up, upL, Ab, Ac, Ad, slr]), (by first | rfl | simp only [Ah, Aa, V.fz, fzL, V.up, upL, Ab, Ac, Ad, slr] | simp [Ah, Aa, V.fz, fzL, V.up, upL, Ab, Ac, Ad, slr])⟩
noncomputable def Fy (a0 : SAlgebra) (_b0 : SAlgebra) (_into0 : Bool) (_onto0 : Bool) (_most0 : Int) : (Int × (List Int)) → Option ((Int × (List Int)) ⊕ (List Int)) := fun (x14, x13) =>
 if x14 < a0.Size then
 ask ((x13).length + ([(-1 : Int)]).length ≤ LIM) <|
 ask (InI (x14 + (1 : Int))) <|
 some (.inl (x14 + (1 : Int), x13 ++ [(-1 : Int)]))
 else
 some (.inr x13)
def K3 (a0 : SAlgebra) (b0 : SAlgebra) (into0 : Bool) (onto0 : Bool) (most0 : Int) : (Int × (List Int)) → St := fun s => [(14, A.val (Ag s.1)), (13, A.val ((slr true 1 Ag) s.2)), (12, A.val ((rP true (A3)) ({ a := a0, b := b0, into := into0, onto := onto0, most := most0, tries := (0 : Int), found := Al (List Int) }))), (6, A.val ((rP true (Ae false)) (b0))), (5, A.val ((rP true (Ae false)) (a0))), (2, A.val (V.bool (into0)))]
def R8 (a0 : SAlgebra) (b0 : SAlgebra) (into0 : Bool) (onto0 : Bool) (most0 : Int) : (List Int) → Tgt
 | s => ((Ex.exit 0), [13, 12, 6, 5, 2], [(13, A.val ((slr true 1 Ag) s)), (12, A.val ((rP true (A3)) ({ a := a0, b := b0, into := into0, onto := onto0, most := most0, tries := (0 : Int), found := Al (List Int) }))), (6, A.val ((rP true (Ae false)) (b0))), (5, A.val ((rP true (Ae false)) (a0))), (2, A.val (V.bool (into0)))])
theorem Abw {a0 : SAlgebra} {b0 : SAlgebra} {into0 : Bool} {onto0 : Bool} {most0 : Int} (s : (Int × (List Int))) (o : (Int × (List Int)) ⊕ (List Int)) (h : Fy a0 b0 into0 onto0 most0 s = some o) : vc Try.prog Sb (Cc [14, 13, 12, 6, 5, 2] (K3 a0 b0 into0 onto0 most0) (R8 a0 b0 into0 onto0 most0) o) (K3 a0 b0 into0 onto0 most0 s) := by
 obtain ⟨x14, x13⟩ := s
 unfold Fy at h
 try dsimp only at h
 conv => whnf
 refine Cells.lit rfl rfl ?_
 conv => whnf
 refine Br.od h (fun p1 h => ?_) (fun p1 h => ?_)
 ·conv => whnf
  refine BslQ.o Ag ([(-1 : Int)]) (by exact fun _ => ⟨rfl, rfl⟩) (by first | rfl | simp only [Aa, V.fz, fzL, V.up, upL, Ab, Ac, Ad, slr, List.cons_append, List.nil_append] | simp [Aa, V.fz, fzL, V.up, upL, Ab, Ac, Ad, slr]) ?_
  conv => whnf
  refine NoOwn.o (fun _ => rfl) ?_
  conv => whnf
  refine AppQ.o (m := 1) Ag (by exact fun _ => ⟨rfl, rfl⟩) (x13) ([(-1 : Int)]) (by first | rfl | simp only [Aa, V.fz, fzL, V.up, upL, Ab, Ac, Ad, slr, List.cons_append, List.nil_append] | simp [Aa, V.fz, fzL, V.up, upL, Ab, Ac, Ad, slr]) (by first | rfl | simp only [Aa, V.fz, fzL, V.up, upL, Ab, Ac, Ad, slr, List.cons_append, List.nil_append] | simp [Aa, V.fz, fzL, V.up, upL, Ab, Ac, Ad, slr]) h fun h => ?_
  conv => whnf
  refine Ask.o h fun p2 h => ?_
  conv => whnf
  cases h; exact ⟨rfl, rfl⟩
 conv => whnf
 cases h; exact ⟨rfl, rfl⟩
noncomputable def Do (a0 : SAlgebra) (b0 : SAlgebra) (into0 : Bool) (onto0 : Bool) (most0 : Int) : Option ((List (List Int)) × Bool) :=
 (Am (Fy a0 b0 into0 onto0 most0) ((0 : Int), Al Int)).bind fun q3_13 =>
 (Gf (a0) (b0) (q3_13)).bind fun r4 =>
 ((if (r4.snd) = true then
 if (into0) = true then
 (Dr (r4.fst)).bind fun r7 =>
 if (r7) = true then
 (Anr fun n => Bc n ({ a := a0, b := b0, into := into0, onto := onto0, most := most0, tries := (0 : Int), found := Al (List Int) }) (r4.fst)).bind fun (_r9, u10) =>
 some u10
 else
 some ({ a := a0, b := b0, into := into0, onto := onto0, most := most0, tries := (0 : Int), found := Al (List Int) })
 else
 (Anr fun n => Bc n ({ a := a0, b := b0, into := into0, onto := onto0, most := most0, tries := (0 : Int), found := Al (List Int) }) (r4.fst)).bind fun (_r11, u12) =>
 some u12
 else
 some ({ a := a0, b := b0, into := into0, onto := onto0, most := most0, tries := (0 : Int), found := Al (List Int) }) : Option Sl7Search)).bind fun q13_12 =>
 some (q13_12.found, decide (q13_12.tries ≤ (5000 : Int)))
theorem Xa {a0 : SAlgebra} {b0 : SAlgebra} {into0 : Bool} {onto0 : Bool} {most0 : Int} {v : ((List (List Int)) × Bool)} (h : Do a0 b0 into0 onto0 most0 = some v) : Ret Try.prog Lz [(Ae false) a0, (Ae false) b0, V.bool into0, V.bool onto0, Ag most0] ((fun r => V.tup [(slr false 1 (slr false 1 Ag)) r.1, V.bool r.2]) v) := by
 refine V4 Ait (Nat.le_of_ble_eq_true rfl) ?_
 unfold Do at h
 conv => whnf
 refine Cells.lit rfl rfl ?_
 conv => whnf
 refine Cells.lit rfl rfl ?_
 conv => whnf
 refine BslQ.o (slr true 1 Ag) (Al (List Int)) (by exact fun _ => ⟨rfl, rfl⟩) (by first | rfl | simp only [Aa, V.fz, fzL, V.up, upL, Ab, Ac, Ad, slr, List.cons_append, List.nil_append] | simp [Aa, V.fz, fzL, V.up, upL, Ab, Ac, Ad, slr]) ?_
 conv => whnf
 refine BslQ.o Ag (Al Int) (by exact fun _ => ⟨rfl, rfl⟩) (by first | rfl | simp only [Aa, V.fz, fzL, V.up, upL, Ab, Ac, Ad, slr, List.cons_append, List.nil_append] | simp [Aa, V.fz, fzL, V.up, upL, Ab, Ac, Ad, slr]) ?_
 conv => whnf
 refine LoopQ.o [14, 13, 12, 6, 5, 2] (K3 a0 b0 into0 onto0 most0) (R8 a0 b0 into0 onto0 most0) h (fun s o h => Abw s o h) (by first | rfl | simp [restrict, look, Aa, V.fz, fzL, V.up, upL, Ab, Ac, Ad, slr]) (fun _ => rfl) ?_
 rintro q3_13 h
 try dsimp only at h
 conv => whnf
 refine Cells.lit rfl rfl ?_
 conv => whnf
 refine Cells.lit rfl rfl ?_
 conv => whnf
 refine CallQ.rd (fun r => V.tup [(slr true 1 Ag) r.1, V.bool r.2]) (by first | rfl | simp only [V.fz, fzL, Ab, slr] | simp [Aa, V.fz, fzL, V.up, upL, Ab, Ac, Ad, slr]) (fun _ => by simp [V.noFz, B2, Bp]) h (fun r h => U6 h) (fun r4 h => ?_)
 conv => whnf
 refine CutQ.o (fun t : Sl7Search => match t with | s => (Ex.normal, [12], [(12, A.val ((rP true (A3)) s))])) h ?_ ?_
 ·intro t h
  conv => whnf
  refine FrzQ.d (V.sl false (1 : Nat) (List.map Ag r4.fst)) (by first | (simp only [slr]; done) | (simp [A9, V.fz, Ab, slr]; done)) ?_
  conv => whnf
  refine Br.ob h (fun p5 h => ?_) (fun p5 h => ?_)
  ·conv => whnf
   refine Br.yes ?_
   conv => whnf
   refine Br.yes ?_
   conv => whnf
   refine Br.flip ?_
   conv => whnf
   refine Br.ob h (fun p6 h => ?_) (fun p6 h => ?_)
   ·conv => whnf
    refine Br.no ?_
    conv => whnf
    refine CallQ.o V.bool (by first | rfl | simp only [Aa, V.fz, fzL, V.up, upL, Ab, Ac, Ad, slr, List.cons_append, List.nil_append] | simp [Aa, V.fz, fzL, V.up, upL, Ab, Ac, Ad, slr]) h (fun r h => Q1 h) (fun r7 h => ?_)
    conv => whnf
    refine Br.yes ?_
    conv => whnf
    refine Br.no ?_
    conv => whnf
    refine Br.yes ?_
    conv => whnf
    refine Br.ob h (fun p8 h => ?_) (fun p8 h => ?_)
    ·conv => whnf
     refine CallQ.io (fun r => V.tup []) (rP true (A3)) (by first | rfl | simp only [Aa, V.fz, fzL, V.up, upL, Ab, Ac, Ad, slr, List.cons_append, List.nil_append] | simp [Aa, V.fz, fzL, V.up, upL, Ab, Ac, Ad, slr]) rfl (fun _ => rfl) (fun _ => ⟨rfl, rfl⟩) rfl h (fun r h => Mc h) (fun r9 u10 h => ?_)
     conv => whnf
     cases h; exact ⟨rfl, rfl⟩
    conv => whnf
    cases h; exact ⟨rfl, rfl⟩
   conv => whnf
   refine Br.yes ?_
   conv => whnf
   refine Br.yes ?_
   conv => whnf
   refine Br.yes ?_
   conv => whnf
   refine Br.yes ?_
   conv => whnf
   refine Br.yes ?_
   conv => whnf
   refine CallQ.io (fun r => V.tup []) (rP true (A3)) (by first | rfl | simp only [Aa, V.fz, fzL, V.up, upL, Ab, Ac, Ad, slr, List.cons_append, List.nil_append] | simp [Aa, V.fz, fzL, V.up, upL, Ab, Ac, Ad, slr]) rfl (fun _ => rfl) (fun _ => ⟨rfl, rfl⟩) rfl h (fun r h => Mc h) (fun r11 u12 h => ?_)
   conv => whnf
   cases h; exact ⟨rfl, rfl⟩
  conv => whnf
  refine Br.no ?_
  conv => whnf
  refine Br.no ?_
  conv => whnf
  refine Br.no ?_
  conv => whnf
  refine Br.no ?_
  conv => whnf
  refine Br.no ?_
  conv => whnf
  cases h; exact ⟨rfl, rfl⟩
 rintro q13_12 h
 try dsimp only at h
 conv => whnf
 refine FrzQ.d ((rP false (C5 false)) q13_12) ((A9 _).trans (Eq.trans (b := V.fz ((rP true (A3)) q13_12)) rfl (Ad (rP true (A3)) _))) ?_
 conv => whnf
 cases h; exact (by first | rfl | simp only [Ah, Aa, V.fz, fzL, V.up, upL, Ab, Ac, Ad, slr] | simp [Ah, Aa, V.fz, fzL, V.up, upL, Ab, Ac, Ad, slr])
noncomputable def Iy (a0 : SAlgebra) (b0 : SAlgebra) : Option (Bool × Bool) :=
 (B8 (a0)).bind fun r1 =>
 if (r1) = true then
 (B8 (b0)).bind fun r3 =>
 if (r3) = true then
 (G4 (a0)).bind fun r5 =>
 (G4 (b0)).bind fun r6 =>
 (Gw (r5) (r6)).bind fun r7 =>
 some (r7, true)
 else
 some (false, false)
 else
 some (false, false)
theorem Ac7 {a0 : SAlgebra} {b0 : SAlgebra} {v : (Bool × Bool)} (h : Iy a0 b0 = some v) : Ret Try.prog Nf [(Ae false) a0, (Ae false) b0] ((fun r => V.tup [V.bool r.1, V.bool r.2]) v) := by
 refine Av Adr (Nat.le_of_ble_eq_true rfl) ?_
 unfold Iy at h
 conv => whnf
 refine Cells.lit rfl rfl ?_
 conv => whnf
 refine CallQ.o V.bool (by first | rfl | simp only [Aa, V.fz, fzL, V.up, upL, Ab, Ac, Ad, slr, List.cons_append, List.nil_append] | simp [Aa, V.fz, fzL, V.up, upL, Ab, Ac, Ad, slr]) h (fun r h => Ga h) (fun r1 h => ?_)
 conv => whnf
 refine Br.flip ?_
 conv => whnf
 refine Br.ob h (fun p2 h => ?_) (fun p2 h => ?_)
 ·conv => whnf
  refine Cells.lit rfl rfl ?_
  conv => whnf
  refine Br.no ?_
  conv => whnf
  refine CallQ.o V.bool (by first | rfl | simp only [Aa, V.fz, fzL, V.up, upL, Ab, Ac, Ad, slr, List.cons_append, List.nil_append] | simp [Aa, V.fz, fzL, V.up, upL, Ab, Ac, Ad, slr]) h (fun r h => Ga h) (fun r3 h => ?_)
  conv => whnf
  refine Br.no ?_
  conv => whnf
  refine Br.no ?_
  conv => whnf
  refine Br.flip ?_
  conv => whnf
  refine Br.ob h (fun p4 h => ?_) (fun p4 h => ?_)
  ·conv => whnf
   refine Cells.lit rfl rfl ?_
   conv => whnf
   refine CallP.o (slr true 1 Ag) (by first | rfl | simp only [Aa, V.fz, fzL, V.up, upL, Ab, Ac, Ad, slr, List.cons_append, List.nil_append] | simp [Aa, V.fz, fzL, V.up, upL, Ab, Ac, Ad, slr]) h (fun r h => W5 h) (fun r5 h => ?_)
   conv => whnf
   refine Cells.lit rfl rfl ?_
   conv => whnf
   refine CallQ.o (slr true 1 Ag) (by first | rfl | simp only [Aa, V.fz, fzL, V.up, upL, Ab, Ac, Ad, slr, List.cons_append, List.nil_append] | simp [Aa, V.fz, fzL, V.up, upL, Ab, Ac, Ad, slr]) h (fun r h => W5 h) (fun r6 h => ?_)
   conv => whnf
   refine CallQ.rd V.bool (by first | rfl | simp only [V.fz, Ab, slr] | simp [Aa, V.fz, fzL, V.up, upL, Ab, Ac, Ad, slr]) (fun _ => rfl) h (fun r h => Adp h) (fun r7 h => ?_)
   conv => whnf
   cases h; exact (by first | rfl | simp only [Ah, Aa, V.fz, fzL, V.up, upL, Ab, Ac, Ad, slr] | simp [Ah, Aa, V.fz, fzL, V.up, upL, Ab, Ac, Ad, slr])
  conv => whnf
  cases h; exact (by first | rfl | simp only [Ah, Aa, V.fz, fzL, V.up, upL, Ab, Ac, Ad, slr] | simp [Ah, Aa, V.fz, fzL, V.up, upL, Ab, Ac, Ad, slr])
 conv => whnf
 refine Br.yes ?_
 conv => whnf
 refine Br.yes ?_
 conv => whnf
 refine Br.yes ?_
 conv => whnf
 refine Br.yes ?_
 conv => whnf
 cases h; exact (by first | rfl | simp only [Ah, Aa, V.fz, fzL, V.up, upL, Ab, Ac, Ad, slr] | simp [Ah, Aa, V.fz, fzL, V.up, upL, Ab, Ac, Ad, slr])
noncomputable def Mq (a0 : SAlgebra) (sub0 : (List Int)) : Option Bool :=
 ask (InI (a0.Size - (1 : Int))) <|
 (Gz (sub0) ((0 : Int)) (a0.Size - (1 : Int))).bind fun r2 =>
 if (r2) = true then
 (Hw (a0) (sub0)).bind fun r4 =>
 (G2 (r4) (sub0)).bind fun r5 =>
 some r5
 else
 some false
theorem Aoi {a0 : SAlgebra} {sub0 : (List Int)} {v : Bool} (h : Mq a0 sub0 = some v) : Ret Try.prog Ve [(Ae false) a0, (slr false 1 Ag) sub0] (V.bool v) := by
 refine Av An6 (Nat.le_of_ble_eq_true rfl) ?_
 unfold Mq at h
 conv => whnf
 refine Cells.lit rfl rfl ?_
 conv => whnf
 refine Ask.o h fun p1 h => ?_
 conv => whnf
 refine CallQ.o V.bool (by first | rfl | simp only [Aa, V.fz, fzL, V.up, upL, Ab, Ac, Ad, slr, List.cons_append, List.nil_append] | simp [Aa, V.fz, fzL, V.up, upL, Ab, Ac, Ad, slr]) h (fun r h => Ad1 h) (fun r2 h => ?_)
 conv => whnf
 refine Br.ob h (fun p3 h => ?_) (fun p3 h => ?_)
 ·conv => whnf
  refine Cells.lit rfl rfl ?_
  conv => whnf
  refine Br.yes ?_
  conv => whnf
  refine Br.yes ?_
  conv => whnf
  refine CallQ.o (slr true 1 Ag) (by first | rfl | simp only [Aa, V.fz, fzL, V.up, upL, Ab, Ac, Ad, slr, List.cons_append, List.nil_append] | simp [Aa, V.fz, fzL, V.up, upL, Ab, Ac, Ad, slr]) h (fun r h => Ag3 h) (fun r4 h => ?_)
  conv => whnf
  refine Br.yes ?_
  conv => whnf
  refine Br.yes ?_
  conv => whnf
  refine CallQ.rd V.bool (by first | rfl | simp only [V.fz, V.up, Ab, slr] | simp [Aa, V.fz, fzL, V.up, upL, Ab, Ac, Ad, slr]) (fun _ => rfl) h (fun r h => W7 h) (fun r5 h => ?_)
  conv => whnf
  refine Br.yes ?_
  conv => whnf
  cases h; exact (by first | rfl | simp only [Ah, Aa, V.fz, fzL, V.up, upL, Ab, Ac, Ad, slr] | simp [Ah, Aa, V.fz, fzL, V.up, upL, Ab, Ac, Ad, slr])
 conv => whnf
 refine Br.no ?_
 conv => whnf
 refine Br.no ?_
 conv => whnf
 refine Br.no ?_
 conv => whnf
 refine Br.no ?_
 conv => whnf
 refine Br.no ?_
 conv => whnf
 cases h; exact (by first | rfl | simp only [Ah, Aa, V.fz, fzL, V.up, upL, Ab, Ac, Ad, slr] | simp [Ah, Aa, V.fz, fzL, V.up, upL, Ab, Ac, Ad, slr])
noncomputable def Gx (a0 : SAlgebra) (b0 : SAlgebra) (f0 : (List Int)) : Option (Int × (List Int) × Bool) :=
 (((Dp (a0) (b0)).bind fun r1 =>
 if (r1) = true then
 (H5 (a0) (b0) (f0)).bind fun r3 =>
 if (r3) = true then
 some (.inl ())
 else
 some (.inr ())
 else
 some (.inr ()) : Option (Unit ⊕ Unit))).bind fun t => match t with
 | (.inl _) => ((E4 (a0) (b0) (f0)).bind fun r6 =>
 some r6)
 | (.inr _) => (some ((0 : Int), Al Int, false))
theorem Ad3 {a0 : SAlgebra} {b0 : SAlgebra} {f0 : (List Int)} {v : (Int × (List Int) × Bool)} (h : Gx a0 b0 f0 = some v) : Ret Try.prog M7 [(Ae false) a0, (Ae false) b0, (slr false 1 Ag) f0] ((fun r => V.tup [Ag r.1, (slr true 1 Ag) r.2.1, V.bool r.2.2]) v) := by
 refine Av Ads (Nat.le_of_ble_eq_true rfl) ?_
 unfold Gx at h
 conv => whnf
 refine CutQ.o (fun t : (Unit ⊕ Unit) => match t with | (.inl s) => (Ex.normal, [4, 3, 2], [(4, A.val ((rP true (Ae false)) (b0))), (3, A.val ((rP true (Ae false)) (a0))), (2, A.val ((slr false 1 Ag) (f0)))]) | (.inr s) => (Ex.ret, [8, 7, 6], [(8, A.val (V.bool (false))), (7, A.val ((slr true 1 Ag) (Al Int))), (6, A.val (Ag ((0 : Int))))])) h ?_ ?_
 ·intro t h
  conv => whnf
  refine Cells.lit rfl rfl ?_
  conv => whnf
  refine Cells.lit rfl rfl ?_
  conv => whnf
  refine CallQ.o V.bool (by first | rfl | simp only [Aa, V.fz, fzL, V.up, upL, Ab, Ac, Ad, slr, List.cons_append, List.nil_append] | simp [Aa, V.fz, fzL, V.up, upL, Ab, Ac, Ad, slr]) h (fun r h => Ia h) (fun r1 h => ?_)
  conv => whnf
  refine Br.flip ?_
  conv => whnf
  refine Br.ob h (fun p2 h => ?_) (fun p2 h => ?_)
  ·conv => whnf
   refine Cells.lit rfl rfl ?_
   conv => whnf
   refine Br.no ?_
   conv => whnf
   refine Cells.lit rfl rfl ?_
   conv => whnf
   refine Br.no ?_
   conv => whnf
   refine Br.no ?_
   conv => whnf
   refine CallQ.o V.bool (by first | rfl | simp only [Aa, V.fz, fzL, V.up, upL, Ab, Ac, Ad, slr, List.cons_append, List.nil_append] | simp [Aa, V.fz, fzL, V.up, upL, Ab, Ac, Ad, slr]) h (fun r h => Zj h) (fun r3 h => ?_)
   conv => whnf
   refine Br.no ?_
   conv => whnf
   refine Br.no ?_
   conv => whnf
   refine Br.flip ?_
   conv => whnf
   refine Br.ob h (fun p4 h => ?_) (fun p4 h => ?_)
   ·conv => whnf
    cases h; exact ⟨rfl, rfl⟩
   conv => whnf
   refine BslQ.o Ag (Al Int) (by exact fun _ => ⟨rfl, rfl⟩) (by first | rfl | simp only [Aa, V.fz, fzL, V.up, upL, Ab, Ac, Ad, slr, List.cons_append, List.nil_append] | simp [Aa, V.fz, fzL, V.up, upL, Ab, Ac, Ad, slr]) ?_
   conv => whnf
   cases h; exact ⟨rfl, rfl⟩
  conv => whnf
  refine Br.yes ?_
  conv => whnf
  refine Br.yes ?_
  conv => whnf
  refine Br.yes ?_
  conv => whnf
  refine Br.yes ?_
  conv => whnf
  refine Br.yes ?_
  conv => whnf
  refine Br.yes ?_
  conv => whnf
  refine BslQ.o Ag (Al Int) (by exact fun _ => ⟨rfl, rfl⟩) (by first | rfl | simp only [Aa, V.fz, fzL, V.up, upL, Ab, Ac, Ad, slr, List.cons_append, List.nil_append] | simp [Aa, V.fz, fzL, V.up, upL, Ab, Ac, Ad, slr]) ?_
  conv => whnf
  cases h; exact ⟨rfl, rfl⟩
 rintro (⟨⟩ | ⟨⟩) h
 ·try dsimp only at h
  conv => whnf
  refine Cells.lit rfl rfl ?_
  conv => whnf
  refine Cells.lit rfl rfl ?_
  conv => whnf
  refine CallQ.o (fun r => V.tup [Ag r.1, (slr true 1 Ag) r.2.1, V.bool r.2.2]) (by first | rfl | simp only [Aa, V.fz, fzL, V.up, upL, Ab, Ac, Ad, slr, List.cons_append, List.nil_append] | simp [Aa, V.fz, fzL, V.up, upL, Ab, Ac, Ad, slr]) h (fun r h => Uz h) (fun r6 h => ?_)
  conv => whnf
  cases h; exact (by first | rfl | simp only [Ah, Aa, V.fz, fzL, V.up, upL, Ab, Ac, Ad, slr] | simp [Ah, Aa, V.fz, fzL, V.up, upL, Ab, Ac, Ad, slr])
 try dsimp only at h
 conv => whnf
 cases h; exact (by first | rfl | simp only [Ah, Aa, V.fz, fzL, V.up, upL, Ab, Ac, Ad, slr] | simp [Ah, Aa, V.fz, fzL, V.up, upL, Ab, Ac, Ad, slr])
noncomputable def Ju (a0 : SAlgebra) (b0 : SAlgebra) (f0 : (List Int)) : Option (Bool × Bool) :=
 (Dp (a0) (b0)).bind fun r1 =>
 if (r1) = true then
 (Gg (a0) (b0) (f0)).bind fun r3 =>
 some (r3, true)
 else
 some (false, false)
theorem Ams {a0 : SAlgebra} {b0 : SAlgebra} {f0 : (List Int)} {v : (Bool × Bool)} (h : Ju a0 b0 f0 = some v) : Ret Try.prog S4 [(Ae false) a0, (Ae false) b0, (slr false 1 Ag) f0] ((fun r => V.tup [V.bool r.1, V.bool r.2]) v) := by
 refine Av Akq (Nat.le_of_ble_eq_true rfl) ?_
 unfold Ju at h
 conv => whnf
 refine Cells.lit rfl rfl ?_
 conv => whnf
 refine Cells.lit rfl rfl ?_
 conv => whnf
 refine CallQ.o V.bool (by first | rfl | simp only [Aa, V.fz, fzL, V.up, upL, Ab, Ac, Ad, slr, List.cons_append, List.nil_append] | simp [Aa, V.fz, fzL, V.up, upL, Ab, Ac, Ad, slr]) h (fun r h => Ia h) (fun r1 h => ?_)
 conv => whnf
 refine Br.flip ?_
 conv => whnf
 refine Br.ob h (fun p2 h => ?_) (fun p2 h => ?_)
 ·conv => whnf
  refine Cells.lit rfl rfl ?_
  conv => whnf
  refine Cells.lit rfl rfl ?_
  conv => whnf
  refine CallQ.o V.bool (by first | rfl | simp only [Aa, V.fz, fzL, V.up, upL, Ab, Ac, Ad, slr, List.cons_append, List.nil_append] | simp [Aa, V.fz, fzL, V.up, upL, Ab, Ac, Ad, slr]) h (fun r h => Qf h) (fun r3 h => ?_)
  conv => whnf
  cases h; exact (by first | rfl | simp only [Ah, Aa, V.fz, fzL, V.up, upL, Ab, Ac, Ad, slr] | simp [Ah, Aa, V.fz, fzL, V.up, upL, Ab, Ac, Ad, slr])
 conv => whnf
 cases h; exact (by first | rfl | simp only [Ah, Aa, V.fz, fzL, V.up, upL, Ab, Ac, Ad, slr] | simp [Ah, Aa, V.fz, fzL, V.up, upL, Ab, Ac, Ad, slr])
end Go.Proofs.Ytiakjbigaaanhaa.Ax
