/-
 What the functions compute, as functions on plain data, and that the program does compute it; written by program.
-/
import Derived.Test.YtidaaijecmkndaaCode
import Derived.Test.YtidaaijecmkndaaG1
import Derived.Test.YtidaaijecmkndaaG3
import Derived.Test.YtidaaijecmkndaaG4
import Derived.Test.YtidaaijecmkndaaG5
import Derived.Test.YtidaaijecmkndaaG6
import Derived.Test.YtidaaijecmkndaaG7
import Derived.Test.YtidaaijecmkndaaG8
namespace Go.Proofs.Ytidaaijecmkndaa.Ax
open Go
set_option maxRecDepth 100000
set_option maxHeartbeats 4000000
noncomputable def E6 (c0 : SCondition) : Option ((List (List Int)) × Bool) :=
 (Ci (c0)).bind fun r1 =>
 if (r1) = true then
 (Cd (c0)).bind fun r3 =>
 some (r3, true)
 else
 some (Ba (List Int), false)
theorem U9 {c0 : SCondition} {v : ((List (List Int)) × Bool)} (h : E6 c0 = some v) : Ret Try.prog I5 [(Ag false) c0] ((fun r => V.tup [(slr true 1 (slr true 1 Ae)) r.1, V.bool r.2]) v) := by
 refine Bg Ui (Nat.le_of_ble_eq_true rfl) ?_
 unfold E6 at h
 conv => whnf
 refine Cells.lit rfl rfl ?_
 conv => whnf
 refine CallQ.o V.bool (by first | rfl | simp only [Aa, V.fz, fzL, V.up, upL, Ab, Ac, Ad, slr, List.cons_append, List.nil_append] | simp [Aa, V.fz, fzL, V.up, upL, Ab, Ac, Ad, slr]) h (fun r h => H3 h) (fun r1 h => ?_)
 conv => whnf
 refine Br.flip ?_
 conv => whnf
 refine Br.ob h (fun p2 h => ?_) (fun p2 h => ?_)
 ·conv => whnf
  refine Cells.lit rfl rfl ?_
  conv => whnf
  refine CallQ.o (slr true 1 (slr true 1 Ae)) (by first | rfl | simp only [Aa, V.fz, fzL, V.up, upL, Ab, Ac, Ad, slr, List.cons_append, List.nil_append] | simp [Aa, V.fz, fzL, V.up, upL, Ab, Ac, Ad, slr]) h (fun r h => Gb h) (fun r3 h => ?_)
  conv => whnf
  cases h; exact (by first | rfl | simp only [Ah, Aa, V.fz, fzL, V.up, upL, Ab, Ac, Ad, slr] | simp [Ah, Aa, V.fz, fzL, V.up, upL, Ab, Ac, Ad, slr])
 conv => whnf
 refine BslQ.o (slr true 1 Ae) (Ba (List Int)) (by exact fun _ => ⟨rfl, rfl⟩) (by first | rfl | simp only [Aa, V.fz, fzL, V.up, upL, Ab, Ac, Ad, slr, List.cons_append, List.nil_append] | simp [Aa, V.fz, fzL, V.up, upL, Ab, Ac, Ad, slr]) ?_
 conv => whnf
 cases h; exact (by first | rfl | simp only [Ah, Aa, V.fz, fzL, V.up, upL, Ab, Ac, Ad, slr] | simp [Ah, Aa, V.fz, fzL, V.up, upL, Ab, Ac, Ad, slr])
noncomputable def Fa (c0 : SCondition) : Option ((List (List Int)) × Bool) :=
 (Ee (c0)).bind fun r1 =>
 if (r1) = true then
 (Bf (c0)).bind fun r3 =>
 some (r3, true)
 else
 some (Ba (List Int), false)
theorem Ut {c0 : SCondition} {v : ((List (List Int)) × Bool)} (h : Fa c0 = some v) : Ret Try.prog I2 [(Ag false) c0] ((fun r => V.tup [(slr true 1 (slr true 1 Ae)) r.1, V.bool r.2]) v) := by
 refine Bg Vd (Nat.le_of_ble_eq_true rfl) ?_
 unfold Fa at h
 conv => whnf
 refine Cells.lit rfl rfl ?_
 conv => whnf
 refine CallQ.o V.bool (by first | rfl | simp only [Aa, V.fz, fzL, V.up, upL, Ab, Ac, Ad, slr, List.cons_append, List.nil_append] | simp [Aa, V.fz, fzL, V.up, upL, Ab, Ac, Ad, slr]) h (fun r h => L5 h) (fun r1 h => ?_)
 conv => whnf
 refine Br.flip ?_
 conv => whnf
 refine Br.ob h (fun p2 h => ?_) (fun p2 h => ?_)
 ·conv => whnf
  refine Cells.lit rfl rfl ?_
  conv => whnf
  refine CallQ.o (slr true 1 (slr true 1 Ae)) (by first | rfl | simp only [Aa, V.fz, fzL, V.up, upL, Ab, Ac, Ad, slr, List.cons_append, List.nil_append] | simp [Aa, V.fz, fzL, V.up, upL, Ab, Ac, Ad, slr]) h (fun r h => Da h) (fun r3 h => ?_)
  conv => whnf
  cases h; exact (by first | rfl | simp only [Ah, Aa, V.fz, fzL, V.up, upL, Ab, Ac, Ad, slr] | simp [Ah, Aa, V.fz, fzL, V.up, upL, Ab, Ac, Ad, slr])
 conv => whnf
 refine BslQ.o (slr true 1 Ae) (Ba (List Int)) (by exact fun _ => ⟨rfl, rfl⟩) (by first | rfl | simp only [Aa, V.fz, fzL, V.up, upL, Ab, Ac, Ad, slr, List.cons_append, List.nil_append] | simp [Aa, V.fz, fzL, V.up, upL, Ab, Ac, Ad, slr]) ?_
 conv => whnf
 cases h; exact (by first | rfl | simp only [Ah, Aa, V.fz, fzL, V.up, upL, Ab, Ac, Ad, slr] | simp [Ah, Aa, V.fz, fzL, V.up, upL, Ab, Ac, Ad, slr])
noncomputable def E4 (n0 : Int) (row0 : (List Int)) (c0 : SCondition) : Option (Bool × Bool) :=
 (((Ce (n0)).bind fun r1 =>
 if (r1) = true then
 (Ci (c0)).bind fun r3 =>
 if (r3) = true then
 some (.inl ())
 else
 some (.inr ())
 else
 some (.inr ()) : Option (Unit ⊕ Unit))).bind fun t => match t with
 | (.inl _) => ((Cd (c0)).bind fun r6 =>
 ask (InI ((↑r6.length : Int) * n0)) <|
 ask (InI ((↑r6.length : Int) * n0 * n0)) <|
 if (↑row0.length : Int) ≠ (↑r6.length : Int) * n0 * n0 then
 some (false, false)
 else
 (Fe (row0) (n0)).bind fun r10 =>
 if (r10) = true then
 (E0 (n0) (row0) (c0) (r6)).bind fun r12 =>
 some (r12, true)
 else
 some (false, false))
 | (.inr _) => (some (false, false))
theorem P6 {n0 : Int} {row0 : (List Int)} {c0 : SCondition} {v : (Bool × Bool)} (h : E4 n0 row0 c0 = some v) : Ret Try.prog Hu [Ae n0, (slr false 1 Ae) row0, (Ag false) c0] ((fun r => V.tup [V.bool r.1, V.bool r.2]) v) := by
 refine Bg X5 (Nat.le_of_ble_eq_true rfl) ?_
 unfold E4 at h
 conv => whnf
 refine CutQ.o (fun t : (Unit ⊕ Unit) => match t with | (.inl s) => (Ex.normal, [5, 0, 1], [(5, A.val ((rP true (Ag false)) (c0))), (0, A.val (Ae (n0))), (1, A.val ((slr false 1 Ae) (row0)))]) | (.inr s) => (Ex.ret, [7, 6], [(7, A.val (V.bool (false))), (6, A.val (V.bool (false)))])) h ?_ ?_
 ·intro t h
  conv => whnf
  refine CallQ.o V.bool (by first | rfl | simp only [Aa, V.fz, fzL, V.up, upL, Ab, Ac, Ad, slr, List.cons_append, List.nil_append] | simp [Aa, V.fz, fzL, V.up, upL, Ab, Ac, Ad, slr]) h (fun r h => I8 h) (fun r1 h => ?_)
  conv => whnf
  refine Br.flip ?_
  conv => whnf
  refine Br.ob h (fun p2 h => ?_) (fun p2 h => ?_)
  ·conv => whnf
   refine Cells.lit rfl rfl ?_
   conv => whnf
   refine Br.no ?_
   conv => whnf
   refine CallQ.o V.bool (by first | rfl | simp only [Aa, V.fz, fzL, V.up, upL, Ab, Ac, Ad, slr, List.cons_append, List.nil_append] | simp [Aa, V.fz, fzL, V.up, upL, Ab, Ac, Ad, slr]) h (fun r h => H3 h) (fun r3 h => ?_)
   conv => whnf
   refine Br.no ?_
   conv => whnf
   refine Br.no ?_
   conv => whnf
   refine Br.flip ?_
   conv => whnf
   refine Br.ob h (fun p4 h => ?_) (fun p4 h => ?_)
   ·conv => whnf
    cases h; exact ⟨rfl, rfl⟩
   conv => whnf
   cases h; exact ⟨rfl, rfl⟩
  conv => whnf
  refine Br.yes ?_
  conv => whnf
  refine Br.yes ?_
  conv => whnf
  refine Br.yes ?_
  conv => whnf
  refine Br.yes ?_
  conv => whnf
  cases h; exact ⟨rfl, rfl⟩
 rintro (⟨⟩ | ⟨⟩) h
 ·try dsimp only at h
  conv => whnf
  refine Cells.lit rfl rfl ?_
  conv => whnf
  refine CallQ.o (slr true 1 (slr true 1 Ae)) (by first | rfl | simp only [Aa, V.fz, fzL, V.up, upL, Ab, Ac, Ad, slr, List.cons_append, List.nil_append] | simp [Aa, V.fz, fzL, V.up, upL, Ab, Ac, Ad, slr]) h (fun r h => Gb h) (fun r6 h => ?_)
  conv => whnf
  refine Len.map ?_
  conv => whnf
  refine Len.map ?_
  conv => whnf
  refine Ask.o h fun p7 h => ?_
  conv => whnf
  refine Ask.o h fun p8 h => ?_
  conv => whnf
  refine Br.on h (fun p9 h => ?_) (fun p9 h => ?_)
  ·conv => whnf
   refine Br.yes ?_
   conv => whnf
   refine Br.yes ?_
   conv => whnf
   refine Br.yes ?_
   conv => whnf
   refine Br.yes ?_
   conv => whnf
   refine Br.yes ?_
   conv => whnf
   cases h; exact (by first | rfl | simp only [Ah, Aa, V.fz, fzL, V.up, upL, Ab, Ac, Ad, slr] | simp [Ah, Aa, V.fz, fzL, V.up, upL, Ab, Ac, Ad, slr])
  conv => whnf
  refine Br.no ?_
  conv => whnf
  refine Br.no ?_
  conv => whnf
  refine CallQ.o V.bool (by first | rfl | simp only [Aa, V.fz, fzL, V.up, upL, Ab, Ac, Ad, slr, List.cons_append, List.nil_append] | simp [Aa, V.fz, fzL, V.up, upL, Ab, Ac, Ad, slr]) h (fun r h => Nm h) (fun r10 h => ?_)
  conv => whnf
  refine Br.no ?_
  conv => whnf
  refine Br.no ?_
  conv => whnf
  refine Br.flip ?_
  conv => whnf
  refine Br.ob h (fun p11 h => ?_) (fun p11 h => ?_)
  ·conv => whnf
   refine Cells.lit rfl rfl ?_
   conv => whnf
   refine CallQ.rd V.bool (by first | rfl | simp only [V.fz, fzL, V.up, Ab, Ad, slr] | simp [Aa, V.fz, fzL, V.up, upL, Ab, Ac, Ad, slr]) (fun _ => rfl) h (fun r h => P0 h) (fun r12 h => ?_)
   conv => whnf
   cases h; exact (by first | rfl | simp only [Ah, Aa, V.fz, fzL, V.up, upL, Ab, Ac, Ad, slr] | simp [Ah, Aa, V.fz, fzL, V.up, upL, Ab, Ac, Ad, slr])
  conv => whnf
  cases h; exact (by first | rfl | simp only [Ah, Aa, V.fz, fzL, V.up, upL, Ab, Ac, Ad, slr] | simp [Ah, Aa, V.fz, fzL, V.up, upL, Ab, Ac, Ad, slr])
 try dsimp only at h
 conv => whnf
 cases h; exact (by first | rfl | simp only [Ah, Aa, V.fz, fzL, V.up, upL, Ab, Ac, Ad, slr] | simp [Ah, Aa, V.fz, fzL, V.up, upL, Ab, Ac, Ad, slr])
noncomputable def F2 (n0 : Int) (row0 : (List Int)) (c0 : SCondition) : Option (Bool × Bool) :=
 (((Ee (c0)).bind fun r1 =>
 if (r1) = true then
 (Cm (n0) ((1 : Int)) ((4 : Int))).bind fun r3 =>
 if (r3) = true then
 (Bf (c0)).bind fun r5 =>
 (Ht (n0) (row0) (r5)).bind fun r6 =>
 if (r6) = true then
 some (.inl ())
 else
 some (.inr ())
 else
 some (.inr ())
 else
 some (.inr ()) : Option (Unit ⊕ Unit))).bind fun t => match t with
 | (.inl _) => ((Bf (c0)).bind fun r9 =>
 (Ez (n0) (row0) (c0) (r9)).bind fun r10 =>
 some (r10, true))
 | (.inr _) => (some (false, false))
theorem Yu {n0 : Int} {row0 : (List Int)} {c0 : SCondition} {v : (Bool × Bool)} (h : F2 n0 row0 c0 = some v) : Ret Try.prog Ko [Ae n0, (slr false 1 Ae) row0, (Ag false) c0] ((fun r => V.tup [V.bool r.1, V.bool r.2]) v) := by
 refine Bg Yq (Nat.le_of_ble_eq_true rfl) ?_
 unfold F2 at h
 conv => whnf
 refine CutQ.o (fun t : (Unit ⊕ Unit) => match t with | (.inl s) => (Ex.normal, [5, 0, 1], [(5, A.val ((rP true (Ag false)) (c0))), (0, A.val (Ae (n0))), (1, A.val ((slr false 1 Ae) (row0)))]) | (.inr s) => (Ex.ret, [7, 6], [(7, A.val (V.bool (false))), (6, A.val (V.bool (false)))])) h ?_ ?_
 ·intro t h
  conv => whnf
  refine Cells.lit rfl rfl ?_
  conv => whnf
  refine CallQ.o V.bool (by first | rfl | simp only [Aa, V.fz, fzL, V.up, upL, Ab, Ac, Ad, slr, List.cons_append, List.nil_append] | simp [Aa, V.fz, fzL, V.up, upL, Ab, Ac, Ad, slr]) h (fun r h => L5 h) (fun r1 h => ?_)
  conv => whnf
  refine Br.flip ?_
  conv => whnf
  refine Br.ob h (fun p2 h => ?_) (fun p2 h => ?_)
  ·conv => whnf
   refine Br.no ?_
   conv => whnf
   refine CallQ.o V.bool (by first | rfl | simp only [Aa, V.fz, fzL, V.up, upL, Ab, Ac, Ad, slr, List.cons_append, List.nil_append] | simp [Aa, V.fz, fzL, V.up, upL, Ab, Ac, Ad, slr]) h (fun r h => E8 h) (fun r3 h => ?_)
   conv => whnf
   refine Br.no ?_
   conv => whnf
   refine Br.no ?_
   conv => whnf
   refine Br.flip ?_
   conv => whnf
   refine Br.ob h (fun p4 h => ?_) (fun p4 h => ?_)
   ·conv => whnf
    refine Br.no ?_
    conv => whnf
    refine Br.no ?_
    conv => whnf
    refine Cells.lit rfl rfl ?_
    conv => whnf
    refine Br.no ?_
    conv => whnf
    refine CallQ.o (slr true 1 (slr true 1 Ae)) (by first | rfl | simp only [Aa, V.fz, fzL, V.up, upL, Ab, Ac, Ad, slr, List.cons_append, List.nil_append] | simp [Aa, V.fz, fzL, V.up, upL, Ab, Ac, Ad, slr]) h (fun r h => Da h) (fun r5 h => ?_)
    conv => whnf
    refine Br.no ?_
    conv => whnf
    refine CallQ.rd V.bool (by first | rfl | simp only [V.fz, V.up, Ab, Ad, slr] | simp [Aa, V.fz, fzL, V.up, upL, Ab, Ac, Ad, slr]) (fun _ => rfl) h (fun r h => Yk h) (fun r6 h => ?_)
    conv => whnf
    refine Br.no ?_
    conv => whnf
    refine Br.no ?_
    conv => whnf
    refine Br.flip ?_
    conv => whnf
    refine Br.ob h (fun p7 h => ?_) (fun p7 h => ?_)
    ·conv => whnf
     cases h; exact ⟨rfl, rfl⟩
    conv => whnf
    cases h; exact ⟨rfl, rfl⟩
   conv => whnf
   refine Br.yes ?_
   conv => whnf
   refine Br.yes ?_
   conv => whnf
   refine Br.yes ?_
   conv => whnf
   refine Br.yes ?_
   conv => whnf
   refine Br.yes ?_
   conv => whnf
   refine Br.yes ?_
   conv => whnf
   refine Br.yes ?_
   conv => whnf
   cases h; exact ⟨rfl, rfl⟩
  conv => whnf
  refine Br.yes ?_
  conv => whnf
  refine Br.yes ?_
  conv => whnf
  refine Br.yes ?_
  conv => whnf
  refine Br.yes ?_
  conv => whnf
  refine Br.yes ?_
  conv => whnf
  refine Br.yes ?_
  conv => whnf
  refine Br.yes ?_
  conv => whnf
  refine Br.yes ?_
  conv => whnf
  refine Br.yes ?_
  conv => whnf
  refine Br.yes ?_
  conv => whnf
  refine Br.yes ?_
  conv => whnf
  cases h; exact ⟨rfl, rfl⟩
 rintro (⟨⟩ | ⟨⟩) h
 ·try dsimp only at h
  conv => whnf
  refine Cells.lit rfl rfl ?_
  conv => whnf
  refine Cells.lit rfl rfl ?_
  conv => whnf
  refine CallP.o (slr true 1 (slr true 1 Ae)) (by first | rfl | simp only [Aa, V.fz, fzL, V.up, upL, Ab, Ac, Ad, slr, List.cons_append, List.nil_append] | simp [Aa, V.fz, fzL, V.up, upL, Ab, Ac, Ad, slr]) h (fun r h => Da h) (fun r9 h => ?_)
  conv => whnf
  refine CallQ.rd V.bool (by first | rfl | simp only [V.fz, fzL, V.up, Ab, Ad, slr] | simp [Aa, V.fz, fzL, V.up, upL, Ab, Ac, Ad, slr]) (fun _ => rfl) h (fun r h => P2 h) (fun r10 h => ?_)
  conv => whnf
  cases h; exact (by first | rfl | simp only [Ah, Aa, V.fz, fzL, V.up, upL, Ab, Ac, Ad, slr] | simp [Ah, Aa, V.fz, fzL, V.up, upL, Ab, Ac, Ad, slr])
 try dsimp only at h
 conv => whnf
 cases h; exact (by first | rfl | simp only [Ah, Aa, V.fz, fzL, V.up, upL, Ab, Ac, Ad, slr] | simp [Ah, Aa, V.fz, fzL, V.up, upL, Ab, Ac, Ad, slr])
noncomputable def Cw (c0 : Sl1Cur) : Option (SAlgebra × Sl1Cur) :=
 (Bt (c0) ((6 : Int))).bind fun (r1, u2) =>
 if (r1) = true then
 (Dk (u2)).bind fun (r4, u5) =>
 some (r4, u5)
 else
 (At (u2) ([(0 : Int), (1 : Int), (2 : Int), (3 : Int), (4 : Int), (5 : Int), (6 : Int), (7 : Int), (8 : Int), (9 : Int), (10 : Int), (12 : Int), (13 : Int), (14 : Int), (15 : Int), (16 : Int)])).bind fun (r6, u7) =>
 (Fn (r6)).bind fun r8 =>
 some (r8, u7)
theorem Ox {c0 : Sl1Cur} {v : (SAlgebra × Sl1Cur)} (h : Cw c0 = some v) : Tc Try.prog Fw [(rP true (Aj false)) c0] ((Az true) v.1) 0 ((rP true (Aj false)) v.2) := by
 refine Mz Ph (Nat.le_of_ble_eq_true rfl) ?_
 unfold Cw at h
 conv => whnf
 refine CallQ.io V.bool (rP true (Aj false)) (by first | rfl | simp only [Aa, V.fz, fzL, V.up, upL, Ab, Ac, Ad, slr, List.cons_append, List.nil_append] | simp [Aa, V.fz, fzL, V.up, upL, Ab, Ac, Ad, slr]) rfl (fun _ => rfl) (fun _ => ⟨rfl, rfl⟩) rfl h (fun r h => Fq h) (fun r1 u2 h => ?_)
 conv => whnf
 refine Br.ob h (fun p3 h => ?_) (fun p3 h => ?_)
 ·conv => whnf
  refine CallQ.io (Az true) (rP true (Aj false)) (by first | rfl | simp only [Aa, V.fz, fzL, V.up, upL, Ab, Ac, Ad, slr, List.cons_append, List.nil_append] | simp [Aa, V.fz, fzL, V.up, upL, Ab, Ac, Ad, slr]) rfl (fun _ => rfl) (fun _ => ⟨rfl, rfl⟩) rfl h (fun r h => Q7 h) (fun r4 u5 h => ?_)
  conv => whnf
  refine SetKids.lit rfl ?_
  conv => whnf
  cases h; exact ⟨(by first | rfl | simp only [Ah, Aa, V.fz, fzL, V.up, upL, Ab, Ac, Ad, slr] | simp [Ah, Aa, V.fz, fzL, V.up, upL, Ab, Ac, Ad, slr]), (by first | rfl | simp only [Ah, Aa, V.fz, fzL, V.up, upL, Ab, Ac, Ad, slr] | simp [Ah, Aa, V.fz, fzL, V.up, upL, Ab, Ac, Ad, slr])⟩
 conv => whnf
 refine BslQ.o Ae ([(0 : Int), (1 : Int), (2 : Int), (3 : Int), (4 : Int), (5 : Int), (6 : Int), (7 : Int), (8 : Int), (9 : Int), (10 : Int), (12 : Int), (13 : Int), (14 : Int), (15 : Int), (16 : Int)]) (by exact fun _ => ⟨rfl, rfl⟩) (by first | rfl | simp only [Aa, V.fz, fzL, V.up, upL, Ab, Ac, Ad, slr, List.cons_append, List.nil_append] | simp [Aa, V.fz, fzL, V.up, upL, Ab, Ac, Ad, slr]) ?_
 conv => whnf
 refine CallQ.io Ae (rP true (Aj false)) (by first | rfl | simp only [Aa, V.fz, fzL, V.up, upL, Ab, Ac, Ad, slr, List.cons_append, List.nil_append] | simp [Aa, V.fz, fzL, V.up, upL, Ab, Ac, Ad, slr]) rfl (fun _ => rfl) (fun _ => ⟨rfl, rfl⟩) rfl h (fun r h => A3 h) (fun r6 u7 h => ?_)
 conv => whnf
 refine CallQ.o (Az true) (by first | rfl | simp only [Aa, V.fz, fzL, V.up, upL, Ab, Ac, Ad, slr, List.cons_append, List.nil_append] | simp [Aa, V.fz, fzL, V.up, upL, Ab, Ac, Ad, slr]) h (fun r h => Ra h) (fun r8 h => ?_)
 conv => whnf
 refine SetKids.lit rfl ?_
 conv => whnf
 cases h; exact ⟨(by first | rfl | simp only [Ah, Aa, V.fz, fzL, V.up, upL, Ab, Ac, Ad, slr] | simp [Ah, Aa, V.fz, fzL, V.up, upL, Ab, Ac, Ad, slr]), (by first | rfl | simp only [Ah, Aa, V.fz, fzL, V.up, upL, Ab, Ac, Ad, slr] | simp [Ah, Aa, V.fz, fzL, V.up, upL, Ab, Ac, Ad, slr])⟩
noncomputable def E1 (n0 : Int) (table0 : List Int) (r1 : List (List Int)) (x16 : Int) (x10 : Int) : (Int × (List Int)) → Option ((Int × (List Int)) ⊕ (List Int)) := fun (x11, x7'') =>
 if x11 < n0 then
 ask (x16.toNat < r1.length) <|
 (Ge (nth r1 x16.toNat) ([x10, x11])).bind fun r7 =>
 (Fj (r7) (n0)).bind fun r8 =>
 ask ((0 : Int) ≤ r8 ∧ r8 < (↑table0.length : Int)) <|
 ask ((x7'').length + ([nth table0 r8.toNat]).length ≤ LIM) <|
 ask (InI (x11 + (1 : Int))) <|
 some (.inl (x11 + (1 : Int), x7'' ++ [nth table0 r8.toNat]))
 else
 some (.inr x7'')
def Kn (n0 : Int) (table0 : List Int) (r1 : List (List Int)) (x16 : Int) (x10 : Int) : (Int × (List Int)) → St := fun s => [(11, A.val (Ae s.1)), (10, A.val (Ae (x10))), (9, A.ref 14 [A1 x16.toNat (1 : Nat)]), (16, A.val (Ae (x16))), (15, A.val (Ae ((↑r1.length : Int)))), (14, A.val ((slr true 1 (slr true 1 Ae)) (r1))), (7, A.val ((slr true 1 Ae) s.2)), (0, A.val (Ae (n0))), (1, A.val ((slr false 1 Ae) (table0)))]
def P5 (n0 : Int) (table0 : List Int) (r1 : List (List Int)) (x16 : Int) (x10 : Int) : (List Int) → Tgt
 | s => ((Ex.exit 4), [10, 9, 16, 15, 14, 7, 0, 1], [(10, A.val (Ae (x10))), (9, A.ref 14 [A1 x16.toNat (1 : Nat)]), (16, A.val (Ae (x16))), (15, A.val (Ae ((↑r1.length : Int)))), (14, A.val ((slr true 1 (slr true 1 Ae)) (r1))), (7, A.val ((slr true 1 Ae) s)), (0, A.val (Ae (n0))), (1, A.val ((slr false 1 Ae) (table0)))])
theorem Xz {n0 : Int} {table0 : List Int} {r1 : List (List Int)} {x16 : Int} {x10 : Int} (s : (Int × (List Int))) (o : (Int × (List Int)) ⊕ (List Int)) (h : E1 n0 table0 r1 x16 x10 s = some o) : vc Try.prog Ps (Er [11, 10, 9, 16, 15, 14, 7, 0, 1] (Kn n0 table0 r1 x16 x10) (P5 n0 table0 r1 x16 x10) o) (Kn n0 table0 r1 x16 x10 s) := by
 obtain ⟨x11, x7''⟩ := s
 unfold E1 at h
 try dsimp only at h
 conv => whnf
 refine Br.od h (fun p5 h => ?_) (fun p5 h => ?_)
 ·conv => whnf
  refine BslQ.o Ae ([x10, x11]) (by exact fun _ => ⟨rfl, rfl⟩) (by first | rfl | simp only [Aa, V.fz, fzL, V.up, upL, Ab, Ac, Ad, slr, List.cons_append, List.nil_append] | simp [Aa, V.fz, fzL, V.up, upL, Ab, Ac, Ad, slr]) ?_
  conv => whnf
  obtain ⟨p6, h⟩ := Uo.1 h
  refine Kid.one (fun _ => ⟨rfl, rfl⟩) (by first | omega | (simp [A1] at *; omega)) ?_
  conv => whnf
  refine CallQ.rd (slr true 1 Ae) (by first | rfl | simp only [Aa, V.fz, Ab, slr] | simp [Aa, V.fz, fzL, V.up, upL, Ab, Ac, Ad, slr]) (fun _ => by simp [V.noFz, Bo]) h (fun r h => Zy h) (fun r7 h => ?_)
  conv => whnf
  refine CallQ.rd Ae (by first | rfl | simp only [V.fz, V.up, Ab, Ad, slr] | simp [Aa, V.fz, fzL, V.up, upL, Ab, Ac, Ad, slr]) (fun _ => rfl) h (fun r h => Aar h) (fun r8 h => ?_)
  conv => whnf
  refine Len.map ?_
  conv => whnf
  refine Ask.o h fun p9 h => ?_
  conv => whnf
  refine Elem.o (by first | omega | (simp [A1] at *; omega)) ?_
  conv => whnf
  refine BslQ.o Ae ([nth table0 r8.toNat]) (by exact fun _ => ⟨rfl, rfl⟩) (by first | rfl | simp only [Aa, V.fz, fzL, V.up, upL, Ab, Ac, Ad, slr, List.cons_append, List.nil_append] | simp [Aa, V.fz, fzL, V.up, upL, Ab, Ac, Ad, slr]) ?_
  conv => whnf
  refine NoOwn.o (fun _ => rfl) ?_
  conv => whnf
  refine AppQ.o (m := 1) Ae (by exact fun _ => ⟨rfl, rfl⟩) (x7'') ([nth table0 r8.toNat]) (by first | rfl | simp only [Aa, V.fz, fzL, V.up, upL, Ab, Ac, Ad, slr, List.cons_append, List.nil_append] | simp [Aa, V.fz, fzL, V.up, upL, Ab, Ac, Ad, slr]) (by first | rfl | simp only [Aa, V.fz, fzL, V.up, upL, Ab, Ac, Ad, slr, List.cons_append, List.nil_append] | simp [Aa, V.fz, fzL, V.up, upL, Ab, Ac, Ad, slr]) h fun h => ?_
  conv => whnf
  refine Ask.o h fun p10 h => ?_
  conv => whnf
  cases h; exact ⟨rfl, rfl⟩
 conv => whnf
 cases h; exact ⟨rfl, rfl⟩
noncomputable def E3 (n0 : Int) (table0 : List Int) (r1 : List (List Int)) (x16 : Int) : (Int × (List Int)) → Option ((Int × (List Int)) ⊕ (List Int)) := fun (x10, x7') =>
 if x10 < n0 then
 (Aw (E1 n0 table0 r1 x16 x10) ((0 : Int), x7')).bind fun q11_7 =>
 ask (InI (x10 + (1 : Int))) <|
 some (.inl (x10 + (1 : Int), q11_7))
 else
 some (.inr x7')
def Kp (n0 : Int) (table0 : List Int) (r1 : List (List Int)) (x16 : Int) : (Int × (List Int)) → St := fun s => [(10, A.val (Ae s.1)), (9, A.ref 14 [A1 x16.toNat (1 : Nat)]), (16, A.val (Ae (x16))), (15, A.val (Ae ((↑r1.length : Int)))), (14, A.val ((slr true 1 (slr true 1 Ae)) (r1))), (7, A.val ((slr true 1 Ae) s.2)), (0, A.val (Ae (n0))), (1, A.val ((slr false 1 Ae) (table0)))]
def Pw (n0 : Int) (table0 : List Int) (r1 : List (List Int)) (x16 : Int) : (List Int) → Tgt
 | s => ((Ex.exit 2), [16, 15, 14, 7, 0, 1], [(16, A.val (Ae (x16))), (15, A.val (Ae ((↑r1.length : Int)))), (14, A.val ((slr true 1 (slr true 1 Ae)) (r1))), (7, A.val ((slr true 1 Ae) s)), (0, A.val (Ae (n0))), (1, A.val ((slr false 1 Ae) (table0)))])
theorem Xu {n0 : Int} {table0 : List Int} {r1 : List (List Int)} {x16 : Int} (s : (Int × (List Int))) (o : (Int × (List Int)) ⊕ (List Int)) (h : E3 n0 table0 r1 x16 s = some o) : vc Try.prog P8 (Er [10, 9, 16, 15, 14, 7, 0, 1] (Kp n0 table0 r1 x16) (Pw n0 table0 r1 x16) o) (Kp n0 table0 r1 x16 s) := by
 obtain ⟨x10, x7'⟩ := s
 unfold E3 at h
 try dsimp only at h
 conv => whnf
 refine Br.od h (fun p4 h => ?_) (fun p4 h => ?_)
 ·conv => whnf
  refine LoopQ.o [11, 10, 9, 16, 15, 14, 7, 0, 1] (Kn n0 table0 r1 x16 x10) (P5 n0 table0 r1 x16 x10) h (fun s o h => Xz s o h) (by first | rfl | simp [restrict, look, Aa, V.fz, fzL, V.up, upL, Ab, Ac, Ad, slr]) (fun _ => rfl) ?_
  rintro q11_7 h
  try dsimp only at h
  conv => whnf
  refine Ask.o h fun p12 h => ?_
  conv => whnf
  cases h; exact ⟨rfl, rfl⟩
 conv => whnf
 cases h; exact ⟨rfl, rfl⟩
noncomputable def Dt (n0 : Int) (table0 : List Int) (r1 : List (List Int)) : (Int × (List Int)) → Option ((Int × (List Int)) ⊕ (List Int)) := fun (x16, x7) =>
 if x16 < (↑r1.length : Int) then
 ask ((0 : Int) ≤ x16 ∧ x16 < (↑r1.length : Int)) <|
 (Aw (E3 n0 table0 r1 x16) ((0 : Int), x7)).bind fun q13_7 =>
 ask (InI (x16 + (1 : Int))) <|
 some (.inl (x16 + (1 : Int), q13_7))
 else
 some (.inr x7)
def Ki (n0 : Int) (table0 : List Int) (r1 : List (List Int)) : (Int × (List Int)) → St := fun s => [(16, A.val (Ae s.1)), (15, A.val (Ae ((↑r1.length : Int)))), (14, A.val ((slr true 1 (slr true 1 Ae)) (r1))), (7, A.val ((slr true 1 Ae) s.2)), (0, A.val (Ae (n0))), (1, A.val ((slr false 1 Ae) (table0)))]
def P3 (_n0 : Int) (_table0 : List Int) (_r1 : List (List Int)) : (List Int) → Tgt
 | s => ((Ex.exit 0), [7], [(7, A.val ((slr true 1 Ae) s))])
theorem Yl {n0 : Int} {table0 : List Int} {r1 : List (List Int)} (s : (Int × (List Int))) (o : (Int × (List Int)) ⊕ (List Int)) (h : Dt n0 table0 r1 s = some o) : vc Try.prog Py (Er [16, 15, 14, 7, 0, 1] (Ki n0 table0 r1) (P3 n0 table0 r1) o) (Ki n0 table0 r1 s) := by
 obtain ⟨x16, x7⟩ := s
 unfold Dt at h
 try dsimp only at h
 conv => whnf
 refine Br.od h (fun p2 h => ?_) (fun p2 h => ?_)
 ·conv => whnf
  refine Len.map ?_
  conv => whnf
  refine Ask.o h fun p3 h => ?_
  conv => whnf
  refine Cells.one (fun _ => ⟨rfl, rfl⟩) (by first | omega | (simp [A1] at *; omega)) ?_
  conv => whnf
  refine LoopQ.o [10, 9, 16, 15, 14, 7, 0, 1] (Kp n0 table0 r1 x16) (Pw n0 table0 r1 x16) h (fun s o h => Xu s o h) (by first | rfl | simp [restrict, look, Aa, V.fz, fzL, V.up, upL, Ab, Ac, Ad, slr]) (fun _ => rfl) ?_
  rintro q13_7 h
  try dsimp only at h
  conv => whnf
  refine Ask.o h fun p14 h => ?_
  conv => whnf
  cases h; exact ⟨rfl, rfl⟩
 conv => whnf
 cases h; exact ⟨rfl, rfl⟩
noncomputable def Gr (n0 : Int) (table0 : (List Int)) (c0 : SCondition) : Option (List Int) :=
 (Cd (c0)).bind fun r1 =>
 (Aw (Dt n0 table0 r1) ((0 : Int), Ba Int)).bind fun q15_7 =>
 some q15_7
theorem U5 {n0 : Int} {table0 : (List Int)} {c0 : SCondition} {v : (List Int)} (h : Gr n0 table0 c0 = some v) : Ret Try.prog K5 [Ae n0, (slr false 1 Ae) table0, (Ag false) c0] ((slr true 1 Ae) v) := by
 refine Bg Adx (Nat.le_of_ble_eq_true rfl) ?_
 unfold Gr at h
 conv => whnf
 refine BslQ.o Ae (Ba Int) (by exact fun _ => ⟨rfl, rfl⟩) (by first | rfl | simp only [Aa, V.fz, fzL, V.up, upL, Ab, Ac, Ad, slr, List.cons_append, List.nil_append] | simp [Aa, V.fz, fzL, V.up, upL, Ab, Ac, Ad, slr]) ?_
 conv => whnf
 refine Cells.lit rfl rfl ?_
 conv => whnf
 refine CallQ.o (slr true 1 (slr true 1 Ae)) (by first | rfl | simp only [Aa, V.fz, fzL, V.up, upL, Ab, Ac, Ad, slr, List.cons_append, List.nil_append] | simp [Aa, V.fz, fzL, V.up, upL, Ab, Ac, Ad, slr]) h (fun r h => Gb h) (fun r1 h => ?_)
 conv => whnf
 refine Len.map ?_
 conv => whnf
 refine LoopQ.o [16, 15, 14, 7, 0, 1] (Ki n0 table0 r1) (P3 n0 table0 r1) h (fun s o h => Yl s o h) (by first | rfl | simp [restrict, look, Aa, V.fz, fzL, V.up, upL, Ab, Ac, Ad, slr]) (fun _ => rfl) ?_
 rintro q15_7 h
 try dsimp only at h
 conv => whnf
 cases h; exact (by first | rfl | simp only [Ah, Aa, V.fz, fzL, V.up, upL, Ab, Ac, Ad, slr] | simp [Ah, Aa, V.fz, fzL, V.up, upL, Ab, Ac, Ad, slr])
noncomputable def Dp (n0 : Int) (f0 : SOp) (c0 : SCondition) : Option Bool :=
 (Ee (c0)).bind fun r1 =>
 if (r1) = true then
 (Cm (n0) ((1 : Int)) ((4 : Int))).bind fun r3 =>
 if (r3) = true then
 if f0.Arity = c0.Arity then
 (Ke (n0) (f0)).bind fun r6 =>
 some r6
 else
 some false
 else
 some false
 else
 some false
theorem Kw {n0 : Int} {f0 : SOp} {c0 : SCondition} {v : Bool} (h : Dp n0 f0 c0 = some v) : Ret Try.prog Fx [Ae n0, (Al false) f0, (Ag false) c0] (V.bool v) := by
 refine Bg Yg (Nat.le_of_ble_eq_true rfl) ?_
 unfold Dp at h
 conv => whnf
 refine Cells.lit rfl rfl ?_
 conv => whnf
 refine CallQ.o V.bool (by first | rfl | simp only [Aa, V.fz, fzL, V.up, upL, Ab, Ac, Ad, slr, List.cons_append, List.nil_append] | simp [Aa, V.fz, fzL, V.up, upL, Ab, Ac, Ad, slr]) h (fun r h => L5 h) (fun r1 h => ?_)
 conv => whnf
 refine Br.ob h (fun p2 h => ?_) (fun p2 h => ?_)
 ·conv => whnf
  refine Br.yes ?_
  conv => whnf
  refine CallQ.o V.bool (by first | rfl | simp only [Aa, V.fz, fzL, V.up, upL, Ab, Ac, Ad, slr, List.cons_append, List.nil_append] | simp [Aa, V.fz, fzL, V.up, upL, Ab, Ac, Ad, slr]) h (fun r h => E8 h) (fun r3 h => ?_)
  conv => whnf
  refine Br.yes ?_
  conv => whnf
  refine Br.ob h (fun p4 h => ?_) (fun p4 h => ?_)
  ·conv => whnf
   refine Br.yes ?_
   conv => whnf
   refine Cells.lit rfl rfl ?_
   conv => whnf
   refine Br.yes ?_
   conv => whnf
   refine Br.yes ?_
   conv => whnf
   refine Cells.lit rfl rfl ?_
   conv => whnf
   refine Br.yes ?_
   conv => whnf
   refine Br.yes ?_
   conv => whnf
   refine Br.oe h (fun p5 h => ?_) (fun p5 h => ?_)
   ·conv => whnf
    refine Br.yes ?_
    conv => whnf
    refine Cells.lit rfl rfl ?_
    conv => whnf
    refine Br.yes ?_
    conv => whnf
    refine CallQ.o V.bool (by first | rfl | simp only [Aa, V.fz, fzL, V.up, upL, Ab, Ac, Ad, slr, List.cons_append, List.nil_append] | simp [Aa, V.fz, fzL, V.up, upL, Ab, Ac, Ad, slr]) h (fun r h => Aex h) (fun r6 h => ?_)
    conv => whnf
    refine Br.yes ?_
    conv => whnf
    cases h; exact (by first | rfl | simp only [Ah, Aa, V.fz, fzL, V.up, upL, Ab, Ac, Ad, slr] | simp [Ah, Aa, V.fz, fzL, V.up, upL, Ab, Ac, Ad, slr])
   conv => whnf
   refine Br.no ?_
   conv => whnf
   refine Br.no ?_
   conv => whnf
   refine Br.no ?_
   conv => whnf
   cases h; exact (by first | rfl | simp only [Ah, Aa, V.fz, fzL, V.up, upL, Ab, Ac, Ad, slr] | simp [Ah, Aa, V.fz, fzL, V.up, upL, Ab, Ac, Ad, slr])
  conv => whnf
  refine Br.no ?_
  conv => whnf
  refine Br.no ?_
  conv => whnf
  refine Br.no ?_
  conv => whnf
  refine Br.no ?_
  conv => whnf
  refine Br.no ?_
  conv => whnf
  refine Br.no ?_
  conv => whnf
  refine Br.no ?_
  conv => whnf
  refine Br.no ?_
  conv => whnf
  refine Br.no ?_
  conv => whnf
  cases h; exact (by first | rfl | simp only [Ah, Aa, V.fz, fzL, V.up, upL, Ab, Ac, Ad, slr] | simp [Ah, Aa, V.fz, fzL, V.up, upL, Ab, Ac, Ad, slr])
 conv => whnf
 refine Br.no ?_
 conv => whnf
 refine Br.no ?_
 conv => whnf
 refine Br.no ?_
 conv => whnf
 refine Br.no ?_
 conv => whnf
 refine Br.no ?_
 conv => whnf
 refine Br.no ?_
 conv => whnf
 refine Br.no ?_
 conv => whnf
 refine Br.no ?_
 conv => whnf
 refine Br.no ?_
 conv => whnf
 refine Br.no ?_
 conv => whnf
 refine Br.no ?_
 conv => whnf
 refine Br.no ?_
 conv => whnf
 cases h; exact (by first | rfl | simp only [Ah, Aa, V.fz, fzL, V.up, upL, Ab, Ac, Ad, slr] | simp [Ah, Aa, V.fz, fzL, V.up, upL, Ab, Ac, Ad, slr])
end Go.Proofs.Ytidaaijecmkndaa.Ax
