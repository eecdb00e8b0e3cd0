/-
 What the functions compute, as functions on plain data, and that the program does compute it; written by program.
-/
import Derived.Test.YtidaaijecmkndaaCode
import Derived.Test.YtidaaijecmkndaaSo5
import Derived.Test.YtidaaijecmkndaaG1
import Derived.Test.YtidaaijecmkndaaG2
import Derived.Test.YtidaaijecmkndaaG3
import Derived.Test.YtidaaijecmkndaaG5
import Derived.Test.YtidaaijecmkndaaG6
import Derived.Test.YtidaaijecmkndaaG8
namespace Go.Proofs.Ytidaaijecmkndaa.Ax
open Go
set_option maxRecDepth 100000
set_option maxHeartbeats 4000000
noncomputable def Cn (a0 : SAlgebra) (some0 : (List Int)) : Option Bool :=
 (Cc (a0)).bind fun r1 =>
 if (r1) = true then
 if (↑some0.length : Int) ≤ (20 : Int) then
 (Fp (some0) (a0.Size)).bind fun r4 =>
 some r4
 else
 some false
 else
 some false
theorem I4 {a0 : SAlgebra} {some0 : (List Int)} {v : Bool} (h : Cn a0 some0 = some v) : Ret Try.prog E2 [(Ag false) a0, (slr false 1 Af) some0] (V.bool v) := by
 refine A1 Yb (Nat.le_of_ble_eq_true rfl) ?_
 unfold Cn at h
 conv => whnf
 refine Cells.lit rfl rfl ?_
 conv => whnf
 refine CallQ.o V.bool (by first | rfl | simp only [Aa, V.fz, fzL, V.up, upL, Ab, Ac, Ad, slr, List.cons_append, List.nil_append] | simp [Aa, V.fz, fzL, V.up, upL, Ab, Ac, Ad, slr]) h (fun r h => F3 h) (fun r1 h => ?_)
 conv => whnf
 refine Br.ob h (fun p2 h => ?_) (fun p2 h => ?_)
 ·conv => whnf
  refine Br.yes ?_
  conv => whnf
  refine Len.map ?_
  conv => whnf
  refine Br.yes ?_
  conv => whnf
  refine Br.yes ?_
  conv => whnf
  refine Br.od h (fun p3 h => ?_) (fun p3 h => ?_)
  ·conv => whnf
   refine Br.yes ?_
   conv => whnf
   refine Br.yes ?_
   conv => whnf
   refine Cells.lit rfl rfl ?_
   conv => whnf
   refine Br.yes ?_
   conv => whnf
   refine CallQ.o V.bool (by first | rfl | simp only [Aa, V.fz, fzL, V.up, upL, Ab, Ac, Ad, slr, List.cons_append, List.nil_append] | simp [Aa, V.fz, fzL, V.up, upL, Ab, Ac, Ad, slr]) h (fun r h => P9 h) (fun r4 h => ?_)
   conv => whnf
   refine Br.yes ?_
   conv => whnf
   cases h; exact (by first | rfl | simp only [Ah, Aa, V.fz, fzL, V.up, upL, Ab, Ac, Ad, slr] | simp [Ah, Aa, V.fz, fzL, V.up, upL, Ab, Ac, Ad, slr])
  conv => whnf
  refine Br.no ?_
  conv => whnf
  refine Br.no ?_
  conv => whnf
  refine Br.no ?_
  conv => whnf
  refine Br.no ?_
  conv => whnf
  cases h; exact (by first | rfl | simp only [Ah, Aa, V.fz, fzL, V.up, upL, Ab, Ac, Ad, slr] | simp [Ah, Aa, V.fz, fzL, V.up, upL, Ab, Ac, Ad, slr])
 conv => whnf
 refine Br.no ?_
 conv => whnf
 refine Br.no ?_
 conv => whnf
 refine Br.no ?_
 conv => whnf
 refine Br.no ?_
 conv => whnf
 refine Br.no ?_
 conv => whnf
 refine Br.no ?_
 conv => whnf
 refine Br.no ?_
 conv => whnf
 refine Br.no ?_
 conv => whnf
 cases h; exact (by first | rfl | simp only [Ah, Aa, V.fz, fzL, V.up, upL, Ab, Ac, Ad, slr] | simp [Ah, Aa, V.fz, fzL, V.up, upL, Ab, Ac, Ad, slr])
noncomputable def J5 (a0 : SAlgebra) (sub0 : (List Int)) : Option Bool :=
 (Fp (sub0) (a0.Size)).bind fun r1 =>
 if (r1) = true then
 (Kk (sub0)).bind fun r3 =>
 if (r3) = true then
 (Bm (a0) (sub0)).bind fun r5 =>
 some ((↑r5.length : Int) == (↑sub0.length : Int))
 else
 some false
 else
 some false
theorem Ai2 {a0 : SAlgebra} {sub0 : (List Int)} {v : Bool} (h : J5 a0 sub0 = some v) : Ret Try.prog Sa [(Ag false) a0, (slr false 1 Af) sub0] (V.bool v) := by
 refine A1 Ajk (Nat.le_of_ble_eq_true rfl) ?_
 unfold J5 at h
 conv => whnf
 refine Cells.lit rfl rfl ?_
 conv => whnf
 refine CallQ.o V.bool (by first | rfl | simp only [Aa, V.fz, fzL, V.up, upL, Ab, Ac, Ad, slr, List.cons_append, List.nil_append] | simp [Aa, V.fz, fzL, V.up, upL, Ab, Ac, Ad, slr]) h (fun r h => P9 h) (fun r1 h => ?_)
 conv => whnf
 refine Br.ob h (fun p2 h => ?_) (fun p2 h => ?_)
 ·conv => whnf
  refine Br.yes ?_
  conv => whnf
  refine CallQ.o V.bool (by first | rfl | simp only [Aa, V.fz, fzL, V.up, upL, Ab, Ac, Ad, slr, List.cons_append, List.nil_append] | simp [Aa, V.fz, fzL, V.up, upL, Ab, Ac, Ad, slr]) h (fun r h => Aj8 h) (fun r3 h => ?_)
  conv => whnf
  refine Br.yes ?_
  conv => whnf
  refine Br.ob h (fun p4 h => ?_) (fun p4 h => ?_)
  ·conv => whnf
   refine Cells.lit rfl rfl ?_
   conv => whnf
   refine Br.yes ?_
   conv => whnf
   refine Br.yes ?_
   conv => whnf
   refine CallQ.o (slr true 1 Af) (by first | rfl | simp only [Aa, V.fz, fzL, V.up, upL, Ab, Ac, Ad, slr, List.cons_append, List.nil_append] | simp [Aa, V.fz, fzL, V.up, upL, Ab, Ac, Ad, slr]) h (fun r h => Fc h) (fun r5 h => ?_)
   conv => whnf
   refine Br.yes ?_
   conv => whnf
   refine Len.map ?_
   conv => whnf
   refine Br.yes ?_
   conv => whnf
   refine Br.yes ?_
   conv => whnf
   refine Len.map ?_
   conv => whnf
   refine Br.yes ?_
   conv => whnf
   refine Br.yes ?_
   conv => whnf
   cases h; exact (by first | rfl | simp only [Ah, Aa, V.fz, fzL, V.up, upL, Ab, Ac, Ad, slr] | simp [Ah, Aa, V.fz, fzL, V.up, upL, Ab, Ac, Ad, slr])
  conv => whnf
  refine Br.no ?_
  conv => whnf
  refine Br.no ?_
  conv => whnf
  refine Br.no ?_
  conv => whnf
  refine Br.no ?_
  conv => whnf
  refine Br.no ?_
  conv => whnf
  refine Br.no ?_
  conv => whnf
  refine Br.no ?_
  conv => whnf
  cases h; exact (by first | rfl | simp only [Ah, Aa, V.fz, fzL, V.up, upL, Ab, Ac, Ad, slr] | simp [Ah, Aa, V.fz, fzL, V.up, upL, Ab, Ac, Ad, slr])
 conv => whnf
 refine Br.no ?_
 conv => whnf
 refine Br.no ?_
 conv => whnf
 refine Br.no ?_
 conv => whnf
 refine Br.no ?_
 conv => whnf
 refine Br.no ?_
 conv => whnf
 refine Br.no ?_
 conv => whnf
 refine Br.no ?_
 conv => whnf
 refine Br.no ?_
 conv => whnf
 refine Br.no ?_
 conv => whnf
 refine Br.no ?_
 conv => whnf
 cases h; exact (by first | rfl | simp only [Ah, Aa, V.fz, fzL, V.up, upL, Ab, Ac, Ad, slr] | simp [Ah, Aa, V.fz, fzL, V.up, upL, Ab, Ac, Ad, slr])
noncomputable def Ma (a0 : SAlgebra) (sub0 : (List Int)) : Option Bool :=
 ask (InI (a0.Size - (1 : Int))) <|
 (G1 (sub0) ((0 : Int)) (a0.Size - (1 : Int))).bind fun r2 =>
 if (r2) = true then
 (C3 (a0) (sub0)).bind fun r4 =>
 (Iw (r4) (sub0)).bind fun r5 =>
 some r5
 else
 some false
theorem Am5 {a0 : SAlgebra} {sub0 : (List Int)} {v : Bool} (h : Ma a0 sub0 = some v) : Ret Try.prog Ua [(Ag false) a0, (slr false 1 Af) sub0] (V.bool v) := by
 refine A1 Als (Nat.le_of_ble_eq_true rfl) ?_
 unfold Ma at h
 conv => whnf
 refine Cells.lit rfl rfl ?_
 conv => whnf
 refine Ask.o h fun p1 h => ?_
 conv => whnf
 refine CallQ.o V.bool (by first | rfl | simp only [Aa, V.fz, fzL, V.up, upL, Ab, Ac, Ad, slr, List.cons_append, List.nil_append] | simp [Aa, V.fz, fzL, V.up, upL, Ab, Ac, Ad, slr]) h (fun r h => Acj h) (fun r2 h => ?_)
 conv => whnf
 refine Br.ob h (fun p3 h => ?_) (fun p3 h => ?_)
 ·conv => whnf
  refine Cells.lit rfl rfl ?_
  conv => whnf
  refine Br.yes ?_
  conv => whnf
  refine Br.yes ?_
  conv => whnf
  refine CallQ.o (slr true 1 Af) (by first | rfl | simp only [Aa, V.fz, fzL, V.up, upL, Ab, Ac, Ad, slr, List.cons_append, List.nil_append] | simp [Aa, V.fz, fzL, V.up, upL, Ab, Ac, Ad, slr]) h (fun r h => Km h) (fun r4 h => ?_)
  conv => whnf
  refine Br.yes ?_
  conv => whnf
  refine Br.yes ?_
  conv => whnf
  refine CallQ.rd V.bool (by first | rfl | simp only [V.fz, V.up, Ab, slr] | simp [Aa, V.fz, fzL, V.up, upL, Ab, Ac, Ad, slr]) (fun _ => rfl) h (fun r h => Af9 h) (fun r5 h => ?_)
  conv => whnf
  refine Br.yes ?_
  conv => whnf
  cases h; exact (by first | rfl | simp only [Ah, Aa, V.fz, fzL, V.up, upL, Ab, Ac, Ad, slr] | simp [Ah, Aa, V.fz, fzL, V.up, upL, Ab, Ac, Ad, slr])
 conv => whnf
 refine Br.no ?_
 conv => whnf
 refine Br.no ?_
 conv => whnf
 refine Br.no ?_
 conv => whnf
 refine Br.no ?_
 conv => whnf
 refine Br.no ?_
 conv => whnf
 cases h; exact (by first | rfl | simp only [Ah, Aa, V.fz, fzL, V.up, upL, Ab, Ac, Ad, slr] | simp [Ah, Aa, V.fz, fzL, V.up, upL, Ab, Ac, Ad, slr])
noncomputable def Es (a0 : SAlgebra) (some0 : (List Int)) : Option ((List Int) × Bool) :=
 (Cn (a0) (some0)).bind fun r1 =>
 if (r1) = true then
 (Bm (a0) (some0)).bind fun r3 =>
 some (r3, true)
 else
 some (A5 Int, false)
theorem X1 {a0 : SAlgebra} {some0 : (List Int)} {v : ((List Int) × Bool)} (h : Es a0 some0 = some v) : Ret Try.prog I7 [(Ag false) a0, (slr false 1 Af) some0] ((fun r => V.tup [(slr true 1 Af) r.1, V.bool r.2]) v) := by
 refine A1 X5 (Nat.le_of_ble_eq_true rfl) ?_
 unfold Es at h
 conv => whnf
 refine Cells.lit rfl rfl ?_
 conv => whnf
 refine CallQ.o V.bool (by first | rfl | simp only [Aa, V.fz, fzL, V.up, upL, Ab, Ac, Ad, slr, List.cons_append, List.nil_append] | simp [Aa, V.fz, fzL, V.up, upL, Ab, Ac, Ad, slr]) h (fun r h => I4 h) (fun r1 h => ?_)
 conv => whnf
 refine Br.flip ?_
 conv => whnf
 refine Br.ob h (fun p2 h => ?_) (fun p2 h => ?_)
 ·conv => whnf
  refine Cells.lit rfl rfl ?_
  conv => whnf
  refine CallQ.o (slr true 1 Af) (by first | rfl | simp only [Aa, V.fz, fzL, V.up, upL, Ab, Ac, Ad, slr, List.cons_append, List.nil_append] | simp [Aa, V.fz, fzL, V.up, upL, Ab, Ac, Ad, slr]) h (fun r h => Fc h) (fun r3 h => ?_)
  conv => whnf
  cases h; exact (by first | rfl | simp only [Ah, Aa, V.fz, fzL, V.up, upL, Ab, Ac, Ad, slr] | simp [Ah, Aa, V.fz, fzL, V.up, upL, Ab, Ac, Ad, slr])
 conv => whnf
 refine BslQ.o Af (A5 Int) (by exact fun _ => ⟨rfl, rfl⟩) (by first | rfl | simp only [Aa, V.fz, fzL, V.up, upL, Ab, Ac, Ad, slr, List.cons_append, List.nil_append] | simp [Aa, V.fz, fzL, V.up, upL, Ab, Ac, Ad, slr]) ?_
 conv => whnf
 cases h; exact (by first | rfl | simp only [Ah, Aa, V.fz, fzL, V.up, upL, Ab, Ac, Ad, slr] | simp [Ah, Aa, V.fz, fzL, V.up, upL, Ab, Ac, Ad, slr])
noncomputable def Ea (a0 : SAlgebra) (some0 : (List Int)) : Option (Bool × Bool) :=
 (Cn (a0) (some0)).bind fun r1 =>
 if (r1) = true then
 (Bm (a0) (some0)).bind fun r3 =>
 some ((↑r3.length : Int) == a0.Size, true)
 else
 some (false, false)
theorem Wm {a0 : SAlgebra} {some0 : (List Int)} {v : (Bool × Bool)} (h : Ea a0 some0 = some v) : Ret Try.prog Ii [(Ag false) a0, (slr false 1 Af) some0] ((fun r => V.tup [V.bool r.1, V.bool r.2]) v) := by
 refine A1 Ww (Nat.le_of_ble_eq_true rfl) ?_
 unfold Ea at h
 conv => whnf
 refine Cells.lit rfl rfl ?_
 conv => whnf
 refine CallQ.o V.bool (by first | rfl | simp only [Aa, V.fz, fzL, V.up, upL, Ab, Ac, Ad, slr, List.cons_append, List.nil_append] | simp [Aa, V.fz, fzL, V.up, upL, Ab, Ac, Ad, slr]) h (fun r h => I4 h) (fun r1 h => ?_)
 conv => whnf
 refine Br.flip ?_
 conv => whnf
 refine Br.ob h (fun p2 h => ?_) (fun p2 h => ?_)
 ·conv => whnf
  refine Cells.lit rfl rfl ?_
  conv => whnf
  refine CallP.o (slr true 1 Af) (by first | rfl | simp only [Aa, V.fz, fzL, V.up, upL, Ab, Ac, Ad, slr, List.cons_append, List.nil_append] | simp [Aa, V.fz, fzL, V.up, upL, Ab, Ac, Ad, slr]) h (fun r h => Fc h) (fun r3 h => ?_)
  conv => whnf
  refine Len.map ?_
  conv => whnf
  refine Cells.lit rfl rfl ?_
  conv => whnf
  cases h; exact (by first | rfl | simp only [Ah, Aa, V.fz, fzL, V.up, upL, Ab, Ac, Ad, slr] | simp [Ah, Aa, V.fz, fzL, V.up, upL, Ab, Ac, Ad, slr])
 conv => whnf
 cases h; exact (by first | rfl | simp only [Ah, Aa, V.fz, fzL, V.up, upL, Ab, Ac, Ad, slr] | simp [Ah, Aa, V.fz, fzL, V.up, upL, Ab, Ac, Ad, slr])
noncomputable def Bn (a0 : SAlgebra) (some0 : List Int) : Int → Option (Int ⊕ (Unit ⊕ Unit)) := fun x14 =>
 if x14 < (↑some0.length : Int) then
 ask ((0 : Int) ≤ x14 ∧ x14 < (↑some0.length : Int)) <|
 (Hn (some0) (x14)).bind fun r5 =>
 (Bm (a0) (r5)).bind fun r6 =>
 (G6 (r6) (nth some0 x14.toNat)).bind fun r7 =>
 if (r7) = true then
 ask (InI (x14 + (1 : Int))) <|
 some (.inl (x14 + (1 : Int)))
 else
 some (.inr (.inl ()))
 else
 some (.inr (.inr ()))
def Gb (a0 : SAlgebra) (some0 : List Int) : Int → St := fun s => [(14, A.val (Af s)), (13, A.val (Af ((↑some0.length : Int)))), (12, A.val ((slr false 1 Af) (some0))), (2, A.val ((rP true (Ag false)) (a0))), (1, A.val ((slr false 1 Af) (some0)))]
def Jk (_a0 : SAlgebra) (_some0 : List Int) : (Unit ⊕ Unit) → Tgt
 | (.inl _s) => (Ex.ret, [5, 4], [(5, A.val (V.bool (true))), (4, A.val (V.bool (false)))])
 | (.inr _s) => ((Ex.exit 0), [], [])
theorem Rt {a0 : SAlgebra} {some0 : List Int} (x14 : Int) (o : Int ⊕ (Unit ⊕ Unit)) (h : Bn a0 some0 x14 = some o) : vc Try.prog Jn (C0 [14, 13, 12, 2, 1] (Gb a0 some0) (Jk a0 some0) o) (Gb a0 some0 x14) := by
 unfold Bn at h
 try dsimp only at h
 conv => whnf
 refine Br.od h (fun p3 h => ?_) (fun p3 h => ?_)
 ·conv => whnf
  refine Len.map ?_
  conv => whnf
  refine Ask.o h fun p4 h => ?_
  conv => whnf
  refine Elem.o (by first | omega | (simp [As] at *; omega)) ?_
  conv => whnf
  refine Cells.lit rfl rfl ?_
  conv => whnf
  refine CallP.o (slr true 1 Af) (by first | rfl | simp only [Aa, V.fz, fzL, V.up, upL, Ab, Ac, Ad, slr, List.cons_append, List.nil_append] | simp [Aa, V.fz, fzL, V.up, upL, Ab, Ac, Ad, slr]) h (fun r h => Ae5 h) (fun r5 h => ?_)
  conv => whnf
  refine CallP.rd (slr true 1 Af) (by first | rfl | simp only [V.fz, fzL, Ab, slr] | simp [Aa, V.fz, fzL, V.up, upL, Ab, Ac, Ad, slr]) (fun _ => by simp [V.noFz, Be]) h (fun r h => Fc h) (fun r6 h => ?_)
  conv => whnf
  refine CallQ.rd V.bool (by first | rfl | simp only [V.fz, V.up, Ab, Ad, slr] | simp [Aa, V.fz, fzL, V.up, upL, Ab, Ac, Ad, slr]) (fun _ => rfl) h (fun r h => W6 h) (fun r7 h => ?_)
  conv => whnf
  refine Br.flip ?_
  conv => whnf
  refine Br.ob h (fun p8 h => ?_) (fun p8 h => ?_)
  ·conv => whnf
   refine Ask.o h fun p9 h => ?_
   conv => whnf
   cases h; exact ⟨rfl, rfl⟩
  conv => whnf
  cases h; exact ⟨rfl, rfl⟩
 conv => whnf
 cases h; exact ⟨rfl, rfl⟩
noncomputable def Dw (a0 : SAlgebra) (some0 : (List Int)) : Option (Bool × Bool) :=
 (Cn (a0) (some0)).bind fun r1 =>
 if (r1) = true then
 (Am (Bn a0 some0) (0 : Int)).bind fun t => match t with
 | (.inl _) => (some (false, true))
 | (.inr _) => (some (true, true))
 else
 some (false, false)
theorem Uv {a0 : SAlgebra} {some0 : (List Int)} {v : (Bool × Bool)} (h : Dw a0 some0 = some v) : Ret Try.prog Hm [(Ag false) a0, (slr false 1 Af) some0] ((fun r => V.tup [V.bool r.1, V.bool r.2]) v) := by
 refine A1 Vg (Nat.le_of_ble_eq_true rfl) ?_
 unfold Dw at h
 conv => whnf
 refine Cells.lit rfl rfl ?_
 conv => whnf
 refine CallQ.o V.bool (by first | rfl | simp only [Aa, V.fz, fzL, V.up, upL, Ab, Ac, Ad, slr, List.cons_append, List.nil_append] | simp [Aa, V.fz, fzL, V.up, upL, Ab, Ac, Ad, slr]) h (fun r h => I4 h) (fun r1 h => ?_)
 conv => whnf
 refine Br.flip ?_
 conv => whnf
 refine Br.ob h (fun p2 h => ?_) (fun p2 h => ?_)
 ·conv => whnf
  refine Len.map ?_
  conv => whnf
  refine LoopQ.o [14, 13, 12, 2, 1] (Gb a0 some0) (Jk a0 some0) h (fun s o h => Rt s o h) (by first | rfl | simp [restrict, look, Aa, V.fz, fzL, V.up, upL, Ab, Ac, Ad, slr]) (by rintro (_ | _) <;> rfl) ?_
  rintro (⟨⟩ | ⟨⟩) h
  ·try dsimp only at h
   conv => whnf
   cases h; exact (by first | rfl | simp only [Ah, Aa, V.fz, fzL, V.up, upL, Ab, Ac, Ad, slr] | simp [Ah, Aa, V.fz, fzL, V.up, upL, Ab, Ac, Ad, slr])
  try dsimp only at h
  conv => whnf
  cases h; exact (by first | rfl | simp only [Ah, Aa, V.fz, fzL, V.up, upL, Ab, Ac, Ad, slr] | simp [Ah, Aa, V.fz, fzL, V.up, upL, Ab, Ac, Ad, slr])
 conv => whnf
 cases h; exact (by first | rfl | simp only [Ah, Aa, V.fz, fzL, V.up, upL, Ab, Ac, Ad, slr] | simp [Ah, Aa, V.fz, fzL, V.up, upL, Ab, Ac, Ad, slr])
noncomputable def Dy (a0 : SAlgebra) : (Int × (List (List Int))) → Option ((Int × (List (List Int))) ⊕ (List (List Int))) := fun (x4, x3) =>
 ask ((0 : Int) ≤ a0.Size) <|
 if x4 < Q0 (1 : Int) a0.Size then
 (Fu (x4)).bind fun r3 =>
 (J5 (a0) (r3)).bind fun r4 =>
 if (r4) = true then
 ask ((x3).length + ([r3]).length ≤ LIM) <|
 ask (InI (x4 + (1 : Int))) <|
 some (.inl (x4 + (1 : Int), x3 ++ [r3]))
 else
 ask (InI (x4 + (1 : Int))) <|
 some (.inl (x4 + (1 : Int), x3))
 else
 some (.inr x3)
def Ke (a0 : SAlgebra) : (Int × (List (List Int))) → St := fun s => [(4, A.val (Af s.1)), (3, A.val ((slr true 1 (slr true 1 Af)) s.2)), (1, A.val ((rP true (Ag false)) (a0)))]
def Pq (_a0 : SAlgebra) : (List (List Int)) → Tgt
 | s => ((Ex.exit 0), [3], [(3, A.val ((slr true 1 (slr true 1 Af)) s))])
theorem Zt {a0 : SAlgebra} (s : (Int × (List (List Int)))) (o : (Int × (List (List Int))) ⊕ (List (List Int))) (h : Dy a0 s = some o) : vc Try.prog Pm (C0 [4, 3, 1] (Ke a0) (Pq a0) o) (Ke a0 s) := by
 obtain ⟨x4, x3⟩ := s
 unfold Dy at h
 try dsimp only at h
 conv => whnf
 refine Cells.lit rfl rfl ?_
 conv => whnf
 refine Ask.o h fun p1 h => ?_
 conv => whnf
 refine Br.od h (fun p2 h => ?_) (fun p2 h => ?_)
 ·conv => whnf
  refine CallQ.o (slr true 1 Af) (by first | rfl | simp only [Aa, V.fz, fzL, V.up, upL, Ab, Ac, Ad, slr, List.cons_append, List.nil_append] | simp [Aa, V.fz, fzL, V.up, upL, Ab, Ac, Ad, slr]) h (fun r h => Qa h) (fun r3 h => ?_)
  conv => whnf
  refine Cells.lit rfl rfl ?_
  conv => whnf
  refine CallQ.rd V.bool (by first | rfl | simp only [V.fz, fzL, Ab, slr] | simp [Aa, V.fz, fzL, V.up, upL, Ab, Ac, Ad, slr]) (fun _ => rfl) h (fun r h => Ai2 h) (fun r4 h => ?_)
  conv => whnf
  refine Br.ob h (fun p5 h => ?_) (fun p5 h => ?_)
  ·conv => whnf
   refine BslQ.o (slr true 1 Af) [r3] (by exact fun _ => ⟨rfl, rfl⟩) (by first | rfl | simp only [Aa, V.fz, fzL, V.up, upL, Ab, Ac, Ad, slr, List.cons_append, List.nil_append] | simp [Aa, V.fz, fzL, V.up, upL, Ab, Ac, Ad, slr]) ?_
   conv => whnf
   refine NoOwn.own rfl ?_
   conv => whnf
   refine AppQ.o (m := 1) (slr true 1 Af) (by exact fun _ => ⟨rfl, rfl⟩) (x3) ([r3]) (by first | rfl | simp only [Aa, V.fz, fzL, V.up, upL, Ab, Ac, Ad, slr, List.cons_append, List.nil_append] | simp [Aa, V.fz, fzL, V.up, upL, Ab, Ac, Ad, slr]) (by first | rfl | simp only [Aa, V.fz, fzL, V.up, upL, Ab, Ac, Ad, slr, List.cons_append, List.nil_append] | simp [Aa, V.fz, fzL, V.up, upL, Ab, Ac, Ad, slr]) h fun h => ?_
   conv => whnf
   refine Ask.o h fun p6 h => ?_
   conv => whnf
   cases h; exact ⟨rfl, rfl⟩
  conv => whnf
  refine Ask.o h fun p7 h => ?_
  conv => whnf
  cases h; exact ⟨rfl, rfl⟩
 conv => whnf
 cases h; exact ⟨rfl, rfl⟩
noncomputable def F5 (a0 : SAlgebra) : Option (List (List Int)) :=
 (Am (Dy a0) ((0 : Int), A5 (List Int))).bind fun q8_3 =>
 (D5 (q8_3) (fun w_0 w_1 => Cf w_0 w_1)).bind fun (_r9, u10) =>
 some u10
theorem Va {a0 : SAlgebra} {v : (List (List Int))} (h : F5 a0 = some v) : Ret Try.prog Kq [(Ag false) a0] ((slr true 1 (slr true 1 Af)) v) := by
 refine A1 Adj (Nat.le_of_ble_eq_true rfl) ?_
 unfold F5 at h
 conv => whnf
 refine BslQ.o (slr true 1 Af) (A5 (List Int)) (by exact fun _ => ⟨rfl, rfl⟩) (by first | rfl | simp only [Aa, V.fz, fzL, V.up, upL, Ab, Ac, Ad, slr, List.cons_append, List.nil_append] | simp [Aa, V.fz, fzL, V.up, upL, Ab, Ac, Ad, slr]) ?_
 conv => whnf
 refine LoopQ.o [4, 3, 1] (Ke a0) (Pq a0) h (fun s o h => Zt s o h) (by first | rfl | simp [restrict, look, Aa, V.fz, fzL, V.up, upL, Ab, Ac, Ad, slr]) (fun _ => rfl) ?_
 rintro q8_3 h
 try dsimp only at h
 conv => whnf
 refine CallQ.io (fun r => V.tup []) (slr true 1 (slr true 1 Af)) (by first | rfl | simp only [Aa, V.fz, fzL, V.up, upL, Ab, Ac, Ad, slr, List.cons_append, List.nil_append] | simp [Aa, V.fz, fzL, V.up, upL, Ab, Ac, Ad, slr]) rfl (fun _ => rfl) (fun _ => ⟨rfl, rfl⟩) rfl h (fun r h => Tq (f_order0 := C6) (c_order0 := []) (fun w_0 w_1 v h => Ret.cast (by first | rfl | simp only [Aa, V.fz, fzL, V.up, upL, Ab, Ac, Ad, slr, List.cons_append, List.nil_append] | simp [Aa, V.fz, fzL, V.up, upL, Ab, Ac, Ad, slr]) (Nc h)) h) (fun r9 u10 h => ?_)
 conv => whnf
 cases h; exact (by first | rfl | simp only [Ah, Aa, V.fz, fzL, V.up, upL, Ab, Ac, Ad, slr] | simp [Ah, Aa, V.fz, fzL, V.up, upL, Ab, Ac, Ad, slr])
noncomputable def G2 (a0 : SAlgebra) : (Int × (List (List Int))) → Option ((Int × (List (List Int))) ⊕ (List (List Int))) := fun (x4, x3) =>
 ask ((0 : Int) ≤ a0.Size) <|
 if x4 < Q0 (1 : Int) a0.Size then
 (Fo (x4)).bind fun r3 =>
 (Ma (a0) (r3)).bind fun r4 =>
 if (r4) = true then
 (In (x3) (r3)).bind fun r6 =>
 ask (InI (x4 + (1 : Int))) <|
 some (.inl (x4 + (1 : Int), r6))
 else
 ask (InI (x4 + (1 : Int))) <|
 some (.inl (x4 + (1 : Int), x3))
 else
 some (.inr x3)
def M8 (a0 : SAlgebra) : (Int × (List (List Int))) → St := fun s => [(4, A.val (Af s.1)), (3, A.val ((slr true 1 (slr false 1 Af)) s.2)), (1, A.val ((rP true (Ag false)) (a0)))]
def Tk (_a0 : SAlgebra) : (List (List Int)) → Tgt
 | s => ((Ex.exit 0), [3], [(3, A.val ((slr true 1 (slr false 1 Af)) s))])
theorem Acu {a0 : SAlgebra} (s : (Int × (List (List Int)))) (o : (Int × (List (List Int))) ⊕ (List (List Int))) (h : G2 a0 s = some o) : vc Try.prog Tu (C0 [4, 3, 1] (M8 a0) (Tk a0) o) (M8 a0 s) := by
 obtain ⟨x4, x3⟩ := s
 unfold G2 at h
 try dsimp only at h
 conv => whnf
 refine Cells.lit rfl rfl ?_
 conv => whnf
 refine Ask.o h fun p1 h => ?_
 conv => whnf
 refine Br.od h (fun p2 h => ?_) (fun p2 h => ?_)
 ·conv => whnf
  refine CallQ.o (slr true 1 Af) (by first | rfl | simp only [Aa, V.fz, fzL, V.up, upL, Ab, Ac, Ad, slr, List.cons_append, List.nil_append] | simp [Aa, V.fz, fzL, V.up, upL, Ab, Ac, Ad, slr]) h (fun r h => P6 h) (fun r3 h => ?_)
  conv => whnf
  refine Cells.lit rfl rfl ?_
  conv => whnf
  refine CallQ.rd V.bool (by first | rfl | simp only [V.fz, fzL, Ab, slr] | simp [Aa, V.fz, fzL, V.up, upL, Ab, Ac, Ad, slr]) (fun _ => rfl) h (fun r h => Am5 h) (fun r4 h => ?_)
  conv => whnf
  refine Br.ob h (fun p5 h => ?_) (fun p5 h => ?_)
  ·conv => whnf
   refine FrzQ.d (V.sl false (1 : Nat) (List.map (slr false (1 : Nat) Af) x3)) (by first | (simp only [slr]; done) | (simp [Fe, V.fz, Ab, slr]; done)) ?_
   conv => whnf
   refine FrzQ.d (V.sl false (1 : Nat) (List.map Af r3)) (by first | (simp only [slr]; done) | (simp [Fe, V.fz, Ab, slr]; done)) ?_
   conv => whnf
   refine CallQ.o (slr true 1 (slr false 1 Af)) (by first | rfl | simp only [Aa, V.fz, fzL, V.up, upL, Ab, Ac, Ad, slr, List.cons_append, List.nil_append] | simp [Aa, V.fz, fzL, V.up, upL, Ab, Ac, Ad, slr]) h (fun r h => Af4 h) (fun r6 h => ?_)
   conv => whnf
   refine Ask.o h fun p7 h => ?_
   conv => whnf
   cases h; exact ⟨rfl, rfl⟩
  conv => whnf
  refine Ask.o h fun p8 h => ?_
  conv => whnf
  cases h; exact ⟨rfl, rfl⟩
 conv => whnf
 cases h; exact ⟨rfl, rfl⟩
noncomputable def Hw (a0 : SAlgebra) : Option (List (List Int)) :=
 (Am (G2 a0) ((0 : Int), A5 (List Int))).bind fun q9_3 =>
 some q9_3
theorem Z5 {a0 : SAlgebra} {v : (List (List Int))} (h : Hw a0 = some v) : Ret Try.prog Nm [(Ag false) a0] ((slr true 1 (slr false 1 Af)) v) := by
 refine A1 Ajn (Nat.le_of_ble_eq_true rfl) ?_
 unfold Hw at h
 conv => whnf
 refine BslQ.o (slr true 1 Af) (A5 (List Int)) (by exact fun _ => ⟨rfl, rfl⟩) (by first | rfl | simp only [Aa, V.fz, fzL, V.up, upL, Ab, Ac, Ad, slr, List.cons_append, List.nil_append] | simp [Aa, V.fz, fzL, V.up, upL, Ab, Ac, Ad, slr]) ?_
 conv => whnf
 refine LoopQ.o [4, 3, 1] (M8 a0) (Tk a0) h (fun s o h => Acu s o h) (by first | rfl | simp [restrict, look, Aa, V.fz, fzL, V.up, upL, Ab, Ac, Ad, slr]) (fun _ => rfl) ?_
 rintro q9_3 h
 try dsimp only at h
 conv => whnf
 cases h; exact (by first | rfl | simp only [Ah, Aa, V.fz, fzL, V.up, upL, Ab, Ac, Ad, slr] | simp [Ah, Aa, V.fz, fzL, V.up, upL, Ab, Ac, Ad, slr])
noncomputable def Dv (code0 : (List Int)) : Option SAlgebra :=
 (Du ({ code := code0, at_ := (0 : Int), seed := (0 : Int) })).bind fun (r1, _u2) =>
 some r1
theorem Vl {code0 : (List Int)} {v : SAlgebra} (h : Dv code0 = some v) : Ret Try.prog Hf [(slr false 1 (V.int IntKind.u8)) code0] ((Ag false) v) := by
 refine V4 Ut (Nat.le_of_ble_eq_true rfl) ?_
 unfold Dv at h
 conv => whnf
 refine CallQ.io (Ag true) (rP true (Ao false)) (by first | rfl | simp only [Aa, V.fz, fzL, V.up, upL, Ab, Ac, Ad, slr, List.cons_append, List.nil_append] | simp [Aa, V.fz, fzL, V.up, upL, Ab, Ac, Ad, slr]) rfl (fun _ => rfl) (fun _ => ⟨rfl, rfl⟩) rfl h (fun r h => Uj h) (fun r1 u2 h => ?_)
 conv => whnf
 refine SetKids.lit rfl ?_
 conv => whnf
 cases h; exact (by first | rfl | simp only [Ah, V.fz, fzL, V.up, Ab, slr] | simp [Ah, Aa, V.fz, fzL, V.up, upL, Ab, Ac, Ad, slr])
noncomputable def Cj (code0 : (List Int)) : Option SAlgebra :=
 (Dv (code0)).bind fun r1 =>
 some r1
theorem Qh {code0 : (List Int)} {v : SAlgebra} (h : Cj code0 = some v) : Ret Try.prog Fs [(slr false 1 (V.int IntKind.u8)) code0] ((Ag false) v) := by
 refine V4 P4 (Nat.le_of_ble_eq_true rfl) ?_
 unfold Cj at h
 conv => whnf
 refine CallQ.o (Ag false) (by first | rfl | simp only [Aa, V.fz, fzL, V.up, upL, Ab, Ac, Ad, slr, List.cons_append, List.nil_append] | simp [Aa, V.fz, fzL, V.up, upL, Ab, Ac, Ad, slr]) h (fun r h => Vl h) (fun r1 h => ?_)
 conv => whnf
 refine SetKids.lit rfl ?_
 conv => whnf
 cases h; exact (by first | rfl | simp only [Ah, Aa, V.fz, fzL, V.up, upL, Ab, Ac, Ad, slr] | simp [Ah, Aa, V.fz, fzL, V.up, upL, Ab, Ac, Ad, slr])
noncomputable def Eu (a0 : SAlgebra) : Option ((List (List Int)) × Bool) :=
 (Cc (a0)).bind fun r1 =>
 if (r1) = true then
 (F5 (a0)).bind fun r3 =>
 ask ((0 : Int) ≤ (0 : Int) ∧ (0 : Int) < (↑r3.length : Int)) <|
 if (↑(nth r3 (Int.toNat (0 : Int))).length : Int) = (0 : Int) then
 ask (0 ≤ (1 : Int) ∧ (1 : Int) ≤ (↑r3.length : Int) ∧ (↑r3.length : Int) ≤ ((r3.length : Nat) : Int)) <|
 (C9 (List.take ((↑r3.length : Int).toNat - Int.toNat (1 : Int)) (List.drop (Int.toNat (1 : Int)) r3)) (fun w_0 w_1 => Cx w_0 w_1)).bind fun r6 =>
 some (r6, true)
 else
 (C9 (r3) (fun w_0 w_1 => Cx w_0 w_1)).bind fun r7 =>
 some (r7, true)
 else
 some (A5 (List Int), false)
theorem Yi {a0 : SAlgebra} {v : ((List (List Int)) × Bool)} (h : Eu a0 = some v) : Ret Try.prog Jf [(Ag false) a0] ((fun r => V.tup [(slr true 1 (slr true 1 Af)) r.1, V.bool r.2]) v) := by
 refine A1 Yh (Nat.le_of_ble_eq_true rfl) ?_
 unfold Eu at h
 conv => whnf
 refine Cells.lit rfl rfl ?_
 conv => whnf
 refine CallQ.o V.bool (by first | rfl | simp only [Aa, V.fz, fzL, V.up, upL, Ab, Ac, Ad, slr, List.cons_append, List.nil_append] | simp [Aa, V.fz, fzL, V.up, upL, Ab, Ac, Ad, slr]) h (fun r h => F3 h) (fun r1 h => ?_)
 conv => whnf
 refine Br.flip ?_
 conv => whnf
 refine Br.ob h (fun p2 h => ?_) (fun p2 h => ?_)
 ·conv => whnf
  refine Cells.lit rfl rfl ?_
  conv => whnf
  refine CallQ.o (slr true 1 (slr true 1 Af)) (by first | rfl | simp only [Aa, V.fz, fzL, V.up, upL, Ab, Ac, Ad, slr, List.cons_append, List.nil_append] | simp [Aa, V.fz, fzL, V.up, upL, Ab, Ac, Ad, slr]) h (fun r h => Va h) (fun r3 h => ?_)
  conv => whnf
  refine FrzQ.d (V.sl false (1 : Nat) (List.map (slr false (1 : Nat) Af) r3)) (by first | (simp only [slr]; done) | (simp [Fe, V.fz, Ab, slr]; done)) ?_
  conv => whnf
  refine Len.map ?_
  conv => whnf
  refine Ask.o h fun p4 h => ?_
  conv => whnf
  refine Elem.o (by first | omega | (simp [As] at *; omega)) ?_
  conv => whnf
  refine Len.map ?_
  conv => whnf
  refine Br.oe h (fun p5 h => ?_) (fun p5 h => ?_)
  ·conv => whnf
   refine Len.map ?_
   conv => whnf
   refine SlcQ.o (slr false 1 Af) h fun h => ?_
   conv => whnf
   refine CallQ.o (slr true 1 (slr true 1 Af)) (by first | rfl | simp only [Aa, V.fz, fzL, V.up, upL, Ab, Ac, Ad, slr, List.cons_append, List.nil_append] | simp [Aa, V.fz, fzL, V.up, upL, Ab, Ac, Ad, slr]) h (fun r h => Mz (f_beyond0 := Dx) (c_beyond0 := []) (fun w_0 w_1 v h => Ret.cast (by first | rfl | simp only [Aa, V.fz, fzL, V.up, upL, Ab, Ac, Ad, slr, List.cons_append, List.nil_append] | simp [Aa, V.fz, fzL, V.up, upL, Ab, Ac, Ad, slr]) (Mf h)) h) (fun r6 h => ?_)
   conv => whnf
   cases h; exact (by first | rfl | simp only [Ah, Aa, V.fz, fzL, V.up, upL, Ab, Ac, Ad, slr] | simp [Ah, Aa, V.fz, fzL, V.up, upL, Ab, Ac, Ad, slr])
  conv => whnf
  refine CallQ.o (slr true 1 (slr true 1 Af)) (by first | rfl | simp only [Aa, V.fz, fzL, V.up, upL, Ab, Ac, Ad, slr, List.cons_append, List.nil_append] | simp [Aa, V.fz, fzL, V.up, upL, Ab, Ac, Ad, slr]) h (fun r h => Mz (f_beyond0 := Dx) (c_beyond0 := []) (fun w_0 w_1 v h => Ret.cast (by first | rfl | simp only [Aa, V.fz, fzL, V.up, upL, Ab, Ac, Ad, slr, List.cons_append, List.nil_append] | simp [Aa, V.fz, fzL, V.up, upL, Ab, Ac, Ad, slr]) (Mf h)) h) (fun r7 h => ?_)
  conv => whnf
  cases h; exact (by first | rfl | simp only [Ah, Aa, V.fz, fzL, V.up, upL, Ab, Ac, Ad, slr] | simp [Ah, Aa, V.fz, fzL, V.up, upL, Ab, Ac, Ad, slr])
 conv => whnf
 refine BslQ.o (slr true 1 Af) (A5 (List Int)) (by exact fun _ => ⟨rfl, rfl⟩) (by first | rfl | simp only [Aa, V.fz, fzL, V.up, upL, Ab, Ac, Ad, slr, List.cons_append, List.nil_append] | simp [Aa, V.fz, fzL, V.up, upL, Ab, Ac, Ad, slr]) ?_
 conv => whnf
 cases h; exact (by first | rfl | simp only [Ah, Aa, V.fz, fzL, V.up, upL, Ab, Ac, Ad, slr] | simp [Ah, Aa, V.fz, fzL, V.up, upL, Ab, Ac, Ad, slr])
end Go.Proofs.Ytidaaijecmkndaa.Ax
