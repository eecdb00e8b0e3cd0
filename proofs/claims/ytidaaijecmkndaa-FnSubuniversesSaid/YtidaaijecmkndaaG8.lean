/-
 What the functions compute, as functions on plain data, and that the program does compute it; written by program.
-/
import Derived.Test.YtidaaijecmkndaaCode
import Derived.Test.YtidaaijecmkndaaG1
import Derived.Test.YtidaaijecmkndaaG2
import Derived.Test.YtidaaijecmkndaaG3
import Derived.Test.YtidaaijecmkndaaG4
import Derived.Test.YtidaaijecmkndaaG5
import Derived.Test.YtidaaijecmkndaaG6
namespace Go.Proofs.Ytidaaijecmkndaa.Ax
open Go
set_option maxRecDepth 100000
set_option maxHeartbeats 4000000
noncomputable def Dj (a0 : SAlgebra) (some0 : (List Int)) : Option Bool :=
 (Cr (a0)).bind fun r1 =>
 if (r1) = true then
 if (↑some0.length : Int) ≤ (20 : Int) then
 (Fm (some0) (a0.Size)).bind fun r4 =>
 some r4
 else
 some false
 else
 some false
theorem Nn {a0 : SAlgebra} {some0 : (List Int)} {v : Bool} (h : Dj a0 some0 = some v) : Ret Try.prog Gb [(Ah false) a0, (slr false 1 Af) some0] (V.bool v) := by
 refine A7 Wa (Nat.le_of_ble_eq_true rfl) ?_
 unfold Dj at h
 conv => whnf
 refine Cells.lit rfl rfl ?_
 conv => whnf
 refine CallQ.o V.bool (by first | rfl | simp only [Aa, V.fz, fzL, V.up, upL, Ab, Ac, Ad, slr, List.cons_append, List.nil_append] | simp [Aa, V.fz, fzL, V.up, upL, Ab, Ac, Ad, slr]) h (fun r h => H6 h) (fun r1 h => ?_)
 conv => whnf
 refine Br.ob h (fun p2 h => ?_) (fun p2 h => ?_)
 ·conv => whnf
  refine Br.yes ?_
  conv => whnf
  refine Len.map ?_
  conv => whnf
  refine Br.yes ?_
  conv => whnf
  refine Br.yes ?_
  conv => whnf
  refine Br.od h (fun p3 h => ?_) (fun p3 h => ?_)
  ·conv => whnf
   refine Br.yes ?_
   conv => whnf
   refine Br.yes ?_
   conv => whnf
   refine Cells.lit rfl rfl ?_
   conv => whnf
   refine Br.yes ?_
   conv => whnf
   refine CallQ.o V.bool (by first | rfl | simp only [Aa, V.fz, fzL, V.up, upL, Ab, Ac, Ad, slr, List.cons_append, List.nil_append] | simp [Aa, V.fz, fzL, V.up, upL, Ab, Ac, Ad, slr]) h (fun r h => Pq h) (fun r4 h => ?_)
   conv => whnf
   refine Br.yes ?_
   conv => whnf
   cases h; exact (by first | rfl | simp only [Ag, Aa, V.fz, fzL, V.up, upL, Ab, Ac, Ad, slr] | simp [Ag, Aa, V.fz, fzL, V.up, upL, Ab, Ac, Ad, slr])
  conv => whnf
  refine Br.no ?_
  conv => whnf
  refine Br.no ?_
  conv => whnf
  refine Br.no ?_
  conv => whnf
  refine Br.no ?_
  conv => whnf
  cases h; exact (by first | rfl | simp only [Ag, Aa, V.fz, fzL, V.up, upL, Ab, Ac, Ad, slr] | simp [Ag, Aa, V.fz, fzL, V.up, upL, Ab, Ac, Ad, slr])
 conv => whnf
 refine Br.no ?_
 conv => whnf
 refine Br.no ?_
 conv => whnf
 refine Br.no ?_
 conv => whnf
 refine Br.no ?_
 conv => whnf
 refine Br.no ?_
 conv => whnf
 refine Br.no ?_
 conv => whnf
 refine Br.no ?_
 conv => whnf
 refine Br.no ?_
 conv => whnf
 cases h; exact (by first | rfl | simp only [Ag, Aa, V.fz, fzL, V.up, upL, Ab, Ac, Ad, slr] | simp [Ag, Aa, V.fz, fzL, V.up, upL, Ab, Ac, Ad, slr])
noncomputable def Gw (a0 : SAlgebra) (some0 : (List Int)) : Option Bool :=
 (Cw (a0)).bind fun r1 =>
 if (r1) = true then
 if (↑some0.length : Int) ≤ (20 : Int) then
 (Fe (a0.Size) (some0)).bind fun r4 =>
 some r4
 else
 some false
 else
 some false
theorem V8 {a0 : SAlgebra} {some0 : (List Int)} {v : Bool} (h : Gw a0 some0 = some v) : Ret Try.prog Lc [(Ah false) a0, (slr false 1 Af) some0] (V.bool v) := by
 refine A7 Afp (Nat.le_of_ble_eq_true rfl) ?_
 unfold Gw at h
 conv => whnf
 refine Cells.lit rfl rfl ?_
 conv => whnf
 refine CallQ.o V.bool (by first | rfl | simp only [Aa, V.fz, fzL, V.up, upL, Ab, Ac, Ad, slr, List.cons_append, List.nil_append] | simp [Aa, V.fz, fzL, V.up, upL, Ab, Ac, Ad, slr]) h (fun r h => Iw h) (fun r1 h => ?_)
 conv => whnf
 refine Br.ob h (fun p2 h => ?_) (fun p2 h => ?_)
 ·conv => whnf
  refine Br.yes ?_
  conv => whnf
  refine Len.map ?_
  conv => whnf
  refine Br.yes ?_
  conv => whnf
  refine Br.yes ?_
  conv => whnf
  refine Br.od h (fun p3 h => ?_) (fun p3 h => ?_)
  ·conv => whnf
   refine Br.yes ?_
   conv => whnf
   refine Cells.lit rfl rfl ?_
   conv => whnf
   refine Br.yes ?_
   conv => whnf
   refine Br.yes ?_
   conv => whnf
   refine CallQ.o V.bool (by first | rfl | simp only [Aa, V.fz, fzL, V.up, upL, Ab, Ac, Ad, slr, List.cons_append, List.nil_append] | simp [Aa, V.fz, fzL, V.up, upL, Ab, Ac, Ad, slr]) h (fun r h => Xx h) (fun r4 h => ?_)
   conv => whnf
   refine Br.yes ?_
   conv => whnf
   cases h; exact (by first | rfl | simp only [Ag, Aa, V.fz, fzL, V.up, upL, Ab, Ac, Ad, slr] | simp [Ag, Aa, V.fz, fzL, V.up, upL, Ab, Ac, Ad, slr])
  conv => whnf
  refine Br.no ?_
  conv => whnf
  refine Br.no ?_
  conv => whnf
  refine Br.no ?_
  conv => whnf
  refine Br.no ?_
  conv => whnf
  cases h; exact (by first | rfl | simp only [Ag, Aa, V.fz, fzL, V.up, upL, Ab, Ac, Ad, slr] | simp [Ag, Aa, V.fz, fzL, V.up, upL, Ab, Ac, Ad, slr])
 conv => whnf
 refine Br.no ?_
 conv => whnf
 refine Br.no ?_
 conv => whnf
 refine Br.no ?_
 conv => whnf
 refine Br.no ?_
 conv => whnf
 refine Br.no ?_
 conv => whnf
 refine Br.no ?_
 conv => whnf
 refine Br.no ?_
 conv => whnf
 refine Br.no ?_
 conv => whnf
 cases h; exact (by first | rfl | simp only [Ag, Aa, V.fz, fzL, V.up, upL, Ab, Ac, Ad, slr] | simp [Ag, Aa, V.fz, fzL, V.up, upL, Ab, Ac, Ad, slr])
noncomputable def E8 (a0 : SAlgebra) (sub0 : (List Int)) : Option Bool :=
 (Fm (sub0) (a0.Size)).bind fun r1 =>
 if (r1) = true then
 (J3 (sub0)).bind fun r3 =>
 if (r3) = true then
 (C5 (a0) (sub0)).bind fun r5 =>
 some ((↑r5.length : Int) == (↑sub0.length : Int))
 else
 some false
 else
 some false
theorem Mu {a0 : SAlgebra} {sub0 : (List Int)} {v : Bool} (h : E8 a0 sub0 = some v) : Ret Try.prog Hy [(Ah false) a0, (slr false 1 Af) sub0] (V.bool v) := by
 refine A7 Ah6 (Nat.le_of_ble_eq_true rfl) ?_
 unfold E8 at h
 conv => whnf
 refine Cells.lit rfl rfl ?_
 conv => whnf
 refine CallQ.o V.bool (by first | rfl | simp only [Aa, V.fz, fzL, V.up, upL, Ab, Ac, Ad, slr, List.cons_append, List.nil_append] | simp [Aa, V.fz, fzL, V.up, upL, Ab, Ac, Ad, slr]) h (fun r h => Pq h) (fun r1 h => ?_)
 conv => whnf
 refine Br.ob h (fun p2 h => ?_) (fun p2 h => ?_)
 ·conv => whnf
  refine Br.yes ?_
  conv => whnf
  refine CallQ.o V.bool (by first | rfl | simp only [Aa, V.fz, fzL, V.up, upL, Ab, Ac, Ad, slr, List.cons_append, List.nil_append] | simp [Aa, V.fz, fzL, V.up, upL, Ab, Ac, Ad, slr]) h (fun r h => Ai7 h) (fun r3 h => ?_)
  conv => whnf
  refine Br.yes ?_
  conv => whnf
  refine Br.ob h (fun p4 h => ?_) (fun p4 h => ?_)
  ·conv => whnf
   refine Cells.lit rfl rfl ?_
   conv => whnf
   refine Br.yes ?_
   conv => whnf
   refine Br.yes ?_
   conv => whnf
   refine CallQ.o (slr true 1 Af) (by first | rfl | simp only [Aa, V.fz, fzL, V.up, upL, Ab, Ac, Ad, slr, List.cons_append, List.nil_append] | simp [Aa, V.fz, fzL, V.up, upL, Ab, Ac, Ad, slr]) h (fun r h => Mk h) (fun r5 h => ?_)
   conv => whnf
   refine Br.yes ?_
   conv => whnf
   refine Len.map ?_
   conv => whnf
   refine Br.yes ?_
   conv => whnf
   refine Br.yes ?_
   conv => whnf
   refine Len.map ?_
   conv => whnf
   refine Br.yes ?_
   conv => whnf
   refine Br.yes ?_
   conv => whnf
   cases h; exact (by first | rfl | simp only [Ag, Aa, V.fz, fzL, V.up, upL, Ab, Ac, Ad, slr] | simp [Ag, Aa, V.fz, fzL, V.up, upL, Ab, Ac, Ad, slr])
  conv => whnf
  refine Br.no ?_
  conv => whnf
  refine Br.no ?_
  conv => whnf
  refine Br.no ?_
  conv => whnf
  refine Br.no ?_
  conv => whnf
  refine Br.no ?_
  conv => whnf
  refine Br.no ?_
  conv => whnf
  refine Br.no ?_
  conv => whnf
  cases h; exact (by first | rfl | simp only [Ag, Aa, V.fz, fzL, V.up, upL, Ab, Ac, Ad, slr] | simp [Ag, Aa, V.fz, fzL, V.up, upL, Ab, Ac, Ad, slr])
 conv => whnf
 refine Br.no ?_
 conv => whnf
 refine Br.no ?_
 conv => whnf
 refine Br.no ?_
 conv => whnf
 refine Br.no ?_
 conv => whnf
 refine Br.no ?_
 conv => whnf
 refine Br.no ?_
 conv => whnf
 refine Br.no ?_
 conv => whnf
 refine Br.no ?_
 conv => whnf
 refine Br.no ?_
 conv => whnf
 refine Br.no ?_
 conv => whnf
 cases h; exact (by first | rfl | simp only [Ag, Aa, V.fz, fzL, V.up, upL, Ab, Ac, Ad, slr] | simp [Ag, Aa, V.fz, fzL, V.up, upL, Ab, Ac, Ad, slr])
noncomputable def Dt (a0 : SAlgebra) (sub0 : (List Int)) : Option Bool :=
 ask (InI (a0.Size - (1 : Int))) <|
 (Gq (sub0) ((0 : Int)) (a0.Size - (1 : Int))).bind fun r2 =>
 if (r2) = true then
 (Dq (a0) (sub0)).bind fun r4 =>
 (Iv (r4) (sub0)).bind fun r5 =>
 some r5
 else
 some false
theorem Lv {a0 : SAlgebra} {sub0 : (List Int)} {v : Bool} (h : Dt a0 sub0 = some v) : Ret Try.prog Hk [(Ah false) a0, (slr false 1 Af) sub0] (V.bool v) := by
 refine A7 Alx (Nat.le_of_ble_eq_true rfl) ?_
 unfold Dt at h
 conv => whnf
 refine Cells.lit rfl rfl ?_
 conv => whnf
 refine Ask.o h fun p1 h => ?_
 conv => whnf
 refine CallQ.o V.bool (by first | rfl | simp only [Aa, V.fz, fzL, V.up, upL, Ab, Ac, Ad, slr, List.cons_append, List.nil_append] | simp [Aa, V.fz, fzL, V.up, upL, Ab, Ac, Ad, slr]) h (fun r h => Aa6 h) (fun r2 h => ?_)
 conv => whnf
 refine Br.ob h (fun p3 h => ?_) (fun p3 h => ?_)
 ·conv => whnf
  refine Cells.lit rfl rfl ?_
  conv => whnf
  refine Br.yes ?_
  conv => whnf
  refine Br.yes ?_
  conv => whnf
  refine CallQ.o (slr true 1 Af) (by first | rfl | simp only [Aa, V.fz, fzL, V.up, upL, Ab, Ac, Ad, slr, List.cons_append, List.nil_append] | simp [Aa, V.fz, fzL, V.up, upL, Ab, Ac, Ad, slr]) h (fun r h => N0 h) (fun r4 h => ?_)
  conv => whnf
  refine Br.yes ?_
  conv => whnf
  refine Br.yes ?_
  conv => whnf
  refine CallQ.rd V.bool (by first | rfl | simp only [V.fz, V.up, Ab, slr] | simp [Aa, V.fz, fzL, V.up, upL, Ab, Ac, Ad, slr]) (fun _ => rfl) h (fun r h => Af7 h) (fun r5 h => ?_)
  conv => whnf
  refine Br.yes ?_
  conv => whnf
  cases h; exact (by first | rfl | simp only [Ag, Aa, V.fz, fzL, V.up, upL, Ab, Ac, Ad, slr] | simp [Ag, Aa, V.fz, fzL, V.up, upL, Ab, Ac, Ad, slr])
 conv => whnf
 refine Br.no ?_
 conv => whnf
 refine Br.no ?_
 conv => whnf
 refine Br.no ?_
 conv => whnf
 refine Br.no ?_
 conv => whnf
 refine Br.no ?_
 conv => whnf
 cases h; exact (by first | rfl | simp only [Ag, Aa, V.fz, fzL, V.up, upL, Ab, Ac, Ad, slr] | simp [Ag, Aa, V.fz, fzL, V.up, upL, Ab, Ac, Ad, slr])
noncomputable def Du (c0 : Sl1Cur) (a0 : SAlgebra) : Option (Int × Sl1Cur) :=
 if a0.Size < (1 : Int) then
 (A2 (c0) ([(-1 : Int), a0.Size])).bind fun (r2, u3) =>
 some (r2, u3)
 else
 (Ei (c0) ((24 : Int))).bind fun (r4, u5) =>
 if (r4) = true then
 (A2 (u5) ([(-1 : Int), a0.Size])).bind fun (r7, u8) =>
 some (r7, u8)
 else
 (A3 (u5) (a0.Size)).bind fun (r9, u10) =>
 some (r9, u10)
theorem To {c0 : Sl1Cur} {a0 : SAlgebra} {v : (Int × Sl1Cur)} (h : Du c0 a0 = some v) : Vm Try.prog Hb [(rP true (Aj false)) c0, (Ah false) a0] (Af v.1) 0 ((rP true (Aj false)) v.2) := by
 refine N8 Uz (Nat.le_of_ble_eq_true rfl) ?_
 unfold Du at h
 conv => whnf
 refine Cells.lit rfl rfl ?_
 conv => whnf
 refine Br.od h (fun p1 h => ?_) (fun p1 h => ?_)
 ·conv => whnf
  refine Br.yes ?_
  conv => whnf
  refine Br.yes ?_
  conv => whnf
  refine Br.yes ?_
  conv => whnf
  refine Cells.lit rfl rfl ?_
  conv => whnf
  refine BslQ.o Af ([(-1 : Int), a0.Size]) (by exact fun _ => ⟨rfl, rfl⟩) (by first | rfl | simp only [Aa, V.fz, fzL, V.up, upL, Ab, Ac, Ad, slr, List.cons_append, List.nil_append] | simp [Aa, V.fz, fzL, V.up, upL, Ab, Ac, Ad, slr]) ?_
  conv => whnf
  refine CallQ.io Af (rP true (Aj false)) (by first | rfl | simp only [Aa, V.fz, fzL, V.up, upL, Ab, Ac, Ad, slr, List.cons_append, List.nil_append] | simp [Aa, V.fz, fzL, V.up, upL, Ab, Ac, Ad, slr]) rfl (fun _ => rfl) (fun _ => ⟨rfl, rfl⟩) rfl h (fun r h => Bf h) (fun r2 u3 h => ?_)
  conv => whnf
  cases h; exact ⟨(by first | rfl | simp only [Ag, Aa, V.fz, fzL, V.up, upL, Ab, Ac, Ad, slr] | simp [Ag, Aa, V.fz, fzL, V.up, upL, Ab, Ac, Ad, slr]), (by first | rfl | simp only [Ag, Aa, V.fz, fzL, V.up, upL, Ab, Ac, Ad, slr] | simp [Ag, Aa, V.fz, fzL, V.up, upL, Ab, Ac, Ad, slr])⟩
 conv => whnf
 refine Br.no ?_
 conv => whnf
 refine CallQ.io V.bool (rP true (Aj false)) (by first | rfl | simp only [Aa, V.fz, fzL, V.up, upL, Ab, Ac, Ad, slr, List.cons_append, List.nil_append] | simp [Aa, V.fz, fzL, V.up, upL, Ab, Ac, Ad, slr]) rfl (fun _ => rfl) (fun _ => ⟨rfl, rfl⟩) rfl h (fun r h => Qt h) (fun r4 u5 h => ?_)
 conv => whnf
 refine Br.no ?_
 conv => whnf
 refine Br.ob h (fun p6 h => ?_) (fun p6 h => ?_)
 ·conv => whnf
  refine Cells.lit rfl rfl ?_
  conv => whnf
  refine BslQ.o Af ([(-1 : Int), a0.Size]) (by exact fun _ => ⟨rfl, rfl⟩) (by first | rfl | simp only [Aa, V.fz, fzL, V.up, upL, Ab, Ac, Ad, slr, List.cons_append, List.nil_append] | simp [Aa, V.fz, fzL, V.up, upL, Ab, Ac, Ad, slr]) ?_
  conv => whnf
  refine CallQ.io Af (rP true (Aj false)) (by first | rfl | simp only [Aa, V.fz, fzL, V.up, upL, Ab, Ac, Ad, slr, List.cons_append, List.nil_append] | simp [Aa, V.fz, fzL, V.up, upL, Ab, Ac, Ad, slr]) rfl (fun _ => rfl) (fun _ => ⟨rfl, rfl⟩) rfl h (fun r h => Bf h) (fun r7 u8 h => ?_)
  conv => whnf
  cases h; exact ⟨(by first | rfl | simp only [Ag, Aa, V.fz, fzL, V.up, upL, Ab, Ac, Ad, slr] | simp [Ag, Aa, V.fz, fzL, V.up, upL, Ab, Ac, Ad, slr]), (by first | rfl | simp only [Ag, Aa, V.fz, fzL, V.up, upL, Ab, Ac, Ad, slr] | simp [Ag, Aa, V.fz, fzL, V.up, upL, Ab, Ac, Ad, slr])⟩
 conv => whnf
 refine Cells.lit rfl rfl ?_
 conv => whnf
 refine CallQ.io Af (rP true (Aj false)) (by first | rfl | simp only [Aa, V.fz, fzL, V.up, upL, Ab, Ac, Ad, slr, List.cons_append, List.nil_append] | simp [Aa, V.fz, fzL, V.up, upL, Ab, Ac, Ad, slr]) rfl (fun _ => rfl) (fun _ => ⟨rfl, rfl⟩) rfl h (fun r h => Bd h) (fun r9 u10 h => ?_)
 conv => whnf
 cases h; exact ⟨(by first | rfl | simp only [Ag, Aa, V.fz, fzL, V.up, upL, Ab, Ac, Ad, slr] | simp [Ag, Aa, V.fz, fzL, V.up, upL, Ab, Ac, Ad, slr]), (by first | rfl | simp only [Ag, Aa, V.fz, fzL, V.up, upL, Ab, Ac, Ad, slr] | simp [Ag, Aa, V.fz, fzL, V.up, upL, Ab, Ac, Ad, slr])⟩
noncomputable def Bt (a0 : SAlgebra) (some0 : (List Int)) : Option ((List Int) × Bool) :=
 (Dj (a0) (some0)).bind fun r1 =>
 if (r1) = true then
 (C5 (a0) (some0)).bind fun r3 =>
 some (r3, true)
 else
 some (A9 Int, false)
theorem N4 {a0 : SAlgebra} {some0 : (List Int)} {v : ((List Int) × Bool)} (h : Bt a0 some0 = some v) : Ret Try.prog Gg [(Ah false) a0, (slr false 1 Af) some0] ((fun r => V.tup [(slr true 1 Af) r.1, V.bool r.2]) v) := by
 refine A7 W4 (Nat.le_of_ble_eq_true rfl) ?_
 unfold Bt at h
 conv => whnf
 refine Cells.lit rfl rfl ?_
 conv => whnf
 refine CallQ.o V.bool (by first | rfl | simp only [Aa, V.fz, fzL, V.up, upL, Ab, Ac, Ad, slr, List.cons_append, List.nil_append] | simp [Aa, V.fz, fzL, V.up, upL, Ab, Ac, Ad, slr]) h (fun r h => Nn h) (fun r1 h => ?_)
 conv => whnf
 refine Br.flip ?_
 conv => whnf
 refine Br.ob h (fun p2 h => ?_) (fun p2 h => ?_)
 ·conv => whnf
  refine Cells.lit rfl rfl ?_
  conv => whnf
  refine CallQ.o (slr true 1 Af) (by first | rfl | simp only [Aa, V.fz, fzL, V.up, upL, Ab, Ac, Ad, slr, List.cons_append, List.nil_append] | simp [Aa, V.fz, fzL, V.up, upL, Ab, Ac, Ad, slr]) h (fun r h => Mk h) (fun r3 h => ?_)
  conv => whnf
  cases h; exact (by first | rfl | simp only [Ag, Aa, V.fz, fzL, V.up, upL, Ab, Ac, Ad, slr] | simp [Ag, Aa, V.fz, fzL, V.up, upL, Ab, Ac, Ad, slr])
 conv => whnf
 refine BslQ.o Af (A9 Int) (by exact fun _ => ⟨rfl, rfl⟩) (by first | rfl | simp only [Aa, V.fz, fzL, V.up, upL, Ab, Ac, Ad, slr, List.cons_append, List.nil_append] | simp [Aa, V.fz, fzL, V.up, upL, Ab, Ac, Ad, slr]) ?_
 conv => whnf
 cases h; exact (by first | rfl | simp only [Ag, Aa, V.fz, fzL, V.up, upL, Ab, Ac, Ad, slr] | simp [Ag, Aa, V.fz, fzL, V.up, upL, Ab, Ac, Ad, slr])
noncomputable def Cc (a0 : SAlgebra) (some0 : (List Int)) : Option ((List Int) × Bool) :=
 (Gw (a0) (some0)).bind fun r1 =>
 if (r1) = true then
 (Dq (a0) (some0)).bind fun r3 =>
 some (r3, true)
 else
 some (A9 Int, false)
theorem W8 {a0 : SAlgebra} {some0 : (List Int)} {v : ((List Int) × Bool)} (h : Cc a0 some0 = some v) : Ret Try.prog I6 [(Ah false) a0, (slr false 1 Af) some0] ((fun r => V.tup [(slr true 1 Af) r.1, V.bool r.2]) v) := by
 refine A7 Wx (Nat.le_of_ble_eq_true rfl) ?_
 unfold Cc at h
 conv => whnf
 refine Cells.lit rfl rfl ?_
 conv => whnf
 refine CallQ.o V.bool (by first | rfl | simp only [Aa, V.fz, fzL, V.up, upL, Ab, Ac, Ad, slr, List.cons_append, List.nil_append] | simp [Aa, V.fz, fzL, V.up, upL, Ab, Ac, Ad, slr]) h (fun r h => V8 h) (fun r1 h => ?_)
 conv => whnf
 refine Br.flip ?_
 conv => whnf
 refine Br.ob h (fun p2 h => ?_) (fun p2 h => ?_)
 ·conv => whnf
  refine Cells.lit rfl rfl ?_
  conv => whnf
  refine CallQ.o (slr true 1 Af) (by first | rfl | simp only [Aa, V.fz, fzL, V.up, upL, Ab, Ac, Ad, slr, List.cons_append, List.nil_append] | simp [Aa, V.fz, fzL, V.up, upL, Ab, Ac, Ad, slr]) h (fun r h => N0 h) (fun r3 h => ?_)
  conv => whnf
  cases h; exact (by first | rfl | simp only [Ag, Aa, V.fz, fzL, V.up, upL, Ab, Ac, Ad, slr] | simp [Ag, Aa, V.fz, fzL, V.up, upL, Ab, Ac, Ad, slr])
 conv => whnf
 refine BslQ.o Af (A9 Int) (by exact fun _ => ⟨rfl, rfl⟩) (by first | rfl | simp only [Aa, V.fz, fzL, V.up, upL, Ab, Ac, Ad, slr, List.cons_append, List.nil_append] | simp [Aa, V.fz, fzL, V.up, upL, Ab, Ac, Ad, slr]) ?_
 conv => whnf
 cases h; exact (by first | rfl | simp only [Ag, Aa, V.fz, fzL, V.up, upL, Ab, Ac, Ad, slr] | simp [Ag, Aa, V.fz, fzL, V.up, upL, Ab, Ac, Ad, slr])
noncomputable def B0 (a0 : SAlgebra) (_x7 : List (List Int)) (x6 : List Bool) (x34 : Int) : (Int × (List Bool)) → Option ((Int × (List Bool)) ⊕ (List Bool)) := fun (x41, x8') =>
 if x41 < (↑(nth a0.Ops x34.toNat).Table.length : Int) then
 ask ((0 : Int) ≤ x41 ∧ x41 < (↑(nth a0.Ops x34.toNat).Table.length : Int)) <|
 ask ((0 : Int) ≤ nth (nth a0.Ops x34.toNat).Table x41.toNat ∧ nth (nth a0.Ops x34.toNat).Table x41.toNat < (↑x6.length : Int)) <|
 if (nth x6 (nth (nth a0.Ops x34.toNat).Table x41.toNat).toNat) = true then
 ask (InI (x41 + (1 : Int))) <|
 some (.inl (x41 + (1 : Int), x8'))
 else
 (H7 (x41) ((nth a0.Ops x34.toNat).Arity) (a0.Size) (x6)).bind fun r13 =>
 if (r13) = true then
 ask ((0 : Int) ≤ nth (nth a0.Ops x34.toNat).Table x41.toNat ∧ nth (nth a0.Ops x34.toNat).Table x41.toNat < (↑x8'.length : Int)) <|
 ask (InI (x41 + (1 : Int))) <|
 some (.inl (x41 + (1 : Int), x8'.set (nth (nth a0.Ops x34.toNat).Table x41.toNat).toNat true))
 else
 ask (InI (x41 + (1 : Int))) <|
 some (.inl (x41 + (1 : Int), x8'))
 else
 some (.inr x8')
def Em (a0 : SAlgebra) (x7 : List (List Int)) (x6 : List Bool) (x34 : Int) : (Int × (List Bool)) → St := fun s => [(41, A.val (Af s.1)), (40, A.val (Af ((↑(nth a0.Ops x34.toNat).Table.length : Int)))), (39, A.val ((slr false 1 Af) ((nth a0.Ops x34.toNat).Table))), (10, A.val ((rP true (A4 false)) (nth a0.Ops x34.toNat))), (34, A.val (Af (x34))), (33, A.val (Af ((↑a0.Ops.length : Int)))), (32, A.val ((slr false 2 (A4 false)) (a0.Ops))), (8, A.val ((slr true 1 V.bool) s.2)), (7, A.val ((slr true 1 (slr false 1 Af)) (x7))), (6, A.val ((slr true 1 V.bool) (x6))), (2, A.val ((rP true (Ah false)) (a0)))]
def Hd (a0 : SAlgebra) (x7 : List (List Int)) (x6 : List Bool) (x34 : Int) : (List Bool) → Tgt
 | s => ((Ex.exit 4), [34, 33, 32, 8, 7, 6, 2], [(34, A.val (Af (x34))), (33, A.val (Af ((↑a0.Ops.length : Int)))), (32, A.val ((slr false 2 (A4 false)) (a0.Ops))), (8, A.val ((slr true 1 V.bool) s)), (7, A.val ((slr true 1 (slr false 1 Af)) (x7))), (6, A.val ((slr true 1 V.bool) (x6))), (2, A.val ((rP true (Ah false)) (a0)))])
theorem Nk {a0 : SAlgebra} {x7 : List (List Int)} {x6 : List Bool} {x34 : Int} (s : (Int × (List Bool))) (o : (Int × (List Bool)) ⊕ (List Bool)) (h : B0 a0 x7 x6 x34 s = some o) : vc Try.prog Hf (Dl [41, 40, 39, 10, 34, 33, 32, 8, 7, 6, 2] (Em a0 x7 x6 x34) (Hd a0 x7 x6 x34) o) (Em a0 x7 x6 x34 s) := by
 obtain ⟨x41, x8'⟩ := s
 unfold B0 at h
 try dsimp only at h
 conv => whnf
 refine Br.od h (fun p8 h => ?_) (fun p8 h => ?_)
 ·conv => whnf
  refine Len.map ?_
  conv => whnf
  refine Ask.o h fun p9 h => ?_
  conv => whnf
  refine Elem.o (by first | omega | (simp [Au] at *; omega)) ?_
  conv => whnf
  refine Len.map ?_
  conv => whnf
  refine Ask.o h fun p10 h => ?_
  conv => whnf
  refine Cells.one (fun _ => ⟨rfl, rfl⟩) (by first | omega | (simp [Au] at *; omega)) ?_
  conv => whnf
  refine Br.flip ?_
  conv => whnf
  refine Br.ob h (fun p11 h => ?_) (fun p11 h => ?_)
  ·conv => whnf
   refine Br.no ?_
   conv => whnf
   refine Br.no ?_
   conv => whnf
   refine Br.no ?_
   conv => whnf
   refine Br.no ?_
   conv => whnf
   refine Br.no ?_
   conv => whnf
   refine Br.no ?_
   conv => whnf
   refine Br.no ?_
   conv => whnf
   refine Br.no ?_
   conv => whnf
   refine Ask.o h fun p12 h => ?_
   conv => whnf
   cases h; exact ⟨rfl, rfl⟩
  conv => whnf
  refine Br.yes ?_
  conv => whnf
  refine Br.yes ?_
  conv => whnf
  refine Cells.lit rfl rfl ?_
  conv => whnf
  refine Br.yes ?_
  conv => whnf
  refine Br.yes ?_
  conv => whnf
  refine Cells.lit rfl rfl ?_
  conv => whnf
  refine Br.yes ?_
  conv => whnf
  refine Br.yes ?_
  conv => whnf
  refine CallQ.rd V.bool (by first | rfl | simp only [V.fz, V.up, Ab, Ad, slr] | simp [Aa, V.fz, fzL, V.up, upL, Ab, Ac, Ad, slr]) (fun _ => rfl) h (fun r h => Ys h) (fun r13 h => ?_)
  conv => whnf
  refine Br.yes ?_
  conv => whnf
  refine Br.ob h (fun p14 h => ?_) (fun p14 h => ?_)
  ·conv => whnf
   refine Len.map ?_
   conv => whnf
   refine Ask.o h fun p15 h => ?_
   conv => whnf
   refine SetKids.one (fun _ => ⟨rfl, rfl⟩) (true) (by first | rfl | simp only [Aa, V.fz, fzL, V.up, upL, Ab, Ac, Ad, slr, List.cons_append, List.nil_append] | simp [Aa, V.fz, fzL, V.up, upL, Ab, Ac, Ad, slr]) (by first | omega | (simp [Au] at *; omega)) ?_
   conv => whnf
   refine Ask.o h fun p16 h => ?_
   conv => whnf
   cases h; exact ⟨rfl, rfl⟩
  conv => whnf
  refine Ask.o h fun p17 h => ?_
  conv => whnf
  cases h; exact ⟨rfl, rfl⟩
 conv => whnf
 cases h; exact ⟨rfl, rfl⟩
noncomputable def B1 (a0 : SAlgebra) (x7 : List (List Int)) (x6 : List Bool) : (Int × (List Bool)) → Option ((Int × (List Bool)) ⊕ (List Bool)) := fun (x34, x8) =>
 if x34 < (↑a0.Ops.length : Int) then
 ask ((0 : Int) ≤ x34 ∧ x34 < (↑a0.Ops.length : Int)) <|
 (Ap (B0 a0 x7 x6 x34) ((0 : Int), x8)).bind fun q18_8 =>
 ask (InI (x34 + (1 : Int))) <|
 some (.inl (x34 + (1 : Int), q18_8))
 else
 some (.inr x8)
def Eo (a0 : SAlgebra) (x7 : List (List Int)) (x6 : List Bool) : (Int × (List Bool)) → St := fun s => [(34, A.val (Af s.1)), (33, A.val (Af ((↑a0.Ops.length : Int)))), (32, A.val ((slr false 2 (A4 false)) (a0.Ops))), (8, A.val ((slr true 1 V.bool) s.2)), (7, A.val ((slr true 1 (slr false 1 Af)) (x7))), (6, A.val ((slr true 1 V.bool) (x6))), (2, A.val ((rP true (Ah false)) (a0)))]
def Hc (a0 : SAlgebra) (x7 : List (List Int)) (x6 : List Bool) : (List Bool) → Tgt
 | s => ((Ex.exit 2), [8, 7, 6, 2], [(8, A.val ((slr true 1 V.bool) s)), (7, A.val ((slr true 1 (slr false 1 Af)) (x7))), (6, A.val ((slr true 1 V.bool) (x6))), (2, A.val ((rP true (Ah false)) (a0)))])
theorem Nr {a0 : SAlgebra} {x7 : List (List Int)} {x6 : List Bool} (s : (Int × (List Bool))) (o : (Int × (List Bool)) ⊕ (List Bool)) (h : B1 a0 x7 x6 s = some o) : vc Try.prog Hg (Dl [34, 33, 32, 8, 7, 6, 2] (Eo a0 x7 x6) (Hc a0 x7 x6) o) (Eo a0 x7 x6 s) := by
 obtain ⟨x34, x8⟩ := s
 unfold B1 at h
 try dsimp only at h
 conv => whnf
 refine Br.od h (fun p6 h => ?_) (fun p6 h => ?_)
 ·conv => whnf
  refine Len.map ?_
  conv => whnf
  refine Ask.o h fun p7 h => ?_
  conv => whnf
  refine Elem.o (by first | omega | (simp [Au] at *; omega)) ?_
  conv => whnf
  refine SetKids.lit rfl ?_
  conv => whnf
  refine Cells.lit rfl rfl ?_
  conv => whnf
  refine Len.map ?_
  conv => whnf
  refine LoopQ.o [41, 40, 39, 10, 34, 33, 32, 8, 7, 6, 2] (Em a0 x7 x6 x34) (Hd a0 x7 x6 x34) h (fun s o h => Nk s o h) (by first | rfl | simp [restrict, look, Aa, V.fz, fzL, V.up, upL, Ab, Ac, Ad, slr]) (fun _ => rfl) ?_
  rintro q18_8 h
  try dsimp only at h
  conv => whnf
  refine Ask.o h fun p19 h => ?_
  conv => whnf
  cases h; exact ⟨rfl, rfl⟩
 conv => whnf
 cases h; exact ⟨rfl, rfl⟩
noncomputable def Bj (_a0 : SAlgebra) (_x7 : List (List Int)) (r21 : List Int) : (Int × (List Bool)) → Option ((Int × (List Bool)) ⊕ (List Bool)) := fun (x77, x6') =>
 if x77 < (↑r21.length : Int) then
 ask ((0 : Int) ≤ x77 ∧ x77 < (↑r21.length : Int)) <|
 ask ((0 : Int) ≤ nth r21 x77.toNat ∧ nth r21 x77.toNat < (↑x6'.length : Int)) <|
 ask (InI (x77 + (1 : Int))) <|
 some (.inl (x77 + (1 : Int), x6'.set (nth r21 x77.toNat).toNat true))
 else
 some (.inr x6')
def Ep (a0 : SAlgebra) (x7 : List (List Int)) (r21 : List Int) : (Int × (List Bool)) → St := fun s => [(77, A.val (Af s.1)), (76, A.val (Af ((↑r21.length : Int)))), (75, A.val ((slr false 1 Af) (r21))), (7, A.val ((slr true 1 (slr false 1 Af)) (x7 ++ [r21]))), (6, A.val ((slr true 1 V.bool) s.2)), (2, A.val ((rP true (Ah false)) (a0)))]
def Hj (a0 : SAlgebra) (x7 : List (List Int)) (r21 : List Int) : (List Bool) → Tgt
 | s => ((Ex.exit 6), [7, 6, 2], [(7, A.val ((slr true 1 (slr false 1 Af)) (x7 ++ [r21]))), (6, A.val ((slr true 1 V.bool) s)), (2, A.val ((rP true (Ah false)) (a0)))])
theorem Na {a0 : SAlgebra} {x7 : List (List Int)} {r21 : List Int} (s : (Int × (List Bool))) (o : (Int × (List Bool)) ⊕ (List Bool)) (h : Bj a0 x7 r21 s = some o) : vc Try.prog G9 (Dl [77, 76, 75, 7, 6, 2] (Ep a0 x7 r21) (Hj a0 x7 r21) o) (Ep a0 x7 r21 s) := by
 obtain ⟨x77, x6'⟩ := s
 unfold Bj at h
 try dsimp only at h
 conv => whnf
 refine Br.od h (fun p23 h => ?_) (fun p23 h => ?_)
 ·conv => whnf
  refine Len.map ?_
  conv => whnf
  refine Ask.o h fun p24 h => ?_
  conv => whnf
  refine Elem.o (by first | omega | (simp [Au] at *; omega)) ?_
  conv => whnf
  refine Len.map ?_
  conv => whnf
  refine Ask.o h fun p25 h => ?_
  conv => whnf
  refine SetKids.one (fun _ => ⟨rfl, rfl⟩) (true) (by first | rfl | simp only [Aa, V.fz, fzL, V.up, upL, Ab, Ac, Ad, slr, List.cons_append, List.nil_append] | simp [Aa, V.fz, fzL, V.up, upL, Ab, Ac, Ad, slr]) (by first | omega | (simp [Au] at *; omega)) ?_
  conv => whnf
  refine Ask.o h fun p26 h => ?_
  conv => whnf
  cases h; exact ⟨rfl, rfl⟩
 conv => whnf
 cases h; exact ⟨rfl, rfl⟩
noncomputable def Bk (a0 : SAlgebra) : ((List (List Int)) × (List Bool)) → Option (((List (List Int)) × (List Bool)) ⊕ (List (List Int))) := fun (x7, x6) =>
 ask ((0 : Int) ≤ a0.Size ∧ a0.Size ≤ (↑LIM : Int)) <|
 (Ap (B1 a0 x7 x6) ((0 : Int), List.replicate a0.Size.toNat false)).bind fun q20_8 =>
 (Ee (q20_8)).bind fun r21 =>
 if (↑r21.length : Int) = (0 : Int) then
 some (.inr x7)
 else
 ask ((x7).length + ([r21]).length ≤ LIM) <|
 (Ap (Bj a0 x7 r21) ((0 : Int), x6)).bind fun q27_6 =>
 some (.inl (x7 ++ [r21], q27_6))
def Ev (a0 : SAlgebra) : ((List (List Int)) × (List Bool)) → St := fun s => [(7, A.val ((slr true 1 (slr false 1 Af)) s.1)), (6, A.val ((slr true 1 V.bool) s.2)), (2, A.val ((rP true (Ah false)) (a0)))]
def Hu (_a0 : SAlgebra) : (List (List Int)) → Tgt
 | s => (Ex.ret, [5, 4], [(5, A.val (V.bool (true))), (4, A.val ((slr true 1 (slr false 1 Af)) s))])
theorem M9 {a0 : SAlgebra} (s : ((List (List Int)) × (List Bool))) (o : ((List (List Int)) × (List Bool)) ⊕ (List (List Int))) (h : Bk a0 s = some o) : vc Try.prog G6 (Dl [7, 6, 2] (Ev a0) (Hu a0) o) (Ev a0 s) := by
 obtain ⟨x7, x6⟩ := s
 unfold Bk at h
 try dsimp only at h
 conv => whnf
 refine Cells.lit rfl rfl ?_
 conv => whnf
 refine Ask.o h fun p5 h => ?_
 conv => whnf
 refine MkQ.o V.bool (false) rfl ?_
 conv => whnf
 refine Cells.lit rfl rfl ?_
 conv => whnf
 refine Len.map ?_
 conv => whnf
 refine LoopQ.o [34, 33, 32, 8, 7, 6, 2] (Eo a0 x7 x6) (Hc a0 x7 x6) h (fun s o h => Nr s o h) (by first | rfl | simp [restrict, look, Aa, V.fz, fzL, V.up, upL, Ab, Ac, Ad, slr]) (fun _ => rfl) ?_
 rintro q20_8 h
 try dsimp only at h
 conv => whnf
 refine CallQ.rd (slr true 1 Af) (by first | rfl | simp only [V.fz, Ab, slr] | simp [Aa, V.fz, fzL, V.up, upL, Ab, Ac, Ad, slr]) (fun _ => by simp [V.noFz, Bo]) h (fun r h => O9 h) (fun r21 h => ?_)
 conv => whnf
 refine Len.map ?_
 conv => whnf
 refine Br.oe h (fun p22 h => ?_) (fun p22 h => ?_)
 ·conv => whnf
  cases h; exact ⟨rfl, rfl⟩
 conv => whnf
 refine FrzQ.d (V.sl false (1 : Nat) (List.map Af r21)) (by first | (simp only [slr]; done) | (simp [Gt, V.fz, Ab, slr]; done)) ?_
 conv => whnf
 refine BslQ.o (slr false 1 Af) [r21] (by exact fun _ => ⟨rfl, rfl⟩) (by first | rfl | simp only [Aa, V.fz, fzL, V.up, upL, Ab, Ac, Ad, slr, List.cons_append, List.nil_append] | simp [Aa, V.fz, fzL, V.up, upL, Ab, Ac, Ad, slr]) ?_
 conv => whnf
 refine NoOwn.o (fun _ => rfl) ?_
 conv => whnf
 refine AppQ.o (m := 1) (slr false 1 Af) (by exact fun _ => ⟨rfl, rfl⟩) (x7) ([r21]) (by first | rfl | simp only [Aa, V.fz, fzL, V.up, upL, Ab, Ac, Ad, slr, List.cons_append, List.nil_append] | simp [Aa, V.fz, fzL, V.up, upL, Ab, Ac, Ad, slr]) (by first | rfl | simp only [Aa, V.fz, fzL, V.up, upL, Ab, Ac, Ad, slr, List.cons_append, List.nil_append] | simp [Aa, V.fz, fzL, V.up, upL, Ab, Ac, Ad, slr]) h fun h => ?_
 conv => whnf
 refine Len.map ?_
 conv => whnf
 refine LoopQ.o [77, 76, 75, 7, 6, 2] (Ep a0 x7 r21) (Hj a0 x7 r21) h (fun s o h => Na s o h) (by first | rfl | simp [restrict, look, Aa, V.fz, fzL, V.up, upL, Ab, Ac, Ad, slr]) (fun _ => rfl) ?_
 rintro q27_6 h
 try dsimp only at h
 conv => whnf
 cases h; exact ⟨rfl, rfl⟩
noncomputable def Bn (a0 : SAlgebra) (some0 : (List Int)) : Option ((List (List Int)) × Bool) :=
 (Dj (a0) (some0)).bind fun r1 =>
 if (r1) = true then
 (F9 (some0) (a0.Size)).bind fun r3 =>
 (Ee (r3)).bind fun r4 =>
 (Ap (Bk a0) ([r4], r3)).bind fun q28_4 =>
 some (q28_4, true)
 else
 some (A9 (List Int), false)
theorem Qm {a0 : SAlgebra} {some0 : (List Int)} {v : ((List (List Int)) × Bool)} (h : Bn a0 some0 = some v) : Ret Try.prog Fw [(Ah false) a0, (slr false 1 Af) some0] ((fun r => V.tup [(slr false 1 (slr false 1 Af)) r.1, V.bool r.2]) v) := by
 refine Yp Q7 (Nat.le_of_ble_eq_true rfl) ?_
 unfold Bn at h
 conv => whnf
 refine Cells.lit rfl rfl ?_
 conv => whnf
 refine CallQ.o V.bool (by first | rfl | simp only [Aa, V.fz, fzL, V.up, upL, Ab, Ac, Ad, slr, List.cons_append, List.nil_append] | simp [Aa, V.fz, fzL, V.up, upL, Ab, Ac, Ad, slr]) h (fun r h => Nn h) (fun r1 h => ?_)
 conv => whnf
 refine Br.flip ?_
 conv => whnf
 refine Br.ob h (fun p2 h => ?_) (fun p2 h => ?_)
 ·conv => whnf
  refine Cells.lit rfl rfl ?_
  conv => whnf
  refine CallQ.o (slr true 1 V.bool) (by first | rfl | simp only [Aa, V.fz, fzL, V.up, upL, Ab, Ac, Ad, slr, List.cons_append, List.nil_append] | simp [Aa, V.fz, fzL, V.up, upL, Ab, Ac, Ad, slr]) h (fun r h => Y3 h) (fun r3 h => ?_)
  conv => whnf
  refine CallQ.rd (slr true 1 Af) (by first | rfl | simp only [V.fz, Ab, slr] | simp [Aa, V.fz, fzL, V.up, upL, Ab, Ac, Ad, slr]) (fun _ => by simp [V.noFz, Bo]) h (fun r h => O9 h) (fun r4 h => ?_)
  conv => whnf
  refine BslQ.o (slr true 1 Af) [r4] (by exact fun _ => ⟨rfl, rfl⟩) (by first | rfl | simp only [Aa, V.fz, fzL, V.up, upL, Ab, Ac, Ad, slr, List.cons_append, List.nil_append] | simp [Aa, V.fz, fzL, V.up, upL, Ab, Ac, Ad, slr]) ?_
  conv => whnf
  refine FrzQ.d (V.sl true (1 : Nat) (List.map (slr false (1 : Nat) Af) [r4])) (by first | (simp only [V.fzAt, I9, Ab]; done) | exact Eq.trans (b := V.sl true (1 : Nat) (List.map (slr false (1 : Nat) Af) [r4])) rfl (by simp only [Ac])) ?_
  conv => whnf
  refine LoopQ.o [7, 6, 2] (Ev a0) (Hu a0) h (fun s o h => M9 s o h) (by first | rfl | simp [restrict, look, Aa, V.fz, fzL, V.up, upL, Ab, Ac, Ad, slr]) (fun _ => rfl) ?_
  rintro q28_4 h
  try dsimp only at h
  conv => whnf
  cases h; exact (by first | rfl | simp only [Ag, V.fz, fzL, V.up, Ab, slr] | simp [Ag, Aa, V.fz, fzL, V.up, upL, Ab, Ac, Ad, slr])
 conv => whnf
 refine BslQ.o (slr true 1 Af) (A9 (List Int)) (by exact fun _ => ⟨rfl, rfl⟩) (by first | rfl | simp only [Aa, V.fz, fzL, V.up, upL, Ab, Ac, Ad, slr, List.cons_append, List.nil_append] | simp [Aa, V.fz, fzL, V.up, upL, Ab, Ac, Ad, slr]) ?_
 conv => whnf
 cases h; exact (by first | rfl | simp only [Ag, Aa, V.fz, fzL, V.up, upL, Ab, Ac, Ad, slr] | simp [Ag, Aa, V.fz, fzL, V.up, upL, Ab, Ac, Ad, slr])
end Go.Proofs.Ytidaaijecmkndaa.Ax
