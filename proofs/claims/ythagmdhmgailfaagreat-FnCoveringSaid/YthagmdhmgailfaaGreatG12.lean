/-
 What the functions compute, as functions on plain data, and that the program does compute it; written by program.
-/
import Derived.Test.YthagmdhmgailfaaGreatCode
import Derived.Test.YthagmdhmgailfaaGreatG11
namespace Go.Proofs.YthagmdhmgailfaaGreat.Ax
open Go
set_option maxRecDepth 100000
set_option maxHeartbeats 4000000
noncomputable def B5 (code0 : (List Int)) : Option (SAlgebra × (List Int)) :=
 (Dx (code0)).bind fun r1 =>
 some r1
theorem Ns {code0 : (List Int)} {v : (SAlgebra × (List Int))} (h : B5 code0 = some v) : Ret Tryz.prog Eo [(slr false 1 (V.int IntKind.u8)) code0] ((fun r => V.tup [(Ag false) r.1, (slr false 1 Af) r.2]) v) := by
 refine Ay M7 (Nat.le_of_ble_eq_true rfl) ?_
 unfold B5 at h
 refine CallQ.o (fun r => V.tup [(Ag false) r.1, (slr false 1 Af) r.2]) (by rfl) h (fun r h => Vf h) (fun r1 h => ?_)
 refine SetKids.lit rfl ?_
 cases h; exact (by rfl)
noncomputable def C3 (a0 : SAlgebra) : Option ((List (List Int)) × Bool) :=
 (D5 (a0)).bind fun r1 =>
 if (r1) = true then
 (Hy (a0)).bind fun r3 =>
 some (r3, true)
 else
 some (Aq (List Int), false)
theorem Sc {a0 : SAlgebra} {v : ((List (List Int)) × Bool)} (h : C3 a0 = some v) : Ret Tryz.prog Gq [(Ag false) a0] ((fun r => V.tup [(slr false 1 (slr false 1 Af)) r.1, V.bool r.2]) v) := by
 refine Q5 R5 (Nat.le_of_ble_eq_true rfl) ?_
 unfold C3 at h
 conv => whnf
 refine Cells.lit rfl rfl ?_
 conv => whnf
 refine CallQ.o V.bool (by rfl) h (fun r h => W6 h) (fun r1 h => ?_)
 conv => whnf
 refine Br.flip ?_
 conv => whnf
 refine Br.ob h (fun p2 h => ?_) (fun p2 h => ?_)
 ·conv => whnf
  refine Cells.lit rfl rfl ?_
  conv => whnf
  refine CallQ.o (slr true 1 (slr false 1 Af)) (by rfl) h (fun r h => Ae2 h) (fun r3 h => ?_)
  conv => whnf
  cases h; exact (by first | rfl | simp only [Ah, V.fz, fzL, V.up, Ab, slr] | simp [Ah, Aa, V.fz, fzL, V.up, upL, Ab, Ac, Ad, slr])
 conv => whnf
 refine BslQ.o (slr true 1 Af) (Aq (List Int)) (by exact fun _ => ⟨rfl, rfl⟩) (by rfl) ?_
 conv => whnf
 cases h; exact (by rfl)
end Go.Proofs.YthagmdhmgailfaaGreat.Ax
