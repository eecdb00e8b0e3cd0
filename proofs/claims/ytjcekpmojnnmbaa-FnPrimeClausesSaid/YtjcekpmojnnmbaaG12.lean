/-
 What the functions compute, as functions on plain data, and that the program does compute it; written by program.
-/
import Derived.Test.YtjcekpmojnnmbaaCode
import Derived.Test.YtjcekpmojnnmbaaG3
import Derived.Test.YtjcekpmojnnmbaaG5
import Derived.Test.YtjcekpmojnnmbaaG6
import Derived.Test.YtjcekpmojnnmbaaG8
import Derived.Test.YtjcekpmojnnmbaaG11
namespace Go.Proofs.Ytjcekpmojnnmbaa.Ax
open Go
set_option maxRecDepth 100000
set_option maxHeartbeats 4000000
noncomputable def Dm (code0 : (List Int)) : Option SRelation :=
 (C5 ({ code := code0, at_ := (0 : Int), seed := (0 : Int) }) ((12 : Int))).bind fun (r1, u2) =>
 if (r1) = true then
 (Bj (u2) ([(2 : Int), (3 : Int)])).bind fun (r4, u5) =>
 (Bj (u5) ([(1 : Int), (2 : Int), (3 : Int)])).bind fun (r6, u7) =>
 (Db (u7) (r4) (r6)).bind fun (r8, _u9) =>
 some r8
 else
 (Bb (u2) ((8 : Int))).bind fun (r10, u11) =>
 (Fr (u11) (r10)).bind fun (r12, _u13) =>
 some r12
theorem T8 {code0 : (List Int)} {v : SRelation} (h : Dm code0 = some v) : Ret Try.prog G0 [(slr false 1 (V.int IntKind.u8)) code0] ((Ah false) v) := by
 refine Ajv Uj (Nat.le_of_ble_eq_true rfl) ?_
 unfold Dm at h
 conv => whnf
 refine CallQ.io V.bool (rP true (Am false)) (by rfl) rfl (fun _ => rfl) (fun _ => ⟨rfl, rfl⟩) rfl h (fun r h => M4 h) (fun r1 u2 h => ?_)
 conv => whnf
 refine Br.ob h (fun p3 h => ?_) (fun p3 h => ?_)
 ·conv => whnf
  refine BslQ.o Ae ([(2 : Int), (3 : Int)]) (by exact fun _ => ⟨rfl, rfl⟩) (by first | rfl | (simp only [Aa, V.fz, fzL, V.up, upL, Ab, Ac, Ad, slr, List.cons_append, List.nil_append]; done) | simp [Aa, V.fz, fzL, V.up, upL, Ab, Ac, Ad, slr]) ?_
  conv => whnf
  refine CallQ.io Ae (rP true (Am false)) (by first | rfl | (simp only [Aa, As, V.fz, fzL, Ab, Ac, slr]; done) | simp [Aa, As, V.fz, fzL, V.up, upL, Ab, Ac, Ad, slr]) rfl (fun _ => rfl) (fun _ => ⟨rfl, rfl⟩) rfl h (fun r h => C1 h) (fun r4 u5 h => ?_)
  conv => whnf
  refine BslQ.o Ae ([(1 : Int), (2 : Int), (3 : Int)]) (by exact fun _ => ⟨rfl, rfl⟩) (by first | rfl | (simp only [Aa, V.fz, fzL, V.up, upL, Ab, Ac, Ad, slr, List.cons_append, List.nil_append]; done) | simp [Aa, V.fz, fzL, V.up, upL, Ab, Ac, Ad, slr]) ?_
  conv => whnf
  refine CallQ.io Ae (rP true (Am false)) (by first | rfl | (simp only [Aa, As, V.fz, fzL, Ab, Ac, slr]; done) | simp [Aa, As, V.fz, fzL, V.up, upL, Ab, Ac, Ad, slr]) rfl (fun _ => rfl) (fun _ => ⟨rfl, rfl⟩) rfl h (fun r h => C1 h) (fun r6 u7 h => ?_)
  conv => whnf
  refine CallQ.io (Aj) (rP true (Am false)) (by rfl) rfl (fun _ => rfl) (fun _ => ⟨rfl, rfl⟩) rfl h (fun r h => Mo h) (fun r8 u9 h => ?_)
  conv => whnf
  refine SetKids.lit rfl ?_
  conv => whnf
  cases h; exact (by first | rfl | simp only [Ai, V.fz, fzL, V.up, Ab, slr] | simp [Ai, Aa, V.fz, fzL, V.up, upL, Ab, Ac, Ad, slr])
 conv => whnf
 refine CallQ.io Ae (rP true (Am false)) (by rfl) rfl (fun _ => rfl) (fun _ => ⟨rfl, rfl⟩) rfl h (fun r h => Bz h) (fun r10 u11 h => ?_)
 conv => whnf
 refine CallQ.io (Ah false) (rP true (Am false)) (by rfl) rfl (fun _ => rfl) (fun _ => ⟨rfl, rfl⟩) rfl h (fun r h => Aae h) (fun r12 u13 h => ?_)
 conv => whnf
 refine SetKids.lit rfl ?_
 conv => whnf
 cases h; exact (by rfl)
end Go.Proofs.Ytjcekpmojnnmbaa.Ax
