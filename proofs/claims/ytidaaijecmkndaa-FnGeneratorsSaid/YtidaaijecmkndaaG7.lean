/-
 What the functions compute, as functions on plain data, and that the program does compute it; written by program.
-/
import Derived.Test.YtidaaijecmkndaaCode
import Derived.Test.YtidaaijecmkndaaG1
import Derived.Test.YtidaaijecmkndaaG2
import Derived.Test.YtidaaijecmkndaaG5
import Derived.Test.YtidaaijecmkndaaG6
namespace Go.Proofs.Ytidaaijecmkndaa.Ax
open Go
set_option maxRecDepth 100000
set_option maxHeartbeats 4000000
noncomputable def Ce (a0 : SAlgebra) : (Int × Bool × (List Int)) → Option ((Int × Bool × (List Int)) ⊕ (List Int)) := fun (x6, x5, x4) =>
 ask ((0 : Int) ≤ a0.Size) <|
 if x6 < Q0 (1 : Int) a0.Size then
 (Fo (x6)).bind fun r5 =>
 ((if (x5) = true then
 if (↑r5.length : Int) < (↑x4.length : Int) then
 some true
 else
 if (↑r5.length : Int) = (↑x4.length : Int) then
 (Ft (r5) (x4)).bind fun r9 =>
 some r9
 else
 some false
 else
 some true : Option Bool)).bind fun q10_8 =>
 if (q10_8) = true then
 (C3 (a0) (r5)).bind fun r12 =>
 if (↑r12.length : Int) = a0.Size then
 ask (InI (x6 + (1 : Int))) <|
 some (.inl (x6 + (1 : Int), true, r5))
 else
 ask (InI (x6 + (1 : Int))) <|
 some (.inl (x6 + (1 : Int), x5, x4))
 else
 ask (InI (x6 + (1 : Int))) <|
 some (.inl (x6 + (1 : Int), x5, x4))
 else
 some (.inr x4)
def E7 (a0 : SAlgebra) : (Int × Bool × (List Int)) → St := fun s => [(6, A.val (Af s.1)), (5, A.val (V.bool s.2.1)), (4, A.val ((slr true 1 Af) s.2.2)), (1, A.val ((rP true (Ag false)) (a0)))]
def H6 (_a0 : SAlgebra) : (List Int) → Tgt
 | s => ((Ex.exit 0), [4], [(4, A.val ((slr true 1 Af) s))])
theorem O6 {a0 : SAlgebra} (s : (Int × Bool × (List Int))) (o : (Int × Bool × (List Int)) ⊕ (List Int)) (h : Ce a0 s = some o) : vc Try.prog H4 (C0 [6, 5, 4, 1] (E7 a0) (H6 a0) o) (E7 a0 s) := by
 obtain ⟨x6, x5, x4⟩ := s
 unfold Ce at h
 try dsimp only at h
 conv => whnf
 refine Cells.lit rfl rfl ?_
 conv => whnf
 refine Ask.o h fun p3 h => ?_
 conv => whnf
 refine Br.od h (fun p4 h => ?_) (fun p4 h => ?_)
 ·conv => whnf
  refine CallQ.o (slr true 1 Af) (by first | rfl | simp only [Aa, V.fz, fzL, V.up, upL, Ab, Ac, Ad, slr, List.cons_append, List.nil_append] | simp [Aa, V.fz, fzL, V.up, upL, Ab, Ac, Ad, slr]) h (fun r h => P6 h) (fun r5 h => ?_)
  conv => whnf
  refine CutQ.o (fun t : Bool => match t with | s => (Ex.normal, [8, 7, 6, 5, 4, 1], [(8, A.val (V.bool s)), (7, A.val ((slr true 1 Af) (r5))), (6, A.val (Af (x6))), (5, A.val (V.bool (x5))), (4, A.val ((slr true 1 Af) (x4))), (1, A.val ((rP true (Ag false)) (a0)))])) h ?_ ?_
  ·intro t h
   conv => whnf
   refine Br.flip ?_
   conv => whnf
   refine Br.ob h (fun p6 h => ?_) (fun p6 h => ?_)
   ·conv => whnf
    refine Br.no ?_
    conv => whnf
    refine Len.map ?_
    conv => whnf
    refine Br.no ?_
    conv => whnf
    refine Br.no ?_
    conv => whnf
    refine Len.map ?_
    conv => whnf
    refine Br.no ?_
    conv => whnf
    refine Br.no ?_
    conv => whnf
    refine Br.od h (fun p7 h => ?_) (fun p7 h => ?_)
    ·conv => whnf
     refine Br.yes ?_
     conv => whnf
     refine Br.yes ?_
     conv => whnf
     refine Br.yes ?_
     conv => whnf
     refine Br.yes ?_
     conv => whnf
     refine Br.yes ?_
     conv => whnf
     refine Br.yes ?_
     conv => whnf
     refine Br.yes ?_
     conv => whnf
     cases h; exact ⟨rfl, rfl⟩
    conv => whnf
    refine Br.no ?_
    conv => whnf
    refine Len.map ?_
    conv => whnf
    refine Br.no ?_
    conv => whnf
    refine Br.no ?_
    conv => whnf
    refine Len.map ?_
    conv => whnf
    refine Br.no ?_
    conv => whnf
    refine Br.no ?_
    conv => whnf
    refine Br.oe h (fun p8 h => ?_) (fun p8 h => ?_)
    ·conv => whnf
     refine Br.yes ?_
     conv => whnf
     refine Br.yes ?_
     conv => whnf
     refine CallQ.rd V.bool (by first | rfl | simp only [V.fz, Ab, slr] | simp [Aa, V.fz, fzL, V.up, upL, Ab, Ac, Ad, slr]) (fun _ => rfl) h (fun r h => W8 h) (fun r9 h => ?_)
     conv => whnf
     refine Br.no ?_
     conv => whnf
     refine Br.yes ?_
     conv => whnf
     refine Br.no ?_
     conv => whnf
     cases h; exact ⟨rfl, rfl⟩
    conv => whnf
    refine Br.no ?_
    conv => whnf
    refine Br.no ?_
    conv => whnf
    refine Br.no ?_
    conv => whnf
    refine Br.no ?_
    conv => whnf
    refine Br.no ?_
    conv => whnf
    cases h; exact ⟨rfl, rfl⟩
   conv => whnf
   refine Br.yes ?_
   conv => whnf
   refine Br.yes ?_
   conv => whnf
   refine Br.yes ?_
   conv => whnf
   refine Br.yes ?_
   conv => whnf
   refine Br.yes ?_
   conv => whnf
   refine Br.yes ?_
   conv => whnf
   refine Br.yes ?_
   conv => whnf
   refine Br.yes ?_
   conv => whnf
   refine Br.yes ?_
   conv => whnf
   refine Br.yes ?_
   conv => whnf
   refine Br.yes ?_
   conv => whnf
   refine Br.yes ?_
   conv => whnf
   refine Br.yes ?_
   conv => whnf
   cases h; exact ⟨rfl, rfl⟩
  rintro q10_8 h
  try dsimp only at h
  conv => whnf
  refine Br.ob h (fun p11 h => ?_) (fun p11 h => ?_)
  ·conv => whnf
   refine Cells.lit rfl rfl ?_
   conv => whnf
   refine Br.yes ?_
   conv => whnf
   refine Br.yes ?_
   conv => whnf
   refine CallP.rd (slr true 1 Af) (by first | rfl | simp only [V.fz, fzL, Ab, slr] | simp [Aa, V.fz, fzL, V.up, upL, Ab, Ac, Ad, slr]) (fun _ => by simp [V.noFz, Be]) h (fun r h => Km h) (fun r12 h => ?_)
   conv => whnf
   refine Br.yes ?_
   conv => whnf
   refine Len.map ?_
   conv => whnf
   refine Br.yes ?_
   conv => whnf
   refine Br.yes ?_
   conv => whnf
   refine Cells.lit rfl rfl ?_
   conv => whnf
   refine Br.yes ?_
   conv => whnf
   refine Br.yes ?_
   conv => whnf
   refine Br.oe h (fun p13 h => ?_) (fun p13 h => ?_)
   ·conv => whnf
    refine Ask.o h fun p14 h => ?_
    conv => whnf
    cases h; exact ⟨rfl, rfl⟩
   conv => whnf
   refine Ask.o h fun p15 h => ?_
   conv => whnf
   cases h; exact ⟨rfl, rfl⟩
  conv => whnf
  refine Br.no ?_
  conv => whnf
  refine Br.no ?_
  conv => whnf
  refine Br.no ?_
  conv => whnf
  refine Br.no ?_
  conv => whnf
  refine Br.no ?_
  conv => whnf
  refine Br.no ?_
  conv => whnf
  refine Br.no ?_
  conv => whnf
  refine Br.no ?_
  conv => whnf
  refine Ask.o h fun p16 h => ?_
  conv => whnf
  cases h; exact ⟨rfl, rfl⟩
 conv => whnf
 cases h; exact ⟨rfl, rfl⟩
noncomputable def Bh (a0 : SAlgebra) : Option ((List Int) × Bool) :=
 (Eh (a0)).bind fun r1 =>
 if (r1) = true then
 (Am (Ce a0) ((0 : Int), false, A5 Int)).bind fun q17_4 =>
 some (q17_4, true)
 else
 some (A5 Int, false)
theorem S6 {a0 : SAlgebra} {v : ((List Int) × Bool)} (h : Bh a0 = some v) : Ret Try.prog Gn [(Ag false) a0] ((fun r => V.tup [(slr true 1 Af) r.1, V.bool r.2]) v) := by
 refine A1 Sx (Nat.le_of_ble_eq_true rfl) ?_
 unfold Bh at h
 conv => whnf
 refine Cells.lit rfl rfl ?_
 conv => whnf
 refine CallQ.o V.bool (by first | rfl | simp only [Aa, V.fz, fzL, V.up, upL, Ab, Ac, Ad, slr, List.cons_append, List.nil_append] | simp [Aa, V.fz, fzL, V.up, upL, Ab, Ac, Ad, slr]) h (fun r h => L5 h) (fun r1 h => ?_)
 conv => whnf
 refine Br.flip ?_
 conv => whnf
 refine Br.ob h (fun p2 h => ?_) (fun p2 h => ?_)
 ·conv => whnf
  refine BslQ.o Af (A5 Int) (by exact fun _ => ⟨rfl, rfl⟩) (by first | rfl | simp only [Aa, V.fz, fzL, V.up, upL, Ab, Ac, Ad, slr, List.cons_append, List.nil_append] | simp [Aa, V.fz, fzL, V.up, upL, Ab, Ac, Ad, slr]) ?_
  conv => whnf
  refine LoopQ.o [6, 5, 4, 1] (E7 a0) (H6 a0) h (fun s o h => O6 s o h) (by first | rfl | simp [restrict, look, Aa, V.fz, fzL, V.up, upL, Ab, Ac, Ad, slr]) (fun _ => rfl) ?_
  rintro q17_4 h
  try dsimp only at h
  conv => whnf
  cases h; exact (by first | rfl | simp only [Ah, Aa, V.fz, fzL, V.up, upL, Ab, Ac, Ad, slr] | simp [Ah, Aa, V.fz, fzL, V.up, upL, Ab, Ac, Ad, slr])
 conv => whnf
 refine BslQ.o Af (A5 Int) (by exact fun _ => ⟨rfl, rfl⟩) (by first | rfl | simp only [Aa, V.fz, fzL, V.up, upL, Ab, Ac, Ad, slr, List.cons_append, List.nil_append] | simp [Aa, V.fz, fzL, V.up, upL, Ab, Ac, Ad, slr]) ?_
 conv => whnf
 cases h; exact (by first | rfl | simp only [Ah, Aa, V.fz, fzL, V.up, upL, Ab, Ac, Ad, slr] | simp [Ah, Aa, V.fz, fzL, V.up, upL, Ab, Ac, Ad, slr])
end Go.Proofs.Ytidaaijecmkndaa.Ax
