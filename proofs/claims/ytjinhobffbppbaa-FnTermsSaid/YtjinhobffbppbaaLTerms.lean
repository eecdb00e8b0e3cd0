/-
 What the functions compute, as functions on plain data, and that the program does compute it; written by program.
-/
import Derived.Test.YtjinhobffbppbaaCode
import Derived.Test.YtjinhobffbppbaaG1
import Derived.Test.YtjinhobffbppbaaG3
import Derived.Test.YtjinhobffbppbaaG5
import Derived.Test.YtjinhobffbppbaaG7
import Derived.Test.YtjinhobffbppbaaG8
import Derived.Test.YtjinhobffbppbaaG10
namespace Go.Proofs.Ytjinhobffbppbaa.Ax
open Go
set_option maxRecDepth 100000
set_option maxHeartbeats 4000000
noncomputable def Co (_code0 : List Int) (r3 : SAlgebra × List Int × List (List Int)) (_r4 : List Int × Bool) (r10 : List Int) : (Int × Bool × (List Int)) → Option ((Int × Bool × (List Int)) ⊕ (Bool × (List Int))) := fun (x13, x12, x11) =>
 if x13 < (↑r3.snd.snd.length : Int) then
 ask ((0 : Int) ≤ x13 ∧ x13 < (↑r3.snd.snd.length : Int)) <|
 (Bs (r3.fst) (nth r3.snd.snd x13.toNat) (r10)).bind fun r14 =>
 if (x12) = true then
 ask ((x11).length + ([r14.fst]).length ≤ LIM) <|
 ask (InI (x13 + (1 : Int))) <|
 some (.inl (x13 + (1 : Int), r14.snd, x11 ++ [r14.fst]))
 else
 ask ((x11).length + ([r14.fst]).length ≤ LIM) <|
 ask (InI (x13 + (1 : Int))) <|
 some (.inl (x13 + (1 : Int), false, x11 ++ [r14.fst]))
 else
 some (.inr (x12, x11))
def Hn (code0 : List Int) (r3 : SAlgebra × List Int × List (List Int)) (r4 : List Int × Bool) (r10 : List Int) : (Int × Bool × (List Int)) → St := fun s => [(13, A.val (Ae s.1)), (12, A.val (V.bool s.2.1)), (11, A.val ((slr true 1 Ae) s.2.2)), (10, A.val ((slr true 1 Ae) (r10))), (6, A.val ((slr true 1 Ae) (r4.fst))), (5, A.val ((slr false 1 (slr false 1 Ae)) (r3.snd.snd))), (4, A.val ((slr false 1 Ae) (r3.snd.fst))), (3, A.val ((rP true (Ag false)) (r3.fst))), (0, A.val ((slr false 1 (V.int IntKind.u8)) (code0)))]
def Lo (code0 : List Int) (r3 : SAlgebra × List Int × List (List Int)) (r4 : List Int × Bool) (r10 : List Int) : (Bool × (List Int)) → Tgt
 | s => ((Ex.exit 0), [12, 11, 10, 6, 4, 3, 0], [(12, A.val (V.bool s.1)), (11, A.val ((slr true 1 Ae) s.2)), (10, A.val ((slr true 1 Ae) (r10))), (6, A.val ((slr true 1 Ae) (r4.fst))), (4, A.val ((slr false 1 Ae) (r3.snd.fst))), (3, A.val ((rP true (Ag false)) (r3.fst))), (0, A.val ((slr false 1 (V.int IntKind.u8)) (code0)))])
theorem R2 {code0 : List Int} {r3 : SAlgebra × List Int × List (List Int)} {r4 : List Int × Bool} {r10 : List Int} (s : (Int × Bool × (List Int))) (o : (Int × Bool × (List Int)) ⊕ (Bool × (List Int))) (h : Co code0 r3 r4 r10 s = some o) : vc Try.prog K4 (F6 [13, 12, 11, 10, 6, 5, 4, 3, 0] (Hn code0 r3 r4 r10) (Lo code0 r3 r4 r10) o) (Hn code0 r3 r4 r10 s) := by
 obtain ⟨x13, x12, x11⟩ := s
 unfold Co at h
 try dsimp only at h
 conv => whnf
 refine Len.map ?_
 conv => whnf
 refine Br.od h (fun p12 h => ?_) (fun p12 h => ?_)
 ·conv => whnf
  refine Cells.lit rfl rfl ?_
  conv => whnf
  refine Len.map ?_
  conv => whnf
  refine Ask.o h fun p13 h => ?_
  conv => whnf
  refine Elem.o (by first | omega | (simp [A5] at *; omega)) ?_
  conv => whnf
  refine CallP.rd (fun r => V.tup [Ae r.1, V.bool r.2]) (by first | rfl | simp only [V.fz, fzL, Ab, slr] | simp [Aa, V.fz, fzL, V.up, upL, Ab, Ac, Ad, slr]) (fun _ => by simp [V.noFz, B3]) h (fun r h => Dl h) (fun r14 h => ?_)
  conv => whnf
  refine Br.ob h (fun p15 h => ?_) (fun p15 h => ?_)
  ·conv => whnf
   refine Br.yes ?_
   conv => whnf
   refine BslQ.o Ae [r14.fst] (by exact fun _ => ⟨rfl, rfl⟩) (by first | rfl | simp only [Aa, V.fz, fzL, V.up, upL, Ab, Ac, Ad, slr, List.cons_append, List.nil_append] | simp [Aa, V.fz, fzL, V.up, upL, Ab, Ac, Ad, slr]) ?_
   conv => whnf
   refine NoOwn.o (fun _ => rfl) ?_
   conv => whnf
   refine AppQ.o (m := 1) Ae (by exact fun _ => ⟨rfl, rfl⟩) (x11) ([r14.fst]) (by first | rfl | simp only [Aa, V.fz, fzL, V.up, upL, Ab, Ac, Ad, slr, List.cons_append, List.nil_append] | simp [Aa, V.fz, fzL, V.up, upL, Ab, Ac, Ad, slr]) (by first | rfl | simp only [Aa, V.fz, fzL, V.up, upL, Ab, Ac, Ad, slr, List.cons_append, List.nil_append] | simp [Aa, V.fz, fzL, V.up, upL, Ab, Ac, Ad, slr]) h fun h => ?_
   conv => whnf
   refine Ask.o h fun p16 h => ?_
   conv => whnf
   cases h; exact ⟨rfl, rfl⟩
  conv => whnf
  refine Br.no ?_
  conv => whnf
  refine BslQ.o Ae [r14.fst] (by exact fun _ => ⟨rfl, rfl⟩) (by first | rfl | simp only [Aa, V.fz, fzL, V.up, upL, Ab, Ac, Ad, slr, List.cons_append, List.nil_append] | simp [Aa, V.fz, fzL, V.up, upL, Ab, Ac, Ad, slr]) ?_
  conv => whnf
  refine NoOwn.o (fun _ => rfl) ?_
  conv => whnf
  refine AppQ.o (m := 1) Ae (by exact fun _ => ⟨rfl, rfl⟩) (x11) ([r14.fst]) (by first | rfl | simp only [Aa, V.fz, fzL, V.up, upL, Ab, Ac, Ad, slr, List.cons_append, List.nil_append] | simp [Aa, V.fz, fzL, V.up, upL, Ab, Ac, Ad, slr]) (by first | rfl | simp only [Aa, V.fz, fzL, V.up, upL, Ab, Ac, Ad, slr, List.cons_append, List.nil_append] | simp [Aa, V.fz, fzL, V.up, upL, Ab, Ac, Ad, slr]) h fun h => ?_
  conv => whnf
  refine Ask.o h fun p17 h => ?_
  conv => whnf
  cases h; exact ⟨rfl, rfl⟩
 conv => whnf
 cases h; exact ⟨rfl, rfl⟩
noncomputable def Hf (code0 : (List Int)) : Option Bool :=
 (Lb (code0)).bind fun r1 =>
 if (r1) = true then
 some true
 else
 (Cg (code0)).bind fun r3 =>
 (Dr (r3.fst) (r3.snd.fst) (r3.snd.snd)).bind fun r4 =>
 (((Ds (r3.fst) (r3.snd.fst) (r3.snd.snd)).bind fun r5 =>
 if (r4.snd == r5.snd) = true then
 (Bp (r4.fst) (r5.fst)).bind fun r7 =>
 if (r7) = true then
 some (.inl ())
 else
 some (.inr ())
 else
 some (.inr ()) : Option (Unit ⊕ Unit))).bind fun t => match t with
 | (.inl _) => ((Ev (code0) (r3.fst.Size)).bind fun r10 =>
 ((if (r4.snd) = true then
 (Bb (Co code0 r3 r4 r10) ((0 : Int), true, Au Int)).bind fun (q18_12, q18_11) =>
 if (q18_12) = true then
 (Bs (r3.fst) (r4.fst) (r10)).bind fun r20 =>
 (Bs (r3.fst) (r3.snd.fst) (q18_11)).bind fun r21 =>
 if (r20.snd) = true then
 if (r21.snd) = true then
 if r20.fst ≠ r21.fst then
 some (.inl ())
 else
 some (.inr ())
 else
 some (.inl ())
 else
 some (.inl ())
 else
 some (.inr ())
 else
 some (.inr ()) : Option (Unit ⊕ Unit))).bind fun t => match t with
 | (.inl _) => (some false)
 | (.inr _) => ((Db (code0)).bind fun r26 =>
 (Ci (r26.fst) (r26.snd.fst) (r26.snd.snd.fst) (r26.snd.snd.snd)).bind fun r27 =>
 (((Cy (r26.fst) (r26.snd.fst) (r26.snd.snd.fst) (r26.snd.snd.snd)).bind fun r28 =>
 if (r27.snd == r28.snd) = true then
 (Bp (r27.fst) (r28.fst)).bind fun r30 =>
 if (r30) = true then
 some (.inl ())
 else
 some (.inr ())
 else
 some (.inr ()) : Option (Unit ⊕ Unit))).bind fun t => match t with
 | (.inl _) => ((Cz (r26.fst) (r26.snd.fst) (r26.snd.snd.fst)).bind fun r33 =>
 (((C2 (r26.fst) (r26.snd.fst) (r26.snd.snd.fst)).bind fun r34 =>
 if (r33.snd == r34.snd) = true then
 (Bp (r33.fst) (r34.fst)).bind fun r36 =>
 if (r36) = true then
 some (.inl ())
 else
 some (.inr ())
 else
 some (.inr ()) : Option (Unit ⊕ Unit))).bind fun t => match t with
 | (.inl _) => (((if (r33.snd) = true then
 (Ci (r26.fst) (r26.snd.fst) (r26.snd.snd.fst) (r33.fst)).bind fun r40 =>
 if (r40.snd) = true then
 (Bp (r40.fst) (r26.snd.fst)).bind fun r42 =>
 if (r42) = true then
 some (.inl ())
 else
 some (.inr ())
 else
 some (.inr ())
 else
 some (.inl ()) : Option (Unit ⊕ Unit))).bind fun t => match t with
 | (.inl _) => ((Ev (code0) (r26.fst.Size)).bind fun r45 =>
 ((if (r27.snd) = true then
 (Bs (r26.fst) (r33.fst) (r45)).bind fun r47 =>
 (Bs (r26.fst) (r26.snd.snd.snd) (r45)).bind fun r48 =>
 (Bs (r26.fst) (r26.snd.fst) (r45)).bind fun r49 =>
 (Bs (r26.fst) (r27.fst) (r45)).bind fun r50 =>
 if (r47.snd) = true then
 if (r48.snd) = true then
 if (r49.snd) = true then
 if r47.fst = r48.fst then
 if (r50.snd) = true then
 if r49.fst ≠ r50.fst then
 some (.inl ())
 else
 some (.inr ())
 else
 some (.inl ())
 else
 some (.inr ())
 else
 some (.inr ())
 else
 some (.inr ())
 else
 some (.inr ())
 else
 some (.inr ()) : Option (Unit ⊕ Unit))).bind fun t => match t with
 | (.inl _) => (some false)
 | (.inr _) => ((E0 (r26.fst) (r26.snd.fst)).bind fun r58 =>
 (((E3 (r26.fst) (r26.snd.fst)).bind fun r59 =>
 if r58.fst ≠ r59.fst then
 some (.inl ())
 else
 if (r58.snd == r59.snd) = true then
 (B0 (r26.fst) (r26.snd.fst)).bind fun r62 =>
 if (r58.snd == r62) = true then
 some (.inr ())
 else
 some (.inl ())
 else
 some (.inl ()) : Option (Unit ⊕ Unit))).bind fun t => match t with
 | (.inl _) => (some false)
 | (.inr _) => ((Ft (r26.fst) (r26.snd.fst)).bind fun r65 =>
 (Fq (r26.fst) (r26.snd.fst)).bind fun r66 =>
 if (r65.snd == r66.snd) = true then
 (Bp (r65.fst) (r66.fst)).bind fun r68 =>
 some r68
 else
 some false)))
 | (.inr _) => (some false))
 | (.inr _) => (some false))
 | (.inr _) => (some false)))
 | (.inr _) => (some false)
theorem Xa {code0 : (List Int)} {v : Bool} (h : Hf code0 = some v) : Ret Try.prog Pa [(slr false 1 (V.int IntKind.u8)) code0] (V.bool v) := by
 refine Bf Ys (Nat.le_of_ble_eq_true rfl) ?_
 unfold Hf at h
 conv => whnf
 refine CallQ.o V.bool (by first | rfl | simp only [Aa, V.fz, fzL, V.up, upL, Ab, Ac, Ad, slr, List.cons_append, List.nil_append] | simp [Aa, V.fz, fzL, V.up, upL, Ab, Ac, Ad, slr]) h (fun r h => Aeo h) (fun r1 h => ?_)
 conv => whnf
 refine Br.ob h (fun p2 h => ?_) (fun p2 h => ?_)
 ·conv => whnf
  cases h; exact (by first | rfl | simp only [Ah, Aa, V.fz, fzL, V.up, upL, Ab, Ac, Ad, slr] | simp [Ah, Aa, V.fz, fzL, V.up, upL, Ab, Ac, Ad, slr])
 conv => whnf
 refine CallQ.o (fun r => V.tup [(Ag false) r.1, (slr false 1 Ae) r.2.1, (slr false 1 (slr false 1 Ae)) r.2.2]) (by first | rfl | simp only [Aa, V.fz, fzL, V.up, upL, Ab, Ac, Ad, slr, List.cons_append, List.nil_append] | simp [Aa, V.fz, fzL, V.up, upL, Ab, Ac, Ad, slr]) h (fun r h => Mj h) (fun r3 h => ?_)
 conv => whnf
 refine SetKids.lit rfl ?_
 conv => whnf
 refine Cells.lit rfl rfl ?_
 conv => whnf
 refine CallQ.o (fun r => V.tup [(slr true 1 Ae) r.1, V.bool r.2]) (by first | rfl | simp only [Aa, V.fz, fzL, V.up, upL, Ab, Ac, Ad, slr, List.cons_append, List.nil_append] | simp [Aa, V.fz, fzL, V.up, upL, Ab, Ac, Ad, slr]) h (fun r h => Ql h) (fun r4 h => ?_)
 conv => whnf
 refine CutQ.o (fun t : (Unit ⊕ Unit) => match t with | (.inl s) => (Ex.normal, [7, 6, 5, 4, 3, 0], [(7, A.val (V.bool (r4.snd))), (6, A.val ((slr true 1 Ae) (r4.fst))), (5, A.val ((slr false 1 (slr false 1 Ae)) (r3.snd.snd))), (4, A.val ((slr false 1 Ae) (r3.snd.fst))), (3, A.val ((rP true (Ag false)) (r3.fst))), (0, A.val ((slr false 1 (V.int IntKind.u8)) (code0)))]) | (.inr s) => (Ex.ret, [2], [(2, A.val (V.bool (false)))])) h ?_ ?_
 ·intro t h
  conv => whnf
  refine Cells.lit rfl rfl ?_
  conv => whnf
  refine CallQ.o (fun r => V.tup [(slr true 1 Ae) r.1, V.bool r.2]) (by first | rfl | simp only [Aa, V.fz, fzL, V.up, upL, Ab, Ac, Ad, slr, List.cons_append, List.nil_append] | simp [Aa, V.fz, fzL, V.up, upL, Ab, Ac, Ad, slr]) h (fun r h => Qw h) (fun r5 h => ?_)
  conv => whnf
  refine Br.flip ?_
  conv => whnf
  refine Br.ob h (fun p6 h => ?_) (fun p6 h => ?_)
  ·conv => whnf
   refine Br.no ?_
   conv => whnf
   refine Br.no ?_
   conv => whnf
   refine CallQ.rd V.bool (by first | rfl | simp only [V.fz, Ab, slr] | simp [Aa, V.fz, fzL, V.up, upL, Ab, Ac, Ad, slr]) (fun _ => rfl) h (fun r h => H4 h) (fun r7 h => ?_)
   conv => whnf
   refine Br.no ?_
   conv => whnf
   refine Br.no ?_
   conv => whnf
   refine Br.flip ?_
   conv => whnf
   refine Br.ob h (fun p8 h => ?_) (fun p8 h => ?_)
   ·conv => whnf
    cases h; exact ⟨rfl, rfl⟩
   conv => whnf
   cases h; exact ⟨rfl, rfl⟩
  conv => whnf
  refine Br.yes ?_
  conv => whnf
  refine Br.yes ?_
  conv => whnf
  refine Br.yes ?_
  conv => whnf
  refine Br.yes ?_
  conv => whnf
  refine Br.yes ?_
  conv => whnf
  cases h; exact ⟨rfl, rfl⟩
 rintro (⟨⟩ | ⟨⟩) h
 ·try dsimp only at h
  conv => whnf
  refine Cells.lit rfl rfl ?_
  conv => whnf
  refine CallQ.o (slr true 1 Ae) (by first | rfl | simp only [Aa, V.fz, fzL, V.up, upL, Ab, Ac, Ad, slr, List.cons_append, List.nil_append] | simp [Aa, V.fz, fzL, V.up, upL, Ab, Ac, Ad, slr]) h (fun r h => Pg h) (fun r10 h => ?_)
  conv => whnf
  refine CutQ.o (fun t : (Unit ⊕ Unit) => match t with | (.inl s) => (Ex.ret, [2], [(2, A.val (V.bool (false)))]) | (.inr s) => (Ex.normal, [0], [(0, A.val ((slr false 1 (V.int IntKind.u8)) (code0)))])) h ?_ ?_
  ·intro t h
   conv => whnf
   refine Br.ob h (fun p11 h => ?_) (fun p11 h => ?_)
   ·conv => whnf
    refine BslQ.o Ae (Au Int) (by exact fun _ => ⟨rfl, rfl⟩) (by first | rfl | simp only [Aa, V.fz, fzL, V.up, upL, Ab, Ac, Ad, slr, List.cons_append, List.nil_append] | simp [Aa, V.fz, fzL, V.up, upL, Ab, Ac, Ad, slr]) ?_
    conv => whnf
    refine LoopQ.o [13, 12, 11, 10, 6, 5, 4, 3, 0] (Hn code0 r3 r4 r10) (Lo code0 r3 r4 r10) h (fun s o h => R2 s o h) (by first | rfl | simp [restrict, look, Aa, V.fz, fzL, V.up, upL, Ab, Ac, Ad, slr]) (fun _ => rfl) ?_
    rintro ⟨q18_12, q18_11⟩ h
    try dsimp only at h
    conv => whnf
    refine Br.ob h (fun p19 h => ?_) (fun p19 h => ?_)
    ·conv => whnf
     refine Cells.lit rfl rfl ?_
     conv => whnf
     refine CallQ.rd (fun r => V.tup [Ae r.1, V.bool r.2]) (by first | rfl | simp only [V.fz, fzL, Ab, slr] | simp [Aa, V.fz, fzL, V.up, upL, Ab, Ac, Ad, slr]) (fun _ => by simp [V.noFz, B3]) h (fun r h => Dl h) (fun r20 h => ?_)
     conv => whnf
     refine Cells.lit rfl rfl ?_
     conv => whnf
     refine CallQ.rd (fun r => V.tup [Ae r.1, V.bool r.2]) (by first | rfl | simp only [V.fz, fzL, V.up, Ab, slr] | simp [Aa, V.fz, fzL, V.up, upL, Ab, Ac, Ad, slr]) (fun _ => by simp [V.noFz, B3]) h (fun r h => Dl h) (fun r21 h => ?_)
     conv => whnf
     refine Br.flip ?_
     conv => whnf
     refine Br.ob h (fun p22 h => ?_) (fun p22 h => ?_)
     ·conv => whnf
      refine Br.no ?_
      conv => whnf
      refine Br.no ?_
      conv => whnf
      refine Br.flip ?_
      conv => whnf
      refine Br.ob h (fun p23 h => ?_) (fun p23 h => ?_)
      ·conv => whnf
       refine Br.no ?_
       conv => whnf
       refine Br.no ?_
       conv => whnf
       refine Br.no ?_
       conv => whnf
       refine Br.on h (fun p24 h => ?_) (fun p24 h => ?_)
       ·conv => whnf
        cases h; exact ⟨rfl, rfl⟩
       conv => whnf
       cases h; exact ⟨rfl, rfl⟩
      conv => whnf
      refine Br.yes ?_
      conv => whnf
      refine Br.yes ?_
      conv => whnf
      refine Br.yes ?_
      conv => whnf
      refine Br.yes ?_
      conv => whnf
      cases h; exact ⟨rfl, rfl⟩
     conv => whnf
     refine Br.yes ?_
     conv => whnf
     refine Br.yes ?_
     conv => whnf
     refine Br.yes ?_
     conv => whnf
     refine Br.yes ?_
     conv => whnf
     refine Br.yes ?_
     conv => whnf
     refine Br.yes ?_
     conv => whnf
     refine Br.yes ?_
     conv => whnf
     cases h; exact ⟨rfl, rfl⟩
    conv => whnf
    cases h; exact ⟨rfl, rfl⟩
   conv => whnf
   cases h; exact ⟨rfl, rfl⟩
  rintro (⟨⟩ | ⟨⟩) h
  ·try dsimp only at h
   conv => whnf
   cases h; exact (by first | rfl | simp only [Ah, Aa, V.fz, fzL, V.up, upL, Ab, Ac, Ad, slr] | simp [Ah, Aa, V.fz, fzL, V.up, upL, Ab, Ac, Ad, slr])
  try dsimp only at h
  conv => whnf
  refine CallQ.o (fun r => V.tup [(Ag false) r.1, (slr false 1 Ae) r.2.1, Ae r.2.2.1, (slr false 1 Ae) r.2.2.2]) (by first | rfl | simp only [Aa, V.fz, fzL, V.up, upL, Ab, Ac, Ad, slr, List.cons_append, List.nil_append] | simp [Aa, V.fz, fzL, V.up, upL, Ab, Ac, Ad, slr]) h (fun r h => O0 h) (fun r26 h => ?_)
  conv => whnf
  refine SetKids.lit rfl ?_
  conv => whnf
  refine Cells.lit rfl rfl ?_
  conv => whnf
  refine CallQ.o (fun r => V.tup [(slr true 1 Ae) r.1, V.bool r.2]) (by first | rfl | simp only [Aa, V.fz, fzL, V.up, upL, Ab, Ac, Ad, slr, List.cons_append, List.nil_append] | simp [Aa, V.fz, fzL, V.up, upL, Ab, Ac, Ad, slr]) h (fun r h => Ma h) (fun r27 h => ?_)
  conv => whnf
  refine CutQ.o (fun t : (Unit ⊕ Unit) => match t with | (.inl s) => (Ex.normal, [25, 24, 23, 22, 21, 20, 0], [(25, A.val (V.bool (r27.snd))), (24, A.val ((slr true 1 Ae) (r27.fst))), (23, A.val ((slr false 1 Ae) (r26.snd.snd.snd))), (22, A.val (Ae (r26.snd.snd.fst))), (21, A.val ((slr false 1 Ae) (r26.snd.fst))), (20, A.val ((rP true (Ag false)) (r26.fst))), (0, A.val ((slr false 1 (V.int IntKind.u8)) (code0)))]) | (.inr s) => (Ex.ret, [2], [(2, A.val (V.bool (false)))])) h ?_ ?_
  ·intro t h
   conv => whnf
   refine Cells.lit rfl rfl ?_
   conv => whnf
   refine CallQ.o (fun r => V.tup [(slr true 1 Ae) r.1, V.bool r.2]) (by first | rfl | simp only [Aa, V.fz, fzL, V.up, upL, Ab, Ac, Ad, slr, List.cons_append, List.nil_append] | simp [Aa, V.fz, fzL, V.up, upL, Ab, Ac, Ad, slr]) h (fun r h => Uq h) (fun r28 h => ?_)
   conv => whnf
   refine Br.flip ?_
   conv => whnf
   refine Br.ob h (fun p29 h => ?_) (fun p29 h => ?_)
   ·conv => whnf
    refine Br.no ?_
    conv => whnf
    refine Br.no ?_
    conv => whnf
    refine CallQ.rd V.bool (by first | rfl | simp only [V.fz, Ab, slr] | simp [Aa, V.fz, fzL, V.up, upL, Ab, Ac, Ad, slr]) (fun _ => rfl) h (fun r h => H4 h) (fun r30 h => ?_)
    conv => whnf
    refine Br.no ?_
    conv => whnf
    refine Br.no ?_
    conv => whnf
    refine Br.flip ?_
    conv => whnf
    refine Br.ob h (fun p31 h => ?_) (fun p31 h => ?_)
    ·conv => whnf
     cases h; exact ⟨rfl, rfl⟩
    conv => whnf
    cases h; exact ⟨rfl, rfl⟩
   conv => whnf
   refine Br.yes ?_
   conv => whnf
   refine Br.yes ?_
   conv => whnf
   refine Br.yes ?_
   conv => whnf
   refine Br.yes ?_
   conv => whnf
   refine Br.yes ?_
   conv => whnf
   cases h; exact ⟨rfl, rfl⟩
  rintro (⟨⟩ | ⟨⟩) h
  ·try dsimp only at h
   conv => whnf
   refine Cells.lit rfl rfl ?_
   conv => whnf
   refine CallQ.o (fun r => V.tup [(slr true 1 Ae) r.1, V.bool r.2]) (by first | rfl | simp only [Aa, V.fz, fzL, V.up, upL, Ab, Ac, Ad, slr, List.cons_append, List.nil_append] | simp [Aa, V.fz, fzL, V.up, upL, Ab, Ac, Ad, slr]) h (fun r h => T3 h) (fun r33 h => ?_)
   conv => whnf
   refine CutQ.o (fun t : (Unit ⊕ Unit) => match t with | (.inl s) => (Ex.normal, [29, 28, 25, 24, 23, 22, 21, 20, 0], [(29, A.val (V.bool (r33.snd))), (28, A.val ((slr true 1 Ae) (r33.fst))), (25, A.val (V.bool (r27.snd))), (24, A.val ((slr true 1 Ae) (r27.fst))), (23, A.val ((slr false 1 Ae) (r26.snd.snd.snd))), (22, A.val (Ae (r26.snd.snd.fst))), (21, A.val ((slr false 1 Ae) (r26.snd.fst))), (20, A.val ((rP true (Ag false)) (r26.fst))), (0, A.val ((slr false 1 (V.int IntKind.u8)) (code0)))]) | (.inr s) => (Ex.ret, [2], [(2, A.val (V.bool (false)))])) h ?_ ?_
   ·intro t h
    conv => whnf
    refine Cells.lit rfl rfl ?_
    conv => whnf
    refine CallQ.o (fun r => V.tup [(slr true 1 Ae) r.1, V.bool r.2]) (by first | rfl | simp only [Aa, V.fz, fzL, V.up, upL, Ab, Ac, Ad, slr, List.cons_append, List.nil_append] | simp [Aa, V.fz, fzL, V.up, upL, Ab, Ac, Ad, slr]) h (fun r h => Ts h) (fun r34 h => ?_)
    conv => whnf
    refine Br.flip ?_
    conv => whnf
    refine Br.ob h (fun p35 h => ?_) (fun p35 h => ?_)
    ·conv => whnf
     refine Br.no ?_
     conv => whnf
     refine Br.no ?_
     conv => whnf
     refine CallQ.rd V.bool (by first | rfl | simp only [V.fz, Ab, slr] | simp [Aa, V.fz, fzL, V.up, upL, Ab, Ac, Ad, slr]) (fun _ => rfl) h (fun r h => H4 h) (fun r36 h => ?_)
     conv => whnf
     refine Br.no ?_
     conv => whnf
     refine Br.no ?_
     conv => whnf
     refine Br.flip ?_
     conv => whnf
     refine Br.ob h (fun p37 h => ?_) (fun p37 h => ?_)
     ·conv => whnf
      cases h; exact ⟨rfl, rfl⟩
     conv => whnf
     cases h; exact ⟨rfl, rfl⟩
    conv => whnf
    refine Br.yes ?_
    conv => whnf
    refine Br.yes ?_
    conv => whnf
    refine Br.yes ?_
    conv => whnf
    refine Br.yes ?_
    conv => whnf
    refine Br.yes ?_
    conv => whnf
    cases h; exact ⟨rfl, rfl⟩
   rintro (⟨⟩ | ⟨⟩) h
   ·try dsimp only at h
    conv => whnf
    refine CutQ.o (fun t : (Unit ⊕ Unit) => match t with | (.inl s) => (Ex.normal, [28, 25, 24, 23, 21, 20, 0], [(28, A.val ((slr true 1 Ae) (r33.fst))), (25, A.val (V.bool (r27.snd))), (24, A.val ((slr true 1 Ae) (r27.fst))), (23, A.val ((slr false 1 Ae) (r26.snd.snd.snd))), (21, A.val ((slr false 1 Ae) (r26.snd.fst))), (20, A.val ((rP true (Ag false)) (r26.fst))), (0, A.val ((slr false 1 (V.int IntKind.u8)) (code0)))]) | (.inr s) => (Ex.ret, [2], [(2, A.val (V.bool (false)))])) h ?_ ?_
    ·intro t h
     conv => whnf
     refine Br.ob h (fun p39 h => ?_) (fun p39 h => ?_)
     ·conv => whnf
      refine Cells.lit rfl rfl ?_
      conv => whnf
      refine CallQ.rd (fun r => V.tup [(slr true 1 Ae) r.1, V.bool r.2]) (by first | rfl | simp only [V.fz, fzL, V.up, Ab, Ad, slr] | simp [Aa, V.fz, fzL, V.up, upL, Ab, Ac, Ad, slr]) (fun _ => by simp [V.noFz, B3, B1]) h (fun r h => Ma h) (fun r40 h => ?_)
      conv => whnf
      refine Br.flip ?_
      conv => whnf
      refine Br.ob h (fun p41 h => ?_) (fun p41 h => ?_)
      ·conv => whnf
       refine Br.no ?_
       conv => whnf
       refine Br.no ?_
       conv => whnf
       refine CallQ.rd V.bool (by first | rfl | simp only [V.fz, V.up, Ab, slr] | simp [Aa, V.fz, fzL, V.up, upL, Ab, Ac, Ad, slr]) (fun _ => rfl) h (fun r h => H4 h) (fun r42 h => ?_)
       conv => whnf
       refine Br.no ?_
       conv => whnf
       refine Br.no ?_
       conv => whnf
       refine Br.flip ?_
       conv => whnf
       refine Br.ob h (fun p43 h => ?_) (fun p43 h => ?_)
       ·conv => whnf
        cases h; exact ⟨rfl, rfl⟩
       conv => whnf
       cases h; exact ⟨rfl, rfl⟩
      conv => whnf
      refine Br.yes ?_
      conv => whnf
      refine Br.yes ?_
      conv => whnf
      refine Br.yes ?_
      conv => whnf
      refine Br.yes ?_
      conv => whnf
      refine Br.yes ?_
      conv => whnf
      cases h; exact ⟨rfl, rfl⟩
     conv => whnf
     cases h; exact ⟨rfl, rfl⟩
    rintro (⟨⟩ | ⟨⟩) h
    ·try dsimp only at h
     conv => whnf
     refine Cells.lit rfl rfl ?_
     conv => whnf
     refine CallQ.o (slr true 1 Ae) (by first | rfl | simp only [Aa, V.fz, fzL, V.up, upL, Ab, Ac, Ad, slr, List.cons_append, List.nil_append] | simp [Aa, V.fz, fzL, V.up, upL, Ab, Ac, Ad, slr]) h (fun r h => Pg h) (fun r45 h => ?_)
     conv => whnf
     refine CutQ.o (fun t : (Unit ⊕ Unit) => match t with | (.inl s) => (Ex.ret, [2], [(2, A.val (V.bool (false)))]) | (.inr s) => (Ex.normal, [21, 20], [(21, A.val ((slr false 1 Ae) (r26.snd.fst))), (20, A.val ((rP true (Ag false)) (r26.fst)))])) h ?_ ?_
     ·intro t h
      conv => whnf
      refine Br.ob h (fun p46 h => ?_) (fun p46 h => ?_)
      ·conv => whnf
       refine Cells.lit rfl rfl ?_
       conv => whnf
       refine CallQ.rd (fun r => V.tup [Ae r.1, V.bool r.2]) (by first | rfl | simp only [V.fz, fzL, Ab, slr] | simp [Aa, V.fz, fzL, V.up, upL, Ab, Ac, Ad, slr]) (fun _ => by simp [V.noFz, B3]) h (fun r h => Dl h) (fun r47 h => ?_)
       conv => whnf
       refine Cells.lit rfl rfl ?_
       conv => whnf
       refine CallQ.rd (fun r => V.tup [Ae r.1, V.bool r.2]) (by first | rfl | simp only [V.fz, fzL, V.up, Ab, slr] | simp [Aa, V.fz, fzL, V.up, upL, Ab, Ac, Ad, slr]) (fun _ => by simp [V.noFz, B3]) h (fun r h => Dl h) (fun r48 h => ?_)
       conv => whnf
       refine Cells.lit rfl rfl ?_
       conv => whnf
       refine CallQ.rd (fun r => V.tup [Ae r.1, V.bool r.2]) (by first | rfl | simp only [V.fz, fzL, V.up, Ab, slr] | simp [Aa, V.fz, fzL, V.up, upL, Ab, Ac, Ad, slr]) (fun _ => by simp [V.noFz, B3]) h (fun r h => Dl h) (fun r49 h => ?_)
       conv => whnf
       refine Cells.lit rfl rfl ?_
       conv => whnf
       refine CallQ.rd (fun r => V.tup [Ae r.1, V.bool r.2]) (by first | rfl | simp only [V.fz, fzL, Ab, slr] | simp [Aa, V.fz, fzL, V.up, upL, Ab, Ac, Ad, slr]) (fun _ => by simp [V.noFz, B3]) h (fun r h => Dl h) (fun r50 h => ?_)
       conv => whnf
       refine Br.ob h (fun p51 h => ?_) (fun p51 h => ?_)
       ·conv => whnf
        refine Br.yes ?_
        conv => whnf
        refine Br.ob h (fun p52 h => ?_) (fun p52 h => ?_)
        ·conv => whnf
         refine Br.yes ?_
         conv => whnf
         refine Br.ob h (fun p53 h => ?_) (fun p53 h => ?_)
         ·conv => whnf
          refine Br.yes ?_
          conv => whnf
          refine Br.yes ?_
          conv => whnf
          refine Br.yes ?_
          conv => whnf
          refine Br.oe h (fun p54 h => ?_) (fun p54 h => ?_)
          ·conv => whnf
           refine Br.yes ?_
           conv => whnf
           refine Br.yes ?_
           conv => whnf
           refine Br.flip ?_
           conv => whnf
           refine Br.ob h (fun p55 h => ?_) (fun p55 h => ?_)
           ·conv => whnf
            refine Br.no ?_
            conv => whnf
            refine Br.no ?_
            conv => whnf
            refine Br.yes ?_
            conv => whnf
            refine Br.no ?_
            conv => whnf
            refine Br.yes ?_
            conv => whnf
            refine Br.on h (fun p56 h => ?_) (fun p56 h => ?_)
            ·conv => whnf
             cases h; exact ⟨rfl, rfl⟩
            conv => whnf
            cases h; exact ⟨rfl, rfl⟩
           conv => whnf
           refine Br.yes ?_
           conv => whnf
           refine Br.yes ?_
           conv => whnf
           refine Br.yes ?_
           conv => whnf
           refine Br.yes ?_
           conv => whnf
           refine Br.yes ?_
           conv => whnf
           refine Br.yes ?_
           conv => whnf
           cases h; exact ⟨rfl, rfl⟩
          conv => whnf
          refine Br.no ?_
          conv => whnf
          refine Br.no ?_
          conv => whnf
          refine Br.no ?_
          conv => whnf
          refine Br.no ?_
          conv => whnf
          refine Br.no ?_
          conv => whnf
          cases h; exact ⟨rfl, rfl⟩
         conv => whnf
         refine Br.no ?_
         conv => whnf
         refine Br.no ?_
         conv => whnf
         refine Br.no ?_
         conv => whnf
         refine Br.no ?_
         conv => whnf
         refine Br.no ?_
         conv => whnf
         refine Br.no ?_
         conv => whnf
         refine Br.no ?_
         conv => whnf
         refine Br.no ?_
         conv => whnf
         refine Br.no ?_
         conv => whnf
         cases h; exact ⟨rfl, rfl⟩
        conv => whnf
        refine Br.no ?_
        conv => whnf
        refine Br.no ?_
        conv => whnf
        refine Br.no ?_
        conv => whnf
        refine Br.no ?_
        conv => whnf
        refine Br.no ?_
        conv => whnf
        refine Br.no ?_
        conv => whnf
        refine Br.no ?_
        conv => whnf
        refine Br.no ?_
        conv => whnf
        refine Br.no ?_
        conv => whnf
        refine Br.no ?_
        conv => whnf
        refine Br.no ?_
        conv => whnf
        cases h; exact ⟨rfl, rfl⟩
       conv => whnf
       refine Br.no ?_
       conv => whnf
       refine Br.no ?_
       conv => whnf
       refine Br.no ?_
       conv => whnf
       refine Br.no ?_
       conv => whnf
       refine Br.no ?_
       conv => whnf
       refine Br.no ?_
       conv => whnf
       refine Br.no ?_
       conv => whnf
       refine Br.no ?_
       conv => whnf
       refine Br.no ?_
       conv => whnf
       refine Br.no ?_
       conv => whnf
       refine Br.no ?_
       conv => whnf
       refine Br.no ?_
       conv => whnf
       refine Br.no ?_
       conv => whnf
       cases h; exact ⟨rfl, rfl⟩
      conv => whnf
      cases h; exact ⟨rfl, rfl⟩
     rintro (⟨⟩ | ⟨⟩) h
     ·try dsimp only at h
      conv => whnf
      cases h; exact (by first | rfl | simp only [Ah, Aa, V.fz, fzL, V.up, upL, Ab, Ac, Ad, slr] | simp [Ah, Aa, V.fz, fzL, V.up, upL, Ab, Ac, Ad, slr])
     try dsimp only at h
     conv => whnf
     refine Cells.lit rfl rfl ?_
     conv => whnf
     refine CallQ.o (fun r => V.tup [Ae r.1, V.bool r.2]) (by first | rfl | simp only [Aa, V.fz, fzL, V.up, upL, Ab, Ac, Ad, slr, List.cons_append, List.nil_append] | simp [Aa, V.fz, fzL, V.up, upL, Ab, Ac, Ad, slr]) h (fun r h => Yl h) (fun r58 h => ?_)
     conv => whnf
     refine CutQ.o (fun t : (Unit ⊕ Unit) => match t with | (.inl s) => (Ex.ret, [2], [(2, A.val (V.bool (false)))]) | (.inr s) => (Ex.normal, [21, 20], [(21, A.val ((slr false 1 Ae) (r26.snd.fst))), (20, A.val ((rP true (Ag false)) (r26.fst)))])) h ?_ ?_
     ·intro t h
      conv => whnf
      refine Cells.lit rfl rfl ?_
      conv => whnf
      refine CallQ.o (fun r => V.tup [Ae r.1, V.bool r.2]) (by first | rfl | simp only [Aa, V.fz, fzL, V.up, upL, Ab, Ac, Ad, slr, List.cons_append, List.nil_append] | simp [Aa, V.fz, fzL, V.up, upL, Ab, Ac, Ad, slr]) h (fun r h => X9 h) (fun r59 h => ?_)
      conv => whnf
      refine Br.on h (fun p60 h => ?_) (fun p60 h => ?_)
      ·conv => whnf
       refine Br.yes ?_
       conv => whnf
       refine Br.yes ?_
       conv => whnf
       refine Br.yes ?_
       conv => whnf
       refine Br.yes ?_
       conv => whnf
       refine Br.yes ?_
       conv => whnf
       refine Br.yes ?_
       conv => whnf
       refine Br.yes ?_
       conv => whnf
       refine Br.yes ?_
       conv => whnf
       refine Br.yes ?_
       conv => whnf
       refine Br.yes ?_
       conv => whnf
       cases h; exact ⟨rfl, rfl⟩
      conv => whnf
      refine Br.no ?_
      conv => whnf
      refine Br.no ?_
      conv => whnf
      refine Br.no ?_
      conv => whnf
      refine Br.flip ?_
      conv => whnf
      refine Br.ob h (fun p61 h => ?_) (fun p61 h => ?_)
      ·conv => whnf
       refine Br.no ?_
       conv => whnf
       refine Cells.lit rfl rfl ?_
       conv => whnf
       refine Br.no ?_
       conv => whnf
       refine Br.no ?_
       conv => whnf
       refine CallQ.o V.bool (by first | rfl | simp only [Aa, V.fz, fzL, V.up, upL, Ab, Ac, Ad, slr, List.cons_append, List.nil_append] | simp [Aa, V.fz, fzL, V.up, upL, Ab, Ac, Ad, slr]) h (fun r h => Ek h) (fun r62 h => ?_)
       conv => whnf
       refine Br.no ?_
       conv => whnf
       refine Br.no ?_
       conv => whnf
       refine Br.flip ?_
       conv => whnf
       refine Br.ob h (fun p63 h => ?_) (fun p63 h => ?_)
       ·conv => whnf
        cases h; exact ⟨rfl, rfl⟩
       conv => whnf
       cases h; exact ⟨rfl, rfl⟩
      conv => whnf
      refine Br.yes ?_
      conv => whnf
      refine Br.yes ?_
      conv => whnf
      refine Br.yes ?_
      conv => whnf
      refine Br.yes ?_
      conv => whnf
      refine Br.yes ?_
      conv => whnf
      refine Br.yes ?_
      conv => whnf
      cases h; exact ⟨rfl, rfl⟩
     rintro (⟨⟩ | ⟨⟩) h
     ·try dsimp only at h
      conv => whnf
      cases h; exact (by first | rfl | simp only [Ah, Aa, V.fz, fzL, V.up, upL, Ab, Ac, Ad, slr] | simp [Ah, Aa, V.fz, fzL, V.up, upL, Ab, Ac, Ad, slr])
     try dsimp only at h
     conv => whnf
     refine Cells.lit rfl rfl ?_
     conv => whnf
     refine CallQ.o (fun r => V.tup [(slr true 1 Ae) r.1, V.bool r.2]) (by first | rfl | simp only [Aa, V.fz, fzL, V.up, upL, Ab, Ac, Ad, slr, List.cons_append, List.nil_append] | simp [Aa, V.fz, fzL, V.up, upL, Ab, Ac, Ad, slr]) h (fun r h => Zv h) (fun r65 h => ?_)
     conv => whnf
     refine Cells.lit rfl rfl ?_
     conv => whnf
     refine CallQ.o (fun r => V.tup [(slr false 1 Ae) r.1, V.bool r.2]) (by first | rfl | simp only [Aa, V.fz, fzL, V.up, upL, Ab, Ac, Ad, slr, List.cons_append, List.nil_append] | simp [Aa, V.fz, fzL, V.up, upL, Ab, Ac, Ad, slr]) h (fun r h => Zt h) (fun r66 h => ?_)
     conv => whnf
     refine Br.ob h (fun p67 h => ?_) (fun p67 h => ?_)
     ·conv => whnf
      refine Br.yes ?_
      conv => whnf
      refine Br.yes ?_
      conv => whnf
      refine CallQ.rd V.bool (by first | rfl | simp only [V.fz, V.up, Ab, slr] | simp [Aa, V.fz, fzL, V.up, upL, Ab, Ac, Ad, slr]) (fun _ => rfl) h (fun r h => H4 h) (fun r68 h => ?_)
      conv => whnf
      refine Br.yes ?_
      conv => whnf
      cases h; exact (by first | rfl | simp only [Ah, Aa, V.fz, fzL, V.up, upL, Ab, Ac, Ad, slr] | simp [Ah, Aa, V.fz, fzL, V.up, upL, Ab, Ac, Ad, slr])
     conv => whnf
     refine Br.no ?_
     conv => whnf
     refine Br.no ?_
     conv => whnf
     refine Br.no ?_
     conv => whnf
     cases h; exact (by first | rfl | simp only [Ah, Aa, V.fz, fzL, V.up, upL, Ab, Ac, Ad, slr] | simp [Ah, Aa, V.fz, fzL, V.up, upL, Ab, Ac, Ad, slr])
    try dsimp only at h
    conv => whnf
    cases h; exact (by first | rfl | simp only [Ah, Aa, V.fz, fzL, V.up, upL, Ab, Ac, Ad, slr] | simp [Ah, Aa, V.fz, fzL, V.up, upL, Ab, Ac, Ad, slr])
   try dsimp only at h
   conv => whnf
   cases h; exact (by first | rfl | simp only [Ah, Aa, V.fz, fzL, V.up, upL, Ab, Ac, Ad, slr] | simp [Ah, Aa, V.fz, fzL, V.up, upL, Ab, Ac, Ad, slr])
  try dsimp only at h
  conv => whnf
  cases h; exact (by first | rfl | simp only [Ah, Aa, V.fz, fzL, V.up, upL, Ab, Ac, Ad, slr] | simp [Ah, Aa, V.fz, fzL, V.up, upL, Ab, Ac, Ad, slr])
 try dsimp only at h
 conv => whnf
 cases h; exact (by first | rfl | simp only [Ah, Aa, V.fz, fzL, V.up, upL, Ab, Ac, Ad, slr] | simp [Ah, Aa, V.fz, fzL, V.up, upL, Ab, Ac, Ad, slr])
end Go.Proofs.Ytjinhobffbppbaa.Ax
