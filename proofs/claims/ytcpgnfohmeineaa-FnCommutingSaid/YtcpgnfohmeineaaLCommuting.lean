/-
 What the functions compute, as functions on plain data, and that the program does compute it; written by program.
-/
import Derived.Test.YtcpgnfohmeineaaCode
import Derived.Test.YtcpgnfohmeineaaG1
import Derived.Test.YtcpgnfohmeineaaG2
import Derived.Test.YtcpgnfohmeineaaG5
import Derived.Test.YtcpgnfohmeineaaG6
import Derived.Test.YtcpgnfohmeineaaG10
namespace Go.Proofs.Ytcpgnfohmeineaa.Ax
open Go
set_option maxRecDepth 100000
set_option maxHeartbeats 4000000
noncomputable def E9 (code0 : (List Int)) : Option Bool :=
 (N3 (code0)).bind fun r1 =>
 if (r1) = true then
 some true
 else
 (Di (code0)).bind fun r3 =>
 (Cj (r3.fst) (r3.snd.fst) (r3.snd.snd)).bind fun r4 =>
 (((Da (r3.fst) (r3.snd.fst) (r3.snd.snd)).bind fun r5 =>
 if (r4.fst == r5.fst) = true then
 if (r4.snd == r5.snd) = true then
 some (.inl ())
 else
 some (.inr ())
 else
 some (.inr ()) : Option (Unit ⊕ Unit))).bind fun t => match t with
 | (.inl _) => ((((Cj (r3.fst) (r3.snd.snd) (r3.snd.fst)).bind fun r9 =>
 if (r9.snd == r4.snd) = true then
 if (r9.fst == r4.fst) = true then
 some (.inl ())
 else
 some (.inr ())
 else
 some (.inr ()) : Option (Unit ⊕ Unit))).bind fun t => match t with
 | (.inl _) => (((((if (r4.snd) = true then
 some (r3.snd.fst.Arity == (1 : Int))
 else
 some false : Option Bool)).bind fun q14_73 =>
 if (q14_73) = true then
 (In ({ Size := r3.fst, Ops := [r3.snd.snd] }) ({ Size := r3.fst, Ops := [r3.snd.snd] }) (r3.snd.fst.Table)).bind fun r16 =>
 (I5 ({ Size := r3.fst, Ops := [r3.snd.snd] }) ({ Size := r3.fst, Ops := [r3.snd.snd] }) (r3.snd.fst.Table)).bind fun r17 =>
 if (r16.fst == r17.fst) = true then
 if (r16.snd == r17.snd) = true then
 if (r16.snd) = true then
 if (r16.fst == r4.fst) = true then
 some (.inl ())
 else
 some (.inr ())
 else
 some (.inr ())
 else
 some (.inr ())
 else
 some (.inr ())
 else
 some (.inl ()) : Option (Unit ⊕ Unit))).bind fun t => match t with
 | (.inl _) => (((if (r4.snd) = true then
 if r3.snd.fst.Arity ≥ (1 : Int) then
 some (decide (r3.fst ≤ (3 : Int)))
 else
 some false
 else
 some false : Option Bool)).bind fun q25_120 =>
 if (q25_120) = true then
 (Fw (r3.fst) (r3.snd.snd)).bind fun r27 =>
 (((F8 (r3.fst) (r3.snd.snd)).bind fun r28 =>
 if (r27.snd == r28.snd) = true then
 if (r27.snd) = true then
 if r27.fst.Arity ≠ r28.fst.Arity then
 some (.inl ())
 else
 (Hg (r27.fst.Tuples) (r28.fst.Tuples)).bind fun r32 =>
 if (r32) = true then
 some (.inr ())
 else
 some (.inl ())
 else
 some (.inr ())
 else
 some (.inl ()) : Option (Unit ⊕ Unit))).bind fun t => match t with
 | (.inl _) => (some false)
 | (.inr _) => (if (r27.snd) = true then
 (Fi (r3.fst) (r3.snd.fst) (r27.fst)).bind fun r36 =>
 if (r36.snd) = true then
 if (r36.fst == r4.fst) = true then
 some true
 else
 some false
 else
 some true
 else
 some true)
 else
 some true)
 | (.inr _) => (some false))
 | (.inr _) => (some false))
 | (.inr _) => (some false)
theorem T7 {code0 : (List Int)} {v : Bool} (h : E9 code0 = some v) : Ret Try.prog Mo [(slr false 1 (V.int IntKind.u8)) code0] (V.bool v) := by
 refine A5 Ub (Nat.le_of_ble_eq_true rfl) ?_
 unfold E9 at h
 conv => whnf
 refine CallQ.o V.bool (by first | rfl | simp only [Aa, V.fz, fzL, V.up, upL, Ab, Ac, Ad, slr, List.cons_append, List.nil_append] | simp [Aa, V.fz, fzL, V.up, upL, Ab, Ac, Ad, slr]) h (fun r h => Aim h) (fun r1 h => ?_)
 conv => whnf
 refine Br.ob h (fun p2 h => ?_) (fun p2 h => ?_)
 ·conv => whnf
  cases h; exact (by first | rfl | simp only [Ah, Aa, V.fz, fzL, V.up, upL, Ab, Ac, Ad, slr] | simp [Ah, Aa, V.fz, fzL, V.up, upL, Ab, Ac, Ad, slr])
 conv => whnf
 refine CallQ.o (fun r => V.tup [Af r.1, (Aj false) r.2.1, (Aj false) r.2.2]) (by first | rfl | simp only [Aa, V.fz, fzL, V.up, upL, Ab, Ac, Ad, slr, List.cons_append, List.nil_append] | simp [Aa, V.fz, fzL, V.up, upL, Ab, Ac, Ad, slr]) h (fun r h => Rb h) (fun r3 h => ?_)
 conv => whnf
 refine SetKids.lit rfl ?_
 conv => whnf
 refine SetKids.lit rfl ?_
 conv => whnf
 refine Cells.lit rfl rfl ?_
 conv => whnf
 refine Cells.lit rfl rfl ?_
 conv => whnf
 refine CallQ.o (fun r => V.tup [V.bool r.1, V.bool r.2]) (by first | rfl | simp only [Aa, V.fz, fzL, V.up, upL, Ab, Ac, Ad, slr, List.cons_append, List.nil_append] | simp [Aa, V.fz, fzL, V.up, upL, Ab, Ac, Ad, slr]) h (fun r h => O6 h) (fun r4 h => ?_)
 conv => whnf
 refine CutQ.o (fun t : (Unit ⊕ Unit) => match t with | (.inl s) => (Ex.normal, [7, 6, 3, 5, 4], [(7, A.val (V.bool (r4.snd))), (6, A.val (V.bool (r4.fst))), (3, A.val (Af (r3.fst))), (5, A.val ((rP true (Aj false)) (r3.snd.snd))), (4, A.val ((rP true (Aj false)) (r3.snd.fst)))]) | (.inr s) => (Ex.ret, [2], [(2, A.val (V.bool (false)))])) h ?_ ?_
 ·intro t h
  conv => whnf
  refine Cells.lit rfl rfl ?_
  conv => whnf
  refine Cells.lit rfl rfl ?_
  conv => whnf
  refine CallQ.o (fun r => V.tup [V.bool r.1, V.bool r.2]) (by first | rfl | simp only [Aa, V.fz, fzL, V.up, upL, Ab, Ac, Ad, slr, List.cons_append, List.nil_append] | simp [Aa, V.fz, fzL, V.up, upL, Ab, Ac, Ad, slr]) h (fun r h => Wt h) (fun r5 h => ?_)
  conv => whnf
  refine Br.flip ?_
  conv => whnf
  refine Br.ob h (fun p6 h => ?_) (fun p6 h => ?_)
  ·conv => whnf
   refine Br.no ?_
   conv => whnf
   refine Br.no ?_
   conv => whnf
   refine Br.no ?_
   conv => whnf
   refine Br.flip ?_
   conv => whnf
   refine Br.ob h (fun p7 h => ?_) (fun p7 h => ?_)
   ·conv => whnf
    cases h; exact ⟨rfl, rfl⟩
   conv => whnf
   cases h; exact ⟨rfl, rfl⟩
  conv => whnf
  refine Br.yes ?_
  conv => whnf
  refine Br.yes ?_
  conv => whnf
  refine Br.yes ?_
  conv => whnf
  refine Br.yes ?_
  conv => whnf
  cases h; exact ⟨rfl, rfl⟩
 rintro (⟨⟩ | ⟨⟩) h
 ·try dsimp only at h
  conv => whnf
  refine CutQ.o (fun t : (Unit ⊕ Unit) => match t with | (.inl s) => (Ex.normal, [7, 6, 3, 5, 4], [(7, A.val (V.bool (r4.snd))), (6, A.val (V.bool (r4.fst))), (3, A.val (Af (r3.fst))), (5, A.val ((rP true (Aj false)) (r3.snd.snd))), (4, A.val ((rP true (Aj false)) (r3.snd.fst)))]) | (.inr s) => (Ex.ret, [2], [(2, A.val (V.bool (false)))])) h ?_ ?_
  ·intro t h
   conv => whnf
   refine Cells.lit rfl rfl ?_
   conv => whnf
   refine Cells.lit rfl rfl ?_
   conv => whnf
   refine CallQ.o (fun r => V.tup [V.bool r.1, V.bool r.2]) (by first | rfl | simp only [Aa, V.fz, fzL, V.up, upL, Ab, Ac, Ad, slr, List.cons_append, List.nil_append] | simp [Aa, V.fz, fzL, V.up, upL, Ab, Ac, Ad, slr]) h (fun r h => O6 h) (fun r9 h => ?_)
   conv => whnf
   refine Br.flip ?_
   conv => whnf
   refine Br.ob h (fun p10 h => ?_) (fun p10 h => ?_)
   ·conv => whnf
    refine Br.no ?_
    conv => whnf
    refine Br.no ?_
    conv => whnf
    refine Br.no ?_
    conv => whnf
    refine Br.flip ?_
    conv => whnf
    refine Br.ob h (fun p11 h => ?_) (fun p11 h => ?_)
    ·conv => whnf
     cases h; exact ⟨rfl, rfl⟩
    conv => whnf
    cases h; exact ⟨rfl, rfl⟩
   conv => whnf
   refine Br.yes ?_
   conv => whnf
   refine Br.yes ?_
   conv => whnf
   refine Br.yes ?_
   conv => whnf
   refine Br.yes ?_
   conv => whnf
   cases h; exact ⟨rfl, rfl⟩
  rintro (⟨⟩ | ⟨⟩) h
  ·try dsimp only at h
   conv => whnf
   refine CutQ.o (fun t : (Unit ⊕ Unit) => match t with | (.inl s) => (Ex.normal, [7, 6, 3, 5, 4], [(7, A.val (V.bool (r4.snd))), (6, A.val (V.bool (r4.fst))), (3, A.val (Af (r3.fst))), (5, A.val ((rP true (Aj false)) (r3.snd.snd))), (4, A.val ((rP true (Aj false)) (r3.snd.fst)))]) | (.inr s) => (Ex.ret, [2], [(2, A.val (V.bool (false)))])) h ?_ ?_
   ·intro t h
    conv => whnf
    refine CutQ.o (fun t : Bool => match t with | s => (Ex.normal, [73, 7, 6, 3, 5, 4], [(73, A.val (V.bool s)), (7, A.val (V.bool (r4.snd))), (6, A.val (V.bool (r4.fst))), (3, A.val (Af (r3.fst))), (5, A.val ((rP true (Aj false)) (r3.snd.snd))), (4, A.val ((rP true (Aj false)) (r3.snd.fst)))])) h ?_ ?_
    ·intro t h
     conv => whnf
     refine Br.ob h (fun p13 h => ?_) (fun p13 h => ?_)
     ·conv => whnf
      refine Br.yes ?_
      conv => whnf
      refine Cells.lit rfl rfl ?_
      conv => whnf
      refine Br.yes ?_
      conv => whnf
      refine Br.yes ?_
      conv => whnf
      cases h; exact ⟨rfl, rfl⟩
     conv => whnf
     refine Br.no ?_
     conv => whnf
     refine Br.no ?_
     conv => whnf
     refine Br.no ?_
     conv => whnf
     cases h; exact ⟨rfl, rfl⟩
    rintro q14_73 h
    try dsimp only at h
    conv => whnf
    refine Br.ob h (fun p15 h => ?_) (fun p15 h => ?_)
    ·conv => whnf
     refine Cells.lit rfl rfl ?_
     conv => whnf
     refine BslQ.o (Aj false) [r3.snd.snd] (by exact fun _ => ⟨rfl, rfl⟩) (by first | rfl | simp only [Aa, V.fz, fzL, V.up, upL, Ab, Ac, Ad, slr, List.cons_append, List.nil_append] | simp [Aa, V.fz, fzL, V.up, upL, Ab, Ac, Ad, slr]) ?_
     conv => whnf
     refine SetKids.lit rfl ?_
     conv => whnf
     refine Cells.lit rfl rfl ?_
     conv => whnf
     refine Cells.lit rfl rfl ?_
     conv => whnf
     refine Cells.lit rfl rfl ?_
     conv => whnf
     refine CallQ.rd (fun r => V.tup [V.bool r.1, V.bool r.2]) (by first | rfl | simp only [Aa, V.fz, fzL, V.up, upL, Ab, Ac, Ad, slr, List.cons_append, List.nil_append] | simp [Aa, V.fz, fzL, V.up, upL, Ab, Ac, Ad, slr]) (fun _ => by simp [V.noFz, Bx]) h (fun r h => Ae0 h) (fun r16 h => ?_)
     conv => whnf
     refine Cells.lit rfl rfl ?_
     conv => whnf
     refine Cells.lit rfl rfl ?_
     conv => whnf
     refine Cells.lit rfl rfl ?_
     conv => whnf
     refine CallQ.rd (fun r => V.tup [V.bool r.1, V.bool r.2]) (by first | rfl | simp only [Aa, V.fz, fzL, V.up, upL, Ab, Ac, Ad, slr, List.cons_append, List.nil_append] | simp [Aa, V.fz, fzL, V.up, upL, Ab, Ac, Ad, slr]) (fun _ => by simp [V.noFz, Bx]) h (fun r h => Agj h) (fun r17 h => ?_)
     conv => whnf
     refine Br.flip ?_
     conv => whnf
     refine Br.ob h (fun p18 h => ?_) (fun p18 h => ?_)
     ·conv => whnf
      refine Br.no ?_
      conv => whnf
      refine Br.no ?_
      conv => whnf
      refine Br.no ?_
      conv => whnf
      refine Br.flip ?_
      conv => whnf
      refine Br.ob h (fun p19 h => ?_) (fun p19 h => ?_)
      ·conv => whnf
       refine Br.no ?_
       conv => whnf
       refine Br.no ?_
       conv => whnf
       refine Br.flip ?_
       conv => whnf
       refine Br.ob h (fun p20 h => ?_) (fun p20 h => ?_)
       ·conv => whnf
        refine Br.no ?_
        conv => whnf
        refine Br.no ?_
        conv => whnf
        refine Br.no ?_
        conv => whnf
        refine Br.flip ?_
        conv => whnf
        refine Br.ob h (fun p21 h => ?_) (fun p21 h => ?_)
        ·conv => whnf
         cases h; exact ⟨rfl, rfl⟩
        conv => whnf
        cases h; exact ⟨rfl, rfl⟩
       conv => whnf
       refine Br.yes ?_
       conv => whnf
       refine Br.yes ?_
       conv => whnf
       refine Br.yes ?_
       conv => whnf
       refine Br.yes ?_
       conv => whnf
       cases h; exact ⟨rfl, rfl⟩
      conv => whnf
      refine Br.yes ?_
      conv => whnf
      refine Br.yes ?_
      conv => whnf
      refine Br.yes ?_
      conv => whnf
      refine Br.yes ?_
      conv => whnf
      refine Br.yes ?_
      conv => whnf
      refine Br.yes ?_
      conv => whnf
      refine Br.yes ?_
      conv => whnf
      cases h; exact ⟨rfl, rfl⟩
     conv => whnf
     refine Br.yes ?_
     conv => whnf
     refine Br.yes ?_
     conv => whnf
     refine Br.yes ?_
     conv => whnf
     refine Br.yes ?_
     conv => whnf
     refine Br.yes ?_
     conv => whnf
     refine Br.yes ?_
     conv => whnf
     refine Br.yes ?_
     conv => whnf
     refine Br.yes ?_
     conv => whnf
     refine Br.yes ?_
     conv => whnf
     refine Br.yes ?_
     conv => whnf
     refine Br.yes ?_
     conv => whnf
     cases h; exact ⟨rfl, rfl⟩
    conv => whnf
    cases h; exact ⟨rfl, rfl⟩
   rintro (⟨⟩ | ⟨⟩) h
   ·try dsimp only at h
    conv => whnf
    refine CutQ.o (fun t : Bool => match t with | s => (Ex.normal, [120, 6, 3, 5, 4], [(120, A.val (V.bool s)), (6, A.val (V.bool (r4.fst))), (3, A.val (Af (r3.fst))), (5, A.val ((rP true (Aj false)) (r3.snd.snd))), (4, A.val ((rP true (Aj false)) (r3.snd.fst)))])) h ?_ ?_
    ·intro t h
     conv => whnf
     refine Br.ob h (fun p23 h => ?_) (fun p23 h => ?_)
     ·conv => whnf
      refine Br.yes ?_
      conv => whnf
      refine Cells.lit rfl rfl ?_
      conv => whnf
      refine Br.yes ?_
      conv => whnf
      refine Br.yes ?_
      conv => whnf
      refine Br.od h (fun p24 h => ?_) (fun p24 h => ?_)
      ·conv => whnf
       refine Br.yes ?_
       conv => whnf
       refine Br.yes ?_
       conv => whnf
       cases h; exact ⟨rfl, rfl⟩
      conv => whnf
      refine Br.no ?_
      conv => whnf
      refine Br.no ?_
      conv => whnf
      cases h; exact ⟨rfl, rfl⟩
     conv => whnf
     refine Br.no ?_
     conv => whnf
     refine Br.no ?_
     conv => whnf
     refine Br.no ?_
     conv => whnf
     refine Br.no ?_
     conv => whnf
     refine Br.no ?_
     conv => whnf
     refine Br.no ?_
     conv => whnf
     cases h; exact ⟨rfl, rfl⟩
    rintro q25_120 h
    try dsimp only at h
    conv => whnf
    refine Br.ob h (fun p26 h => ?_) (fun p26 h => ?_)
    ·conv => whnf
     refine Cells.lit rfl rfl ?_
     conv => whnf
     refine CallQ.o (fun r => V.tup [(Am true) r.1, V.bool r.2]) (by first | rfl | simp only [Aa, V.fz, fzL, V.up, upL, Ab, Ac, Ad, slr, List.cons_append, List.nil_append] | simp [Aa, V.fz, fzL, V.up, upL, Ab, Ac, Ad, slr]) h (fun r h => Aad h) (fun r27 h => ?_)
     conv => whnf
     refine SetKids.lit rfl ?_
     conv => whnf
     refine CutQ.o (fun t : (Unit ⊕ Unit) => match t with | (.inl s) => (Ex.ret, [2], [(2, A.val (V.bool (false)))]) | (.inr s) => (Ex.normal, [18, 17, 6, 3, 4], [(18, A.val (V.bool (r27.snd))), (17, A.val ((rP true (Am true)) (r27.fst))), (6, A.val (V.bool (r4.fst))), (3, A.val (Af (r3.fst))), (4, A.val ((rP true (Aj false)) (r3.snd.fst)))])) h ?_ ?_
     ·intro t h
      conv => whnf
      refine Cells.lit rfl rfl ?_
      conv => whnf
      refine CallQ.o (fun r => V.tup [(Am true) r.1, V.bool r.2]) (by first | rfl | simp only [Aa, V.fz, fzL, V.up, upL, Ab, Ac, Ad, slr, List.cons_append, List.nil_append] | simp [Aa, V.fz, fzL, V.up, upL, Ab, Ac, Ad, slr]) h (fun r h => Abl h) (fun r28 h => ?_)
      conv => whnf
      refine SetKids.lit rfl ?_
      conv => whnf
      refine Br.flip ?_
      conv => whnf
      refine Br.ob h (fun p29 h => ?_) (fun p29 h => ?_)
      ·conv => whnf
       refine Br.no ?_
       conv => whnf
       refine Br.ob h (fun p30 h => ?_) (fun p30 h => ?_)
       ·conv => whnf
        refine Br.yes ?_
        conv => whnf
        refine Cells.lit rfl rfl ?_
        conv => whnf
        refine Br.yes ?_
        conv => whnf
        refine Br.yes ?_
        conv => whnf
        refine Cells.lit rfl rfl ?_
        conv => whnf
        refine Br.yes ?_
        conv => whnf
        refine Br.yes ?_
        conv => whnf
        refine Br.on h (fun p31 h => ?_) (fun p31 h => ?_)
        ·conv => whnf
         refine Br.yes ?_
         conv => whnf
         refine Br.yes ?_
         conv => whnf
         refine Br.yes ?_
         conv => whnf
         refine Br.yes ?_
         conv => whnf
         refine Br.yes ?_
         conv => whnf
         refine Br.yes ?_
         conv => whnf
         refine Br.yes ?_
         conv => whnf
         refine Br.no ?_
         conv => whnf
         refine Br.yes ?_
         conv => whnf
         refine Br.no ?_
         conv => whnf
         refine Br.yes ?_
         conv => whnf
         cases h; exact ⟨rfl, rfl⟩
        conv => whnf
        refine Br.no ?_
        conv => whnf
        refine Cells.lit rfl rfl ?_
        conv => whnf
        refine Br.no ?_
        conv => whnf
        refine Br.no ?_
        conv => whnf
        refine Cells.lit rfl rfl ?_
        conv => whnf
        refine Br.no ?_
        conv => whnf
        refine Kid.lit rfl rfl ?_
        conv => whnf
        refine Kid.lit rfl rfl ?_
        conv => whnf
        refine CallQ.rd V.bool (by first | rfl | simp only [V.fz, Ab, slr] | simp [Aa, V.fz, fzL, V.up, upL, Ab, Ac, Ad, slr]) (fun _ => rfl) h (fun r h => Ac2 h) (fun r32 h => ?_)
        conv => whnf
        refine Br.no ?_
        conv => whnf
        refine Br.yes ?_
        conv => whnf
        refine Br.no ?_
        conv => whnf
        refine Br.no ?_
        conv => whnf
        refine Br.yes ?_
        conv => whnf
        refine Br.no ?_
        conv => whnf
        refine Br.flip ?_
        conv => whnf
        refine Br.ob h (fun p33 h => ?_) (fun p33 h => ?_)
        ·conv => whnf
         cases h; exact ⟨rfl, rfl⟩
        conv => whnf
        cases h; exact ⟨rfl, rfl⟩
       conv => whnf
       refine Br.no ?_
       conv => whnf
       refine Br.no ?_
       conv => whnf
       refine Br.no ?_
       conv => whnf
       refine Br.no ?_
       conv => whnf
       refine Br.no ?_
       conv => whnf
       refine Br.no ?_
       conv => whnf
       refine Br.no ?_
       conv => whnf
       refine Br.no ?_
       conv => whnf
       refine Br.no ?_
       conv => whnf
       refine Br.no ?_
       conv => whnf
       cases h; exact ⟨rfl, rfl⟩
      conv => whnf
      refine Br.yes ?_
      conv => whnf
      refine Br.yes ?_
      conv => whnf
      refine Br.yes ?_
      conv => whnf
      refine Br.yes ?_
      conv => whnf
      cases h; exact ⟨rfl, rfl⟩
     rintro (⟨⟩ | ⟨⟩) h
     ·try dsimp only at h
      conv => whnf
      cases h; exact (by first | rfl | simp only [Ah, Aa, V.fz, fzL, V.up, upL, Ab, Ac, Ad, slr] | simp [Ah, Aa, V.fz, fzL, V.up, upL, Ab, Ac, Ad, slr])
     try dsimp only at h
     conv => whnf
     refine Br.ob h (fun p35 h => ?_) (fun p35 h => ?_)
     ·conv => whnf
      refine Cells.lit rfl rfl ?_
      conv => whnf
      refine Cells.lit rfl rfl ?_
      conv => whnf
      refine CallQ.rd (fun r => V.tup [V.bool r.1, V.bool r.2]) (by first | rfl | simp only [V.fz, fzL, V.up, Ab, Ad] | simp [Aa, V.fz, fzL, V.up, upL, Ab, Ac, Ad, slr]) (fun _ => by simp [V.noFz, Bx]) h (fun r h => X7 h) (fun r36 h => ?_)
      conv => whnf
      refine Br.ob h (fun p37 h => ?_) (fun p37 h => ?_)
      ·conv => whnf
       refine Br.yes ?_
       conv => whnf
       refine Br.yes ?_
       conv => whnf
       refine Br.yes ?_
       conv => whnf
       refine Br.flip ?_
       conv => whnf
       refine Br.ob h (fun p38 h => ?_) (fun p38 h => ?_)
       ·conv => whnf
        cases h; exact (by first | rfl | simp only [Ah, Aa, V.fz, fzL, V.up, upL, Ab, Ac, Ad, slr] | simp [Ah, Aa, V.fz, fzL, V.up, upL, Ab, Ac, Ad, slr])
       conv => whnf
       cases h; exact (by first | rfl | simp only [Ah, Aa, V.fz, fzL, V.up, upL, Ab, Ac, Ad, slr] | simp [Ah, Aa, V.fz, fzL, V.up, upL, Ab, Ac, Ad, slr])
      conv => whnf
      refine Br.no ?_
      conv => whnf
      refine Br.no ?_
      conv => whnf
      refine Br.no ?_
      conv => whnf
      refine Br.no ?_
      conv => whnf
      cases h; exact (by first | rfl | simp only [Ah, Aa, V.fz, fzL, V.up, upL, Ab, Ac, Ad, slr] | simp [Ah, Aa, V.fz, fzL, V.up, upL, Ab, Ac, Ad, slr])
     conv => whnf
     cases h; exact (by first | rfl | simp only [Ah, Aa, V.fz, fzL, V.up, upL, Ab, Ac, Ad, slr] | simp [Ah, Aa, V.fz, fzL, V.up, upL, Ab, Ac, Ad, slr])
    conv => whnf
    cases h; exact (by first | rfl | simp only [Ah, Aa, V.fz, fzL, V.up, upL, Ab, Ac, Ad, slr] | simp [Ah, Aa, V.fz, fzL, V.up, upL, Ab, Ac, Ad, slr])
   try dsimp only at h
   conv => whnf
   cases h; exact (by first | rfl | simp only [Ah, Aa, V.fz, fzL, V.up, upL, Ab, Ac, Ad, slr] | simp [Ah, Aa, V.fz, fzL, V.up, upL, Ab, Ac, Ad, slr])
  try dsimp only at h
  conv => whnf
  cases h; exact (by first | rfl | simp only [Ah, Aa, V.fz, fzL, V.up, upL, Ab, Ac, Ad, slr] | simp [Ah, Aa, V.fz, fzL, V.up, upL, Ab, Ac, Ad, slr])
 try dsimp only at h
 conv => whnf
 cases h; exact (by first | rfl | simp only [Ah, Aa, V.fz, fzL, V.up, upL, Ab, Ac, Ad, slr] | simp [Ah, Aa, V.fz, fzL, V.up, upL, Ab, Ac, Ad, slr])
end Go.Proofs.Ytcpgnfohmeineaa.Ax
