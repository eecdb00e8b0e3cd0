/-
 What the functions compute, as functions on plain data, and that the program does compute it; written by program.
-/
import Derived.Test.YtcpgnfohmeineaaCode
import Derived.Test.YtcpgnfohmeineaaG1
import Derived.Test.YtcpgnfohmeineaaG3
import Derived.Test.YtcpgnfohmeineaaG6
import Derived.Test.YtcpgnfohmeineaaG7
import Derived.Test.YtcpgnfohmeineaaG10
import Derived.Test.YtcpgnfohmeineaaG11
import Derived.Test.YtcpgnfohmeineaaG12
namespace Go.Proofs.Ytcpgnfohmeineaa.Ax
open Go
set_option maxRecDepth 100000
set_option maxHeartbeats 4000000
noncomputable def Gi (code0 : (List Int)) : Option Bool :=
 (Sp (code0)).bind fun r1 =>
 if (r1) = true then
 some true
 else
 (B3 (code0)).bind fun r3 =>
 (Bn (r3.fst) (r3.snd)).bind fun r4 =>
 (((C2 (r3.fst) (r3.snd)).bind fun r5 =>
 if (r4.snd == r5.snd) = true then
 (F0 (r4.fst) (r5.fst)).bind fun r7 =>
 if (r7) = true then
 some (.inl ())
 else
 some (.inr ())
 else
 some (.inr ()) : Option (Unit ⊕ Unit))).bind fun t => match t with
 | (.inl _) => (((if (r4.snd) = true then
 (B4 (r3.fst) (r4.fst)).bind fun r11 =>
 if (r11.snd) = true then
 (Gy (r11.fst) (r3.snd)).bind fun r13 =>
 if (r13) = true then
 some (.inl ())
 else
 some (.inr ())
 else
 some (.inr ())
 else
 some (.inl ()) : Option (Unit ⊕ Unit))).bind fun t => match t with
 | (.inl _) => ((Di (code0)).bind fun r16 =>
 (B6 (r16.fst) (r16.snd)).bind fun r17 =>
 (((E6 (r16.fst) (r16.snd)).bind fun r18 =>
 if (r17.fst == r18.fst) = true then
 if (r17.snd == r18.snd) = true then
 some (.inl ())
 else
 some (.inr ())
 else
 some (.inr ()) : Option (Unit ⊕ Unit))).bind fun t => match t with
 | (.inl _) => ((B4 (r16.fst) (r16.snd)).bind fun r22 =>
 (((C3 (r16.fst) (r16.snd)).bind fun r23 =>
 if (r22.snd == r23.snd) = true then
 if (r17.snd) = true then
 if (r22.snd == r17.fst) = true then
 (Gy (r22.fst) (r23.fst)).bind fun r27 =>
 if (r27) = true then
 some (.inl ())
 else
 some (.inr ())
 else
 some (.inr ())
 else
 if (r22.snd == false) = true then
 (Gy (r22.fst) (r23.fst)).bind fun r30 =>
 if (r30) = true then
 some (.inl ())
 else
 some (.inr ())
 else
 some (.inr ())
 else
 some (.inr ()) : Option (Unit ⊕ Unit))).bind fun t => match t with
 | (.inl _) => (((if (r22.snd) = true then
 (Bn (r16.fst) (r22.fst)).bind fun r34 =>
 if (r34.snd) = true then
 (F0 (r34.fst) (r16.snd)).bind fun r36 =>
 if (r36) = true then
 some (.inl ())
 else
 some (.inr ())
 else
 some (.inr ())
 else
 some (.inl ()) : Option (Unit ⊕ Unit))).bind fun t => match t with
 | (.inl _) => ((Dq (code0)).bind fun r39 =>
 (Hh (r39.fst) (r39.snd)).bind fun r40 =>
 (Bn (r39.fst.Size) (r39.snd)).bind fun r41 =>
 ((if (r40.snd) = true then
 some r41.snd
 else
 some false : Option Bool)).bind fun q43_164 =>
 if (q43_164) = true then
 (F5 (r39.fst) (r41.fst)).bind fun r45 =>
 if (r45.snd) = true then
 if (r45.fst == r40.fst) = true then
 some true
 else
 some false
 else
 some true
 else
 some true)
 | (.inr _) => (some false))
 | (.inr _) => (some false))
 | (.inr _) => (some false))
 | (.inr _) => (some false))
 | (.inr _) => (some false)
theorem Xu {code0 : (List Int)} {v : Bool} (h : Gi code0 = some v) : Ret Try.prog Na [(slr false 1 (V.int IntKind.u8)) code0] (V.bool v) := by
 refine A8 Xn (Nat.le_of_ble_eq_true rfl) ?_
 unfold Gi at h
 conv => whnf
 refine CallQ.o V.bool (by rfl) h (fun r h => Apw h) (fun r1 h => ?_)
 conv => whnf
 refine Br.ob h (fun p2 h => ?_) (fun p2 h => ?_)
 ·conv => whnf
  cases h; exact (by rfl)
 conv => whnf
 refine CallQ.o (fun r => V.tup [Af r.1, (slr false 1 Af) r.2]) (by rfl) h (fun r h => Nx h) (fun r3 h => ?_)
 conv => whnf
 refine CallQ.o (fun r => V.tup [(Ai true) r.1, V.bool r.2]) (by rfl) h (fun r h => F9 h) (fun r4 h => ?_)
 conv => whnf
 refine SetKids.lit rfl ?_
 conv => whnf
 refine CutQ.o (fun t : (Unit ⊕ Unit) => match t with | (.inl s) => (Ex.normal, [6, 5, 4, 3, 0], [(6, A.val (V.bool (r4.snd))), (5, A.val ((rP true (Ai true)) (r4.fst))), (4, A.val ((slr false 1 Af) (r3.snd))), (3, A.val (Af (r3.fst))), (0, A.val ((slr false 1 (V.int IntKind.u8)) (code0)))]) | (.inr s) => (Ex.ret, [2], [(2, A.val (V.bool (false)))])) h ?_ ?_
 ·intro t h
  conv => whnf
  refine CallQ.o (fun r => V.tup [(Am) r.1, V.bool r.2]) (by rfl) h (fun r h => Ra h) (fun r5 h => ?_)
  conv => whnf
  refine SetKids.lit rfl ?_
  conv => whnf
  refine Br.flip ?_
  conv => whnf
  refine Br.ob h (fun p6 h => ?_) (fun p6 h => ?_)
  ·conv => whnf
   refine Cells.lit rfl rfl ?_
   conv => whnf
   refine Br.no ?_
   conv => whnf
   refine Cells.lit rfl rfl ?_
   conv => whnf
   refine Br.no ?_
   conv => whnf
   refine CallQ.rd V.bool (by first | rfl | simp only [V.fz, Ab] | simp [Aa, V.fz, fzL, V.up, upL, Ab, Ac, Ad, slr]) (fun _ => rfl) h (fun r h => Uu h) (fun r7 h => ?_)
   conv => whnf
   refine Br.no ?_
   conv => whnf
   refine Br.no ?_
   conv => whnf
   refine Br.flip ?_
   conv => whnf
   refine Br.ob h (fun p8 h => ?_) (fun p8 h => ?_)
   ·conv => whnf
    cases h; exact ⟨rfl, rfl⟩
   conv => whnf
   cases h; exact ⟨rfl, rfl⟩
  conv => whnf
  refine Br.yes ?_
  conv => whnf
  refine Br.yes ?_
  conv => whnf
  refine Br.yes ?_
  conv => whnf
  refine Br.yes ?_
  conv => whnf
  refine Br.yes ?_
  conv => whnf
  cases h; exact ⟨rfl, rfl⟩
 rintro (⟨⟩ | ⟨⟩) h
 ·try dsimp only at h
  conv => whnf
  refine CutQ.o (fun t : (Unit ⊕ Unit) => match t with | (.inl s) => (Ex.normal, [0], [(0, A.val ((slr false 1 (V.int IntKind.u8)) (code0)))]) | (.inr s) => (Ex.ret, [2], [(2, A.val (V.bool (false)))])) h ?_ ?_
  ·intro t h
   conv => whnf
   refine Br.ob h (fun p10 h => ?_) (fun p10 h => ?_)
   ·conv => whnf
    refine Cells.lit rfl rfl ?_
    conv => whnf
    refine CallQ.rd (fun r => V.tup [(slr true 1 Af) r.1, V.bool r.2]) (by first | rfl | simp only [V.fz, V.up, Ab, Ad] | simp [Aa, V.fz, fzL, V.up, upL, Ab, Ac, Ad, slr]) (fun _ => by simp [V.noFz, B5, Bs]) h (fun r h => Jf h) (fun r11 h => ?_)
    conv => whnf
    refine Br.flip ?_
    conv => whnf
    refine Br.ob h (fun p12 h => ?_) (fun p12 h => ?_)
    ·conv => whnf
     refine Br.no ?_
     conv => whnf
     refine Br.no ?_
     conv => whnf
     refine CallQ.rd V.bool (by first | rfl | simp only [V.fz, V.up, Ab, slr] | simp [Aa, V.fz, fzL, V.up, upL, Ab, Ac, Ad, slr]) (fun _ => rfl) h (fun r h => Qp h) (fun r13 h => ?_)
     conv => whnf
     refine Br.no ?_
     conv => whnf
     refine Br.no ?_
     conv => whnf
     refine Br.flip ?_
     conv => whnf
     refine Br.ob h (fun p14 h => ?_) (fun p14 h => ?_)
     ·conv => whnf
      cases h; exact ⟨rfl, rfl⟩
     conv => whnf
     cases h; exact ⟨rfl, rfl⟩
    conv => whnf
    refine Br.yes ?_
    conv => whnf
    refine Br.yes ?_
    conv => whnf
    refine Br.yes ?_
    conv => whnf
    refine Br.yes ?_
    conv => whnf
    refine Br.yes ?_
    conv => whnf
    cases h; exact ⟨rfl, rfl⟩
   conv => whnf
   cases h; exact ⟨rfl, rfl⟩
  rintro (⟨⟩ | ⟨⟩) h
  ·try dsimp only at h
   conv => whnf
   refine CallQ.o (fun r => V.tup [Af r.1, (Ai false) r.2]) (by rfl) h (fun r h => S9 h) (fun r16 h => ?_)
   conv => whnf
   refine SetKids.lit rfl ?_
   conv => whnf
   refine Cells.lit rfl rfl ?_
   conv => whnf
   refine CallQ.o (fun r => V.tup [V.bool r.1, V.bool r.2]) (by rfl) h (fun r h => Pn h) (fun r17 h => ?_)
   conv => whnf
   refine CutQ.o (fun t : (Unit ⊕ Unit) => match t with | (.inl s) => (Ex.normal, [14, 13, 11, 12, 0], [(14, A.val (V.bool (r17.snd))), (13, A.val (V.bool (r17.fst))), (11, A.val (Af (r16.fst))), (12, A.val ((rP true (Ai false)) (r16.snd))), (0, A.val ((slr false 1 (V.int IntKind.u8)) (code0)))]) | (.inr s) => (Ex.ret, [2], [(2, A.val (V.bool (false)))])) h ?_ ?_
   ·intro t h
    conv => whnf
    refine Cells.lit rfl rfl ?_
    conv => whnf
    refine CallQ.o (fun r => V.tup [V.bool r.1, V.bool r.2]) (by rfl) h (fun r h => Zf h) (fun r18 h => ?_)
    conv => whnf
    refine Br.flip ?_
    conv => whnf
    refine Br.ob h (fun p19 h => ?_) (fun p19 h => ?_)
    ·conv => whnf
     refine Br.no ?_
     conv => whnf
     refine Br.no ?_
     conv => whnf
     refine Br.no ?_
     conv => whnf
     refine Br.flip ?_
     conv => whnf
     refine Br.ob h (fun p20 h => ?_) (fun p20 h => ?_)
     ·conv => whnf
      cases h; exact ⟨rfl, rfl⟩
     conv => whnf
     cases h; exact ⟨rfl, rfl⟩
    conv => whnf
    refine Br.yes ?_
    conv => whnf
    refine Br.yes ?_
    conv => whnf
    refine Br.yes ?_
    conv => whnf
    refine Br.yes ?_
    conv => whnf
    cases h; exact ⟨rfl, rfl⟩
   rintro (⟨⟩ | ⟨⟩) h
   ·try dsimp only at h
    conv => whnf
    refine Cells.lit rfl rfl ?_
    conv => whnf
    refine CallQ.o (fun r => V.tup [(slr true 1 Af) r.1, V.bool r.2]) (by rfl) h (fun r h => Jf h) (fun r22 h => ?_)
    conv => whnf
    refine CutQ.o (fun t : (Unit ⊕ Unit) => match t with | (.inl s) => (Ex.normal, [18, 17, 11, 12, 0], [(18, A.val (V.bool (r22.snd))), (17, A.val ((slr true 1 Af) (r22.fst))), (11, A.val (Af (r16.fst))), (12, A.val ((rP true (Ai false)) (r16.snd))), (0, A.val ((slr false 1 (V.int IntKind.u8)) (code0)))]) | (.inr s) => (Ex.ret, [2], [(2, A.val (V.bool (false)))])) h ?_ ?_
    ·intro t h
     conv => whnf
     refine Cells.lit rfl rfl ?_
     conv => whnf
     refine CallQ.o (fun r => V.tup [(slr true 1 Af) r.1, V.bool r.2]) (by rfl) h (fun r h => Q1 h) (fun r23 h => ?_)
     conv => whnf
     refine Br.flip ?_
     conv => whnf
     refine Br.ob h (fun p24 h => ?_) (fun p24 h => ?_)
     ·conv => whnf
      refine Br.no ?_
      conv => whnf
      refine Br.no ?_
      conv => whnf
      refine Br.ob h (fun p25 h => ?_) (fun p25 h => ?_)
      ·conv => whnf
       refine Br.no ?_
       conv => whnf
       refine Br.yes ?_
       conv => whnf
       refine Br.no ?_
       conv => whnf
       refine Br.no ?_
       conv => whnf
       refine Br.flip ?_
       conv => whnf
       refine Br.ob h (fun p26 h => ?_) (fun p26 h => ?_)
       ·conv => whnf
        refine Br.no ?_
        conv => whnf
        refine Br.no ?_
        conv => whnf
        refine CallQ.rd V.bool (by first | rfl | simp only [V.fz, Ab, slr] | simp [Aa, V.fz, fzL, V.up, upL, Ab, Ac, Ad, slr]) (fun _ => rfl) h (fun r h => Qp h) (fun r27 h => ?_)
        conv => whnf
        refine Br.no ?_
        conv => whnf
        refine Br.no ?_
        conv => whnf
        refine Br.flip ?_
        conv => whnf
        refine Br.ob h (fun p28 h => ?_) (fun p28 h => ?_)
        ·conv => whnf
         cases h; exact ⟨rfl, rfl⟩
        conv => whnf
        cases h; exact ⟨rfl, rfl⟩
       conv => whnf
       refine Br.yes ?_
       conv => whnf
       refine Br.yes ?_
       conv => whnf
       refine Br.yes ?_
       conv => whnf
       refine Br.yes ?_
       conv => whnf
       refine Br.yes ?_
       conv => whnf
       cases h; exact ⟨rfl, rfl⟩
      conv => whnf
      refine Br.no ?_
      conv => whnf
      refine Br.no ?_
      conv => whnf
      refine Br.no ?_
      conv => whnf
      refine Br.no ?_
      conv => whnf
      refine Br.flip ?_
      conv => whnf
      refine Br.ob h (fun p29 h => ?_) (fun p29 h => ?_)
      ·conv => whnf
       refine Br.no ?_
       conv => whnf
       refine Br.no ?_
       conv => whnf
       refine CallQ.rd V.bool (by first | rfl | simp only [V.fz, Ab, slr] | simp [Aa, V.fz, fzL, V.up, upL, Ab, Ac, Ad, slr]) (fun _ => rfl) h (fun r h => Qp h) (fun r30 h => ?_)
       conv => whnf
       refine Br.no ?_
       conv => whnf
       refine Br.no ?_
       conv => whnf
       refine Br.flip ?_
       conv => whnf
       refine Br.ob h (fun p31 h => ?_) (fun p31 h => ?_)
       ·conv => whnf
        cases h; exact ⟨rfl, rfl⟩
       conv => whnf
       cases h; exact ⟨rfl, rfl⟩
      conv => whnf
      refine Br.yes ?_
      conv => whnf
      refine Br.yes ?_
      conv => whnf
      refine Br.yes ?_
      conv => whnf
      refine Br.yes ?_
      conv => whnf
      refine Br.yes ?_
      conv => whnf
      cases h; exact ⟨rfl, rfl⟩
     conv => whnf
     refine Br.yes ?_
     conv => whnf
     refine Br.yes ?_
     conv => whnf
     refine Br.yes ?_
     conv => whnf
     refine Br.yes ?_
     conv => whnf
     refine Br.yes ?_
     conv => whnf
     refine Br.yes ?_
     conv => whnf
     refine Br.yes ?_
     conv => whnf
     refine Br.yes ?_
     conv => whnf
     refine Br.yes ?_
     conv => whnf
     refine Br.yes ?_
     conv => whnf
     refine Br.yes ?_
     conv => whnf
     cases h; exact ⟨rfl, rfl⟩
    rintro (⟨⟩ | ⟨⟩) h
    ·try dsimp only at h
     conv => whnf
     refine CutQ.o (fun t : (Unit ⊕ Unit) => match t with | (.inl s) => (Ex.normal, [0], [(0, A.val ((slr false 1 (V.int IntKind.u8)) (code0)))]) | (.inr s) => (Ex.ret, [2], [(2, A.val (V.bool (false)))])) h ?_ ?_
     ·intro t h
      conv => whnf
      refine Br.ob h (fun p33 h => ?_) (fun p33 h => ?_)
      ·conv => whnf
       refine CallQ.rd (fun r => V.tup [(Ai true) r.1, V.bool r.2]) (by first | rfl | simp only [V.fz, V.up, Ab, Ad, slr] | simp [Aa, V.fz, fzL, V.up, upL, Ab, Ac, Ad, slr]) (fun _ => by simp [V.noFz, B5, Bs]) h (fun r h => F9 h) (fun r34 h => ?_)
       conv => whnf
       refine SetKids.lit rfl ?_
       conv => whnf
       refine Br.flip ?_
       conv => whnf
       refine Br.ob h (fun p35 h => ?_) (fun p35 h => ?_)
       ·conv => whnf
        refine Cells.lit rfl rfl ?_
        conv => whnf
        refine Br.no ?_
        conv => whnf
        refine Cells.lit rfl rfl ?_
        conv => whnf
        refine Br.no ?_
        conv => whnf
        refine CallQ.rd V.bool (by first | rfl | simp only [V.fz, fzL, Ab] | simp [Aa, V.fz, fzL, V.up, upL, Ab, Ac, Ad, slr]) (fun _ => rfl) h (fun r h => Uu h) (fun r36 h => ?_)
        conv => whnf
        refine Br.no ?_
        conv => whnf
        refine Br.no ?_
        conv => whnf
        refine Br.flip ?_
        conv => whnf
        refine Br.ob h (fun p37 h => ?_) (fun p37 h => ?_)
        ·conv => whnf
         cases h; exact ⟨rfl, rfl⟩
        conv => whnf
        cases h; exact ⟨rfl, rfl⟩
       conv => whnf
       refine Br.yes ?_
       conv => whnf
       refine Br.yes ?_
       conv => whnf
       refine Br.yes ?_
       conv => whnf
       refine Br.yes ?_
       conv => whnf
       refine Br.yes ?_
       conv => whnf
       cases h; exact ⟨rfl, rfl⟩
      conv => whnf
      cases h; exact ⟨rfl, rfl⟩
     rintro (⟨⟩ | ⟨⟩) h
     ·try dsimp only at h
      conv => whnf
      refine CallQ.o (fun r => V.tup [(Ak false) r.1, (slr false 1 Af) r.2]) (by rfl) h (fun r h => Vm h) (fun r39 h => ?_)
      conv => whnf
      refine SetKids.lit rfl ?_
      conv => whnf
      refine Cells.lit rfl rfl ?_
      conv => whnf
      refine CallQ.o (fun r => V.tup [V.bool r.1, V.bool r.2]) (by rfl) h (fun r h => Z5 h) (fun r40 h => ?_)
      conv => whnf
      refine Cells.lit rfl rfl ?_
      conv => whnf
      refine CallQ.o (fun r => V.tup [(Ai true) r.1, V.bool r.2]) (by rfl) h (fun r h => F9 h) (fun r41 h => ?_)
      conv => whnf
      refine SetKids.lit rfl ?_
      conv => whnf
      refine CutQ.o (fun t : Bool => match t with | s => (Ex.normal, [164, 27, 25, 23], [(164, A.val (V.bool s)), (27, A.val ((rP true (Ai true)) (r41.fst))), (25, A.val (V.bool (r40.fst))), (23, A.val ((rP true (Ak false)) (r39.fst)))])) h ?_ ?_
      ·intro t h
       conv => whnf
       refine Br.ob h (fun p42 h => ?_) (fun p42 h => ?_)
       ·conv => whnf
        refine Br.yes ?_
        conv => whnf
        cases h; exact ⟨rfl, rfl⟩
       conv => whnf
       refine Br.no ?_
       conv => whnf
       cases h; exact ⟨rfl, rfl⟩
      rintro q43_164 h
      try dsimp only at h
      conv => whnf
      refine Br.ob h (fun p44 h => ?_) (fun p44 h => ?_)
      ·conv => whnf
       refine Cells.lit rfl rfl ?_
       conv => whnf
       refine Cells.lit rfl rfl ?_
       conv => whnf
       refine CallQ.rd (fun r => V.tup [V.bool r.1, V.bool r.2]) (by first | rfl | simp only [V.fz, fzL, Ab] | simp [Aa, V.fz, fzL, V.up, upL, Ab, Ac, Ad, slr]) (fun _ => by simp [V.noFz, B5]) h (fun r h => Abj h) (fun r45 h => ?_)
       conv => whnf
       refine Br.ob h (fun p46 h => ?_) (fun p46 h => ?_)
       ·conv => whnf
        refine Br.yes ?_
        conv => whnf
        refine Br.yes ?_
        conv => whnf
        refine Br.yes ?_
        conv => whnf
        refine Br.flip ?_
        conv => whnf
        refine Br.ob h (fun p47 h => ?_) (fun p47 h => ?_)
        ·conv => whnf
         cases h; exact (by rfl)
        conv => whnf
        cases h; exact (by rfl)
       conv => whnf
       refine Br.no ?_
       conv => whnf
       refine Br.no ?_
       conv => whnf
       refine Br.no ?_
       conv => whnf
       refine Br.no ?_
       conv => whnf
       cases h; exact (by rfl)
      conv => whnf
      cases h; exact (by rfl)
     try dsimp only at h
     conv => whnf
     cases h; exact (by rfl)
    try dsimp only at h
    conv => whnf
    cases h; exact (by rfl)
   try dsimp only at h
   conv => whnf
   cases h; exact (by rfl)
  try dsimp only at h
  conv => whnf
  cases h; exact (by rfl)
 try dsimp only at h
 conv => whnf
 cases h; exact (by rfl)
end Go.Proofs.Ytcpgnfohmeineaa.Ax
