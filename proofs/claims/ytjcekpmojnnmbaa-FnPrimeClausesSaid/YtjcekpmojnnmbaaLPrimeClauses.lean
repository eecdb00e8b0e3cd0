/-
 What the functions compute, as functions on plain data, and that the program does compute it; written by program.
-/
import Derived.Test.YtjcekpmojnnmbaaCode
import Derived.Test.YtjcekpmojnnmbaaG1
import Derived.Test.YtjcekpmojnnmbaaG3
import Derived.Test.YtjcekpmojnnmbaaG5
import Derived.Test.YtjcekpmojnnmbaaG7
import Derived.Test.YtjcekpmojnnmbaaG10
import Derived.Test.YtjcekpmojnnmbaaG11
import Derived.Test.YtjcekpmojnnmbaaG12
namespace Go.Proofs.Ytjcekpmojnnmbaa.Ax
open Go
set_option maxRecDepth 100000
set_option maxHeartbeats 4000000
noncomputable def Fy (code0 : (List Int)) : Option Bool :=
 (Rs (code0)).bind fun r1 =>
 if (r1) = true then
 some true
 else
 (Dm (code0)).bind fun r3 =>
 (E3 (r3)).bind fun r4 =>
 (((E2 (r3)).bind fun r5 =>
 if (r4.snd == r5.snd) = true then
 (Hy (r4.fst) (r5.fst)).bind fun r7 =>
 if (r7) = true then
 some (.inl ())
 else
 some (.inr ())
 else
 some (.inr ()) : Option (Unit ⊕ Unit))).bind fun t => match t with
 | (.inl _) => ((Fv (r3)).bind fun r10 =>
 (((Fs (r3)).bind fun r11 =>
 if (r10.snd == r11.snd) = true then
 if (r10.snd == r4.snd) = true then
 (Hv (r10.fst) (r11.fst)).bind fun r14 =>
 if (r14) = true then
 some (.inl ())
 else
 some (.inr ())
 else
 some (.inr ())
 else
 some (.inr ()) : Option (Unit ⊕ Unit))).bind fun t => match t with
 | (.inl _) => (((if (r4.snd) = true then
 (Bp (r3.Arity) (r4.fst)).bind fun r18 =>
 ((if (r18.snd) = true then
 (Fl (r18.fst) (r3)).bind fun r20 =>
 if (r20) = true then
 some (.inl ())
 else
 some (.inr ())
 else
 some (.inr ()) : Option (Unit ⊕ Unit))).bind fun t => match t with
 | (.inl _) => ((C4 ((2 : Int)) ({ Arity := (2 : Int), Table := [(0 : Int), (0 : Int), (0 : Int), (1 : Int)] }) (r3)).bind fun r23 =>
 (C4 ((2 : Int)) ({ Arity := (2 : Int), Table := [(0 : Int), (1 : Int), (1 : Int), (1 : Int)] }) (r3)).bind fun r24 =>
 (C4 ((2 : Int)) ({ Arity := (3 : Int), Table := [(0 : Int), (0 : Int), (0 : Int), (1 : Int), (0 : Int), (1 : Int), (1 : Int), (1 : Int)] }) (r3)).bind fun r25 =>
 if (r23.snd) = true then
 if (r24.snd) = true then
 if (r25.snd) = true then
 (Hv (r10.fst) ([r23.fst, r24.fst, r25.fst])).bind fun r29 =>
 if (r29) = true then
 some (.inl ())
 else
 some (.inr ())
 else
 some (.inr ())
 else
 some (.inr ())
 else
 some (.inr ()))
 | (.inr _) => (some (.inr ()))
 else
 some (.inl ()) : Option (Unit ⊕ Unit))).bind fun t => match t with
 | (.inl _) => ((Ce (code0)).bind fun r32 =>
 (Bp (r32.fst) (r32.snd)).bind fun r33 =>
 (((Df (r32.fst) (r32.snd)).bind fun r34 =>
 if (r33.snd == r34.snd) = true then
 (Fl (r33.fst) (r34.fst)).bind fun r36 =>
 if (r36) = true then
 some (.inl ())
 else
 some (.inr ())
 else
 some (.inr ()) : Option (Unit ⊕ Unit))).bind fun t => match t with
 | (.inl _) => (((if (r33.snd) = true then
 some (decide ((↑r32.snd.length : Int) > (0 : Int)))
 else
 some false : Option Bool)).bind fun q40_162 =>
 if (q40_162) = true then
 ask (InI ((↑r32.snd.length : Int) - (1 : Int))) <|
 ask (0 ≤ (0 : Int) ∧ (0 : Int) ≤ (↑r32.snd.length : Int) - (1 : Int) ∧ (↑r32.snd.length : Int) - (1 : Int) ≤ ((r32.snd.length : Nat) : Int)) <|
 (Bp (r32.fst) (List.take (((↑r32.snd.length : Int) - (1 : Int)).toNat - Int.toNat (0 : Int)) (List.drop (Int.toNat (0 : Int)) r32.snd))).bind fun r43 =>
 if (r43.snd) = true then
 if (↑r43.fst.Tuples.length : Int) < (↑r33.fst.Tuples.length : Int) then
 some false
 else
 some true
 else
 some false
 else
 some true)
 | (.inr _) => (some false))
 | (.inr _) => (some false))
 | (.inr _) => (some false))
 | (.inr _) => (some false)
theorem Wy {code0 : (List Int)} {v : Bool} (h : Fy code0 = some v) : Ret Try.prog Mp [(slr false 1 (V.int IntKind.u8)) code0] (V.bool v) := by
 refine A7 Ww (Nat.le_of_ble_eq_true rfl) ?_
 unfold Fy at h
 refine CallQ.o V.bool (by rfl) h (fun r h => Aqq h) (fun r1 h => ?_)
 refine Br.ob h (fun p2 h => ?_) (fun p2 h => ?_)
 ·cases h; exact (by rfl)
 refine CallQ.o (Ah false) (by rfl) h (fun r h => T8 h) (fun r3 h => ?_)
 refine SetKids.lit rfl <| Cells.lit rfl rfl <| CallQ.o (fun r => V.tup [(slr false 1 (slr false 1 Ae)) r.1, V.bool r.2]) (by rfl) h (fun r h => Y1 h) (fun r4 h => ?_)
 refine CutQ.o (fun t : (Unit ⊕ Unit) => match t with | (.inl s) => (Ex.normal, [5, 4, 3, 0], [(5, A.val (V.bool (r4.snd))), (4, A.val ((slr false 1 (slr false 1 Ae)) (r4.fst))), (3, A.val ((rP true (Ah false)) (r3))), (0, A.val ((slr false 1 (V.int IntKind.u8)) (code0)))]) | (.inr s) => (Ex.ret, [2], [(2, A.val (V.bool (false)))])) h ?_ ?_
 ·intro t h
  refine Cells.lit rfl rfl <| CallQ.o (fun r => V.tup [(slr false 1 (slr false 1 Ae)) r.1, V.bool r.2]) (by rfl) h (fun r h => Y6 h) (fun r5 h => ?_)
  refine Br.flip <| Br.ob h (fun p6 h => ?_) (fun p6 h => ?_)
  ·refine Br.no <| Br.no <| CallQ.o V.bool (by rfl) h (fun r h => Zz h) (fun r7 h => ?_)
   refine Br.no <| Br.no <| Br.flip <| Br.ob h (fun p8 h => ?_) (fun p8 h => ?_)
   ·cases h; exact ⟨rfl, rfl⟩
   cases h; exact ⟨rfl, rfl⟩
  refine Br.yes <| Br.yes <| Br.yes <| Br.yes <| Br.yes ?_
  cases h; exact ⟨rfl, rfl⟩
 rintro (⟨⟩ | ⟨⟩) h
 ·try dsimp only at h
  refine Cells.lit rfl rfl <| CallQ.o (fun r => V.tup [(slr true 1 V.bool) r.1, V.bool r.2]) (by rfl) h (fun r h => Aa9 h) (fun r10 h => ?_)
  refine CutQ.o (fun t : (Unit ⊕ Unit) => match t with | (.inl s) => (Ex.normal, [8, 5, 4, 3, 0], [(8, A.val ((slr true 1 V.bool) (r10.fst))), (5, A.val (V.bool (r4.snd))), (4, A.val ((slr false 1 (slr false 1 Ae)) (r4.fst))), (3, A.val ((rP true (Ah false)) (r3))), (0, A.val ((slr false 1 (V.int IntKind.u8)) (code0)))]) | (.inr s) => (Ex.ret, [2], [(2, A.val (V.bool (false)))])) h ?_ ?_
  ·intro t h
   refine Cells.lit rfl rfl <| CallQ.o (fun r => V.tup [(slr true 1 V.bool) r.1, V.bool r.2]) (by rfl) h (fun r h => Aar h) (fun r11 h => ?_)
   refine Br.flip <| Br.ob h (fun p12 h => ?_) (fun p12 h => ?_)
   ·refine Br.no <| Br.no <| Br.no <| Br.flip <| Br.ob h (fun p13 h => ?_) (fun p13 h => ?_)
    ·refine Br.no <| Br.no <| CallQ.rd V.bool (by first | rfl | simp only [V.fz, Ab, slr] | simp [Aa, V.fz, fzL, V.up, upL, Ab, Ac, Ad, slr]) (fun _ => rfl) h (fun r h => Zr h) (fun r14 h => ?_)
     refine Br.no <| Br.no <| Br.flip <| Br.ob h (fun p15 h => ?_) (fun p15 h => ?_)
     ·cases h; exact ⟨rfl, rfl⟩
     cases h; exact ⟨rfl, rfl⟩
    refine Br.yes <| Br.yes <| Br.yes <| Br.yes <| Br.yes ?_
    cases h; exact ⟨rfl, rfl⟩
   refine Br.yes <| Br.yes <| Br.yes <| Br.yes <| Br.yes <| Br.yes <| Br.yes <| Br.yes <| Br.yes ?_
   cases h; exact ⟨rfl, rfl⟩
  rintro (⟨⟩ | ⟨⟩) h
  ·try dsimp only at h
   refine CutQ.o (fun t : (Unit ⊕ Unit) => match t with | (.inl s) => (Ex.normal, [0], [(0, A.val ((slr false 1 (V.int IntKind.u8)) (code0)))]) | (.inr s) => (Ex.ret, [2], [(2, A.val (V.bool (false)))])) h ?_ ?_
   ·intro t h
    refine Br.ob h (fun p17 h => ?_) (fun p17 h => ?_)
    ·refine Cells.lit rfl rfl <| CallQ.o (fun r => V.tup [(Aj) r.1, V.bool r.2]) (by rfl) h (fun r h => Gp h) (fun r18 h => ?_)
     refine SetKids.lit rfl <| CutQ.o (fun t : (Unit ⊕ Unit) => match t with | (.inl s) => (Ex.normal, [8, 3, 0], [(8, A.val ((slr true 1 V.bool) (r10.fst))), (3, A.val ((rP true (Ah false)) (r3))), (0, A.val ((slr false 1 (V.int IntKind.u8)) (code0)))]) | (.inr s) => (Ex.ret, [2], [(2, A.val (V.bool (false)))])) h ?_ ?_
     ·intro t h
      refine Br.flip <| Br.ob h (fun p19 h => ?_) (fun p19 h => ?_)
      ·refine Cells.lit rfl rfl <| Br.no <| Cells.lit rfl rfl <| Br.no <| CallQ.rd V.bool (by first | rfl | simp only [V.fz, fzL, Ab] | simp [Aa, V.fz, fzL, V.up, upL, Ab, Ac, Ad, slr]) (fun _ => rfl) h (fun r h => Uo h) (fun r20 h => ?_)
       refine Br.no <| Br.no <| Br.flip <| Br.ob h (fun p21 h => ?_) (fun p21 h => ?_)
       ·cases h; exact ⟨rfl, rfl⟩
       cases h; exact ⟨rfl, rfl⟩
      refine Br.yes <| Br.yes <| Br.yes <| Br.yes <| Br.yes ?_
      cases h; exact ⟨rfl, rfl⟩
     rintro (⟨⟩ | ⟨⟩) h
     ·try dsimp only at h
      refine BslQ.o Ae ([(0 : Int), (0 : Int), (0 : Int), (1 : Int)]) (by exact fun _ => ⟨rfl, rfl⟩) (by first | rfl | (simp only [Aa, V.fz, fzL, V.up, upL, Ab, Ac, Ad, slr, List.cons_append, List.nil_append]; done) | simp [Aa, V.fz, fzL, V.up, upL, Ab, Ac, Ad, slr]) <| Cells.lit rfl rfl <| CallQ.rd (fun r => V.tup [V.bool r.1, V.bool r.2]) (by rfl) (fun _ => by simp [V.noFz, Cs]) h (fun r h => Pg h) (fun r23 h => ?_)
      refine BslQ.o Ae ([(0 : Int), (1 : Int), (1 : Int), (1 : Int)]) (by exact fun _ => ⟨rfl, rfl⟩) (by first | rfl | (simp only [Aa, V.fz, fzL, V.up, upL, Ab, Ac, Ad, slr, List.cons_append, List.nil_append]; done) | simp [Aa, V.fz, fzL, V.up, upL, Ab, Ac, Ad, slr]) <| Cells.lit rfl rfl <| CallQ.rd (fun r => V.tup [V.bool r.1, V.bool r.2]) (by rfl) (fun _ => by simp [V.noFz, Cs]) h (fun r h => Pg h) (fun r24 h => ?_)
      refine BslQ.o Ae ([(0 : Int), (0 : Int), (0 : Int), (1 : Int), (0 : Int), (1 : Int), (1 : Int), (1 : Int)]) (by exact fun _ => ⟨rfl, rfl⟩) (by first | rfl | (simp only [Aa, V.fz, fzL, V.up, upL, Ab, Ac, Ad, slr, List.cons_append, List.nil_append]; done) | simp [Aa, V.fz, fzL, V.up, upL, Ab, Ac, Ad, slr]) <| Cells.lit rfl rfl <| CallQ.rd (fun r => V.tup [V.bool r.1, V.bool r.2]) (by rfl) (fun _ => by simp [V.noFz, Cs]) h (fun r h => Pg h) (fun r25 h => ?_)
      refine Br.flip <| Br.ob h (fun p26 h => ?_) (fun p26 h => ?_)
      ·refine Br.no <| Br.no <| Br.flip <| Br.ob h (fun p27 h => ?_) (fun p27 h => ?_)
       ·refine Br.no <| Br.no <| Br.flip <| Br.ob h (fun p28 h => ?_) (fun p28 h => ?_)
        ·refine Br.no <| Br.no <| Br.no <| Br.no <| BslQ.o V.bool ([r23.fst, r24.fst, r25.fst]) (by exact fun _ => ⟨rfl, rfl⟩) (by first | rfl | (simp only [Aa, V.fz, fzL, V.up, upL, Ab, Ac, Ad, slr, List.cons_append, List.nil_append]; done) | simp [Aa, V.fz, fzL, V.up, upL, Ab, Ac, Ad, slr]) <| Br.no <| CallQ.rd V.bool (by first | rfl | simp only [V.fz, Ab, slr] | simp [Aa, V.fz, fzL, V.up, upL, Ab, Ac, Ad, slr]) (fun _ => rfl) h (fun r h => Zr h) (fun r29 h => ?_)
         refine Br.no <| Br.no <| Br.flip <| Br.ob h (fun p30 h => ?_) (fun p30 h => ?_)
         ·cases h; exact ⟨rfl, rfl⟩
         cases h; exact ⟨rfl, rfl⟩
        refine Br.yes <| Br.yes <| Br.yes <| Br.yes <| Br.yes <| Br.yes <| Br.yes <| Br.yes ?_
        cases h; exact ⟨rfl, rfl⟩
       refine Br.yes <| Br.yes <| Br.yes <| Br.yes <| Br.yes <| Br.yes <| Br.yes <| Br.yes <| Br.yes <| Br.yes <| Br.yes ?_
       cases h; exact ⟨rfl, rfl⟩
      refine Br.yes <| Br.yes <| Br.yes <| Br.yes <| Br.yes <| Br.yes <| Br.yes <| Br.yes <| Br.yes <| Br.yes <| Br.yes <| Br.yes <| Br.yes <| Br.yes ?_
      cases h; exact ⟨rfl, rfl⟩
     try dsimp only at h
     cases h; exact ⟨rfl, rfl⟩
    cases h; exact ⟨rfl, rfl⟩
   rintro (⟨⟩ | ⟨⟩) h
   ·try dsimp only at h
    refine CallQ.o (fun r => V.tup [Ae r.1, (slr false 1 (slr false 1 Ae)) r.2]) (by rfl) h (fun r h => Ret.frz (Pi h) (by first | rfl | simp only [V.fz, fzL, Ab, slr] | simp [Aa, V.fz, fzL, V.up, upL, Ab, Ac, Ad, slr])) (fun r32 h => ?_)
    refine CallQ.o (fun r => V.tup [(Aj) r.1, V.bool r.2]) (by rfl) h (fun r h => Gp h) (fun r33 h => ?_)
    refine SetKids.lit rfl <| CutQ.o (fun t : (Unit ⊕ Unit) => match t with | (.inl s) => (Ex.normal, [23, 22, 21, 20], [(23, A.val (V.bool (r33.snd))), (22, A.val ((rP true (Aj)) (r33.fst))), (21, A.val ((slr false 1 (slr false 1 Ae)) (r32.snd))), (20, A.val (Ae (r32.fst)))]) | (.inr s) => (Ex.ret, [2], [(2, A.val (V.bool (false)))])) h ?_ ?_
    ·intro t h
     refine CallQ.o (fun r => V.tup [(Ah true) r.1, V.bool r.2]) (by rfl) h (fun r h => Tp h) (fun r34 h => ?_)
     refine SetKids.lit rfl <| Br.flip <| Br.ob h (fun p35 h => ?_) (fun p35 h => ?_)
     ·refine Cells.lit rfl rfl <| Br.no <| Cells.lit rfl rfl <| Br.no <| CallQ.rd V.bool (by first | rfl | simp only [V.fz, Ab] | simp [Aa, V.fz, fzL, V.up, upL, Ab, Ac, Ad, slr]) (fun _ => rfl) h (fun r h => Uo h) (fun r36 h => ?_)
      refine Br.no <| Br.no <| Br.flip <| Br.ob h (fun p37 h => ?_) (fun p37 h => ?_)
      ·cases h; exact ⟨rfl, rfl⟩
      cases h; exact ⟨rfl, rfl⟩
     refine Br.yes <| Br.yes <| Br.yes <| Br.yes <| Br.yes ?_
     cases h; exact ⟨rfl, rfl⟩
    rintro (⟨⟩ | ⟨⟩) h
    ·try dsimp only at h
     refine CutQ.o (fun t : Bool => match t with | s => (Ex.normal, [162, 22, 21, 20], [(162, A.val (V.bool s)), (22, A.val ((rP true (Aj)) (r33.fst))), (21, A.val ((slr false 1 (slr false 1 Ae)) (r32.snd))), (20, A.val (Ae (r32.fst)))])) h ?_ ?_
     ·intro t h
      refine Br.ob h (fun p39 h => ?_) (fun p39 h => ?_)
      ·refine Br.yes <| Len.map <| Br.yes <| Br.yes ?_
       cases h; exact ⟨rfl, rfl⟩
      refine Br.no <| Br.no <| Br.no ?_
      cases h; exact ⟨rfl, rfl⟩
     rintro q40_162 h
     try dsimp only at h
     refine Br.ob h (fun p41 h => ?_) (fun p41 h => ?_)
     ·refine Len.map <| Ask.o h fun p42 h => SlcQ.o (slr false 1 Ae) h fun h => CallQ.o (fun r => V.tup [(Aj) r.1, V.bool r.2]) (by rfl) h (fun r h => Gp h) (fun r43 h => ?_)
      refine SetKids.lit rfl <| Br.flip <| Br.ob h (fun p44 h => ?_) (fun p44 h => ?_)
      ·refine Br.no <| Cells.lit rfl rfl <| Br.no <| Kid.lit rfl rfl <| Len.map <| Br.no <| Br.no <| Cells.lit rfl rfl <| Br.no <| Kid.lit rfl rfl <| Len.map <| Br.no <| Br.no <| Br.od h (fun p45 h => ?_) (fun p45 h => ?_)
       ·cases h; exact (by rfl)
       cases h; exact (by rfl)
      refine Br.yes <| Br.yes <| Br.yes <| Br.yes <| Br.yes <| Br.yes <| Br.yes <| Br.yes ?_
      cases h; exact (by rfl)
     cases h; exact (by rfl)
    try dsimp only at h
    cases h; exact (by rfl)
   try dsimp only at h
   cases h; exact (by rfl)
  try dsimp only at h
  cases h; exact (by rfl)
 try dsimp only at h
 cases h; exact (by rfl)
end Go.Proofs.Ytjcekpmojnnmbaa.Ax
