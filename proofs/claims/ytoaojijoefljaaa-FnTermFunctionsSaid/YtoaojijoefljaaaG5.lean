/-
 What the functions compute, as functions on plain data, and that the program does compute it; written by program.
-/
import Derived.Test.YtoaojijoefljaaaCode
import Derived.Test.YtoaojijoefljaaaG1
import Derived.Test.YtoaojijoefljaaaG2
namespace Go.Proofs.Ytoaojijoefljaaa.Ax
open Go
set_option maxRecDepth 100000
set_option maxHeartbeats 4000000
noncomputable def Dc (c0 : Sfound) (table0 : (List Int)) (op0 : Int) (args0 : (List Int)) : Option (Unit × Sfound) :=
 (Ey (table0)).bind fun r1 =>
 if ((Dr c0.seen r1).getD false) = true then
 some ((), c0)
 else
 ask ((c0.tables).length + ([table0]).length ≤ LIM) <|
 (Im (args0)).bind fun r3 =>
 ask ((c0.steps).length + (([{ Op := op0, Args := r3 }] : List SCloneStep)).length ≤ LIM) <|
 some ((), { tables := c0.tables ++ [table0], steps := c0.steps ++ [{ Op := op0, Args := r3 }], seen := I9 c0.seen r1 true })
theorem Qv {c0 : Sfound} {table0 : (List Int)} {op0 : Int} {args0 : (List Int)} {v : (Unit × Sfound)} (h : Dc c0 table0 op0 args0 = some v) : P7 Try.prog Il [(rP true (Et)) c0, (slr false 1 Ae) table0, Ae op0, (slr false 1 Ae) args0] ((fun _r => V.tup []) v.1) 0 ((rP true (Et)) v.2) := by
 refine M8 Z3 (Nat.le_of_ble_eq_true rfl) ?_
 unfold Dc at h
 conv => whnf
 refine CallQ.o V.str (by first | rfl | simp only [Aa, V.fz, fzL, V.up, upL, Ab, Ac, Ad, slr, List.cons_append, List.nil_append] | simp [Aa, V.fz, fzL, V.up, upL, Ab, Ac, Ad, slr]) h (fun r h => K5 h) (fun r1 h => ?_)
 conv => whnf
 refine Cells.lit rfl rfl ?_
 conv => whnf
 refine Kid.lit rfl rfl ?_
 conv => whnf
 refine LkQ.one Lf.bool V.bool c0.seen (false) (by first | rfl | simp [Ar]) rfl (fun _ => rfl) ?_
 conv => whnf
 refine Br.flip ?_
 conv => whnf
 refine Br.ob h (fun p2 h => ?_) (fun p2 h => ?_)
 ·conv => whnf
  cases h; exact ⟨(by first | rfl | simp only [Ah, Aa, V.fz, fzL, V.up, upL, Ab, Ac, Ad, slr] | simp [Ah, Aa, V.fz, fzL, V.up, upL, Ab, Ac, Ad, slr]), (by first | rfl | simp only [Ah, Aa, V.fz, fzL, V.up, upL, Ab, Ac, Ad, slr] | simp [Ah, Aa, V.fz, fzL, V.up, upL, Ab, Ac, Ad, slr])⟩
 conv => whnf
 refine Cells.lit rfl rfl ?_
 conv => whnf
 refine Kid.lit rfl rfl ?_
 conv => whnf
 refine MsQ.o Lf.bool c0.seen true (by first | rfl | simp [Ar]) rfl ?_
 conv => whnf
 refine Kid.lit rfl rfl ?_
 conv => whnf
 refine SetKids.lit rfl ?_
 conv => whnf
 refine Cells.lit rfl rfl ?_
 conv => whnf
 refine BslQ.o (slr false 1 Ae) [table0] (by exact fun _ => ⟨rfl, rfl⟩) (by first | rfl | simp only [Aa, V.fz, fzL, V.up, upL, Ab, Ac, Ad, slr, List.cons_append, List.nil_append] | simp [Aa, V.fz, fzL, V.up, upL, Ab, Ac, Ad, slr]) ?_
 conv => whnf
 refine NoOwn.o (fun _ => rfl) ?_
 conv => whnf
 refine Kid.lit rfl rfl ?_
 conv => whnf
 refine Kid.lit rfl rfl ?_
 conv => whnf
 refine SetKids.lit rfl ?_
 conv => whnf
 refine AppQ.o (m := 1) (slr false 1 Ae) (by exact fun _ => ⟨rfl, rfl⟩) (c0.tables) ([table0]) (by first | rfl | simp only [Aa, V.fz, fzL, V.up, upL, Ab, Ac, Ad, slr, List.cons_append, List.nil_append] | simp [Aa, V.fz, fzL, V.up, upL, Ab, Ac, Ad, slr]) (by first | rfl | simp only [Aa, V.fz, fzL, V.up, upL, Ab, Ac, Ad, slr, List.cons_append, List.nil_append] | simp [Aa, V.fz, fzL, V.up, upL, Ab, Ac, Ad, slr]) h fun h => ?_
 conv => whnf
 refine SetKids.lit rfl ?_
 conv => whnf
 refine Two.mk ⟨?_, ?_⟩
 ·conv => whnf
  refine SameQ.mk ⟨rfl, ?_⟩
  conv => whnf
  refine SameQ.mk ⟨rfl, ?_⟩
  conv => whnf
  refine SameQ.mk ⟨rfl, ?_⟩
  conv => whnf
  refine SameQ.mk ⟨rfl, ?_⟩
  conv => whnf
  refine Two.mk ⟨?_, ?_⟩
  ·conv => whnf
   refine SameQ.mk ⟨rfl, ?_⟩
   conv => whnf
   refine SameQ.mk ⟨rfl, ?_⟩
   conv => whnf
   refine SameQ.mk ⟨rfl, ?_⟩
   conv => whnf
   refine Two.mk ⟨?_, ?_⟩
   ·conv => whnf
    refine SameQ.mk ⟨rfl, ?_⟩
    conv => whnf
    refine SameQ.mk ⟨rfl, ?_⟩
    conv => whnf
    refine SameQ.mk ⟨rfl, ?_⟩
    conv => whnf
    refine Cells.lit rfl rfl ?_
    conv => whnf
    refine SameQ.mk ⟨rfl, ?_⟩
    conv => whnf
    refine SameQ.mk ⟨rfl, ?_⟩
    conv => whnf
    refine SameQ.mk ⟨rfl, ?_⟩
    conv => whnf
    refine CallQ.o (slr false 1 Ae) (by first | rfl | simp only [Aa, V.fz, fzL, V.up, upL, Ab, Ac, Ad, slr, List.cons_append, List.nil_append] | simp [Aa, V.fz, fzL, V.up, upL, Ab, Ac, Ad, slr]) h (fun r h => Ret.frz (Kc h) (by first | rfl | simp only [V.fz, Ab, slr] | simp [Aa, V.fz, fzL, V.up, upL, Ab, Ac, Ad, slr])) (fun r3 h => ?_)
    conv => whnf
    refine SameQ.mk ⟨rfl, ?_⟩
    conv => whnf
    refine SameQ.mk ⟨rfl, ?_⟩
    conv => whnf
    refine SameQ.mk ⟨rfl, ?_⟩
    conv => whnf
    refine BslQ.o (Ag false) ([{ Op := op0, Args := r3 }]) (by exact fun _ => ⟨rfl, rfl⟩) (by first | rfl | simp only [Aa, V.fz, fzL, V.up, upL, Ab, Ac, Ad, slr, List.cons_append, List.nil_append] | simp [Aa, V.fz, fzL, V.up, upL, Ab, Ac, Ad, slr]) ?_
    conv => whnf
    refine SameQ.mk ⟨rfl, ?_⟩
    conv => whnf
    refine NoOwn.o (fun _ => rfl) ?_
    conv => whnf
    refine Kid.lit rfl rfl ?_
    conv => whnf
    refine Kid.lit rfl rfl ?_
    conv => whnf
    refine SetKids.lit rfl ?_
    conv => whnf
    refine AppQ.o (m := 2) (Ag false) (by exact fun _ => ⟨rfl, rfl⟩) (c0.steps) ([{ Op := op0, Args := r3 }]) (by first | rfl | simp only [Aa, V.fz, fzL, V.up, upL, Ab, Ac, Ad, slr, List.cons_append, List.nil_append] | simp [Aa, V.fz, fzL, V.up, upL, Ab, Ac, Ad, slr]) (by first | rfl | simp only [Aa, V.fz, fzL, V.up, upL, Ab, Ac, Ad, slr, List.cons_append, List.nil_append] | simp [Aa, V.fz, fzL, V.up, upL, Ab, Ac, Ad, slr]) h fun h => ?_
    conv => whnf
    refine SameQ.mk ⟨rfl, ?_⟩
    conv => whnf
    refine SetKids.lit rfl ?_
    conv => whnf
    cases h; exact ⟨(by first | rfl | simp only [Ah, Aa, V.fz, fzL, V.up, upL, Ab, Ac, Ad, slr] | simp [Ah, Aa, V.fz, fzL, V.up, upL, Ab, Ac, Ad, slr]), (by first | rfl | simp only [Ah, Aa, V.fz, fzL, V.up, upL, Ab, Ac, Ad, slr] | simp [Ah, Aa, V.fz, fzL, V.up, upL, Ab, Ac, Ad, slr])⟩
   conv => whnf
   refine SameQ.mk ⟨rfl, ?_⟩
   conv => whnf
   refine SameQ.mk ⟨rfl, ?_⟩
   conv => whnf
   refine SameQ.mk ⟨rfl, ?_⟩
   conv => whnf
   refine CallQ.o (slr false 1 Ae) (by first | rfl | simp only [Aa, V.fz, fzL, V.up, upL, Ab, Ac, Ad, slr, List.cons_append, List.nil_append] | simp [Aa, V.fz, fzL, V.up, upL, Ab, Ac, Ad, slr]) h (fun r h => Ret.frz (Kc h) (by first | rfl | simp only [V.fz, Ab, slr] | simp [Aa, V.fz, fzL, V.up, upL, Ab, Ac, Ad, slr])) (fun r4 h => ?_)
   conv => whnf
   refine Two.mk ⟨?_, ?_⟩
   ·conv => whnf
    refine SameQ.mk ⟨rfl, ?_⟩
    conv => whnf
    refine SameQ.mk ⟨rfl, ?_⟩
    conv => whnf
    refine Cells.lit rfl rfl ?_
    conv => whnf
    refine SameQ.mk ⟨rfl, ?_⟩
    conv => whnf
    refine SameQ.mk ⟨rfl, ?_⟩
    conv => whnf
    refine SameQ.mk ⟨rfl, ?_⟩
    conv => whnf
    refine BslQ.o (Ag false) ([{ Op := op0, Args := r4 }]) (by exact fun _ => ⟨rfl, rfl⟩) (by first | rfl | simp only [Aa, V.fz, fzL, V.up, upL, Ab, Ac, Ad, slr, List.cons_append, List.nil_append] | simp [Aa, V.fz, fzL, V.up, upL, Ab, Ac, Ad, slr]) ?_
    conv => whnf
    refine SameQ.mk ⟨rfl, ?_⟩
    conv => whnf
    refine NoOwn.o (fun _ => rfl) ?_
    conv => whnf
    refine Kid.lit rfl rfl ?_
    conv => whnf
    refine Kid.lit rfl rfl ?_
    conv => whnf
    refine SetKids.lit rfl ?_
    conv => whnf
    refine AppQ.o (m := 2) (Ag false) (by exact fun _ => ⟨rfl, rfl⟩) (c0.steps) ([{ Op := op0, Args := r4 }]) (by first | rfl | simp only [Aa, V.fz, fzL, V.up, upL, Ab, Ac, Ad, slr, List.cons_append, List.nil_append] | simp [Aa, V.fz, fzL, V.up, upL, Ab, Ac, Ad, slr]) (by first | rfl | simp only [Aa, V.fz, fzL, V.up, upL, Ab, Ac, Ad, slr, List.cons_append, List.nil_append] | simp [Aa, V.fz, fzL, V.up, upL, Ab, Ac, Ad, slr]) h fun h => ?_
    conv => whnf
    refine SameQ.mk ⟨rfl, ?_⟩
    conv => whnf
    refine SetKids.lit rfl ?_
    conv => whnf
    cases h; exact ⟨(by first | rfl | simp only [Ah, Aa, V.fz, fzL, V.up, upL, Ab, Ac, Ad, slr] | simp [Ah, Aa, V.fz, fzL, V.up, upL, Ab, Ac, Ad, slr]), (by first | rfl | simp only [Ah, Aa, V.fz, fzL, V.up, upL, Ab, Ac, Ad, slr] | simp [Ah, Aa, V.fz, fzL, V.up, upL, Ab, Ac, Ad, slr])⟩
   conv => whnf
   refine SameQ.mk ⟨rfl, ?_⟩
   conv => whnf
   refine SameQ.mk ⟨rfl, ?_⟩
   conv => whnf
   refine Two.mk ⟨?_, ?_⟩
   ·conv => whnf
    refine SameQ.mk ⟨rfl, ?_⟩
    conv => whnf
    refine Cells.lit rfl rfl ?_
    conv => whnf
    refine SameQ.mk ⟨rfl, ?_⟩
    conv => whnf
    refine BslQ.o (Ag false) ([{ Op := op0, Args := r4 }]) (by exact fun _ => ⟨rfl, rfl⟩) (by first | rfl | simp only [Aa, V.fz, fzL, V.up, upL, Ab, Ac, Ad, slr, List.cons_append, List.nil_append] | simp [Aa, V.fz, fzL, V.up, upL, Ab, Ac, Ad, slr]) ?_
    conv => whnf
    refine SameQ.mk ⟨rfl, ?_⟩
    conv => whnf
    refine NoOwn.o (fun _ => rfl) ?_
    conv => whnf
    refine Kid.lit rfl rfl ?_
    conv => whnf
    refine Kid.lit rfl rfl ?_
    conv => whnf
    refine SetKids.lit rfl ?_
    conv => whnf
    refine AppQ.o (m := 2) (Ag false) (by exact fun _ => ⟨rfl, rfl⟩) (c0.steps) ([{ Op := op0, Args := r4 }]) (by first | rfl | simp only [Aa, V.fz, fzL, V.up, upL, Ab, Ac, Ad, slr, List.cons_append, List.nil_append] | simp [Aa, V.fz, fzL, V.up, upL, Ab, Ac, Ad, slr]) (by first | rfl | simp only [Aa, V.fz, fzL, V.up, upL, Ab, Ac, Ad, slr, List.cons_append, List.nil_append] | simp [Aa, V.fz, fzL, V.up, upL, Ab, Ac, Ad, slr]) h fun h => ?_
    conv => whnf
    refine SameQ.mk ⟨rfl, ?_⟩
    conv => whnf
    refine SetKids.lit rfl ?_
    conv => whnf
    cases h; exact ⟨(by first | rfl | simp only [Ah, Aa, V.fz, fzL, V.up, upL, Ab, Ac, Ad, slr] | simp [Ah, Aa, V.fz, fzL, V.up, upL, Ab, Ac, Ad, slr]), (by first | rfl | simp only [Ah, Aa, V.fz, fzL, V.up, upL, Ab, Ac, Ad, slr] | simp [Ah, Aa, V.fz, fzL, V.up, upL, Ab, Ac, Ad, slr])⟩
   conv => whnf
   refine SameQ.mk ⟨rfl, ?_⟩
   conv => whnf
   refine BslQ.o (Ag false) ([{ Op := op0, Args := r4 }]) (by exact fun _ => ⟨rfl, rfl⟩) (by first | rfl | simp only [Aa, V.fz, fzL, V.up, upL, Ab, Ac, Ad, slr, List.cons_append, List.nil_append] | simp [Aa, V.fz, fzL, V.up, upL, Ab, Ac, Ad, slr]) ?_
   conv => whnf
   refine SameQ.mk ⟨rfl, ?_⟩
   conv => whnf
   refine Cells.lit rfl rfl ?_
   conv => whnf
   refine SameQ.mk ⟨rfl, ?_⟩
   conv => whnf
   refine NoOwn.o (fun _ => rfl) ?_
   conv => whnf
   refine Kid.lit rfl rfl ?_
   conv => whnf
   refine Kid.lit rfl rfl ?_
   conv => whnf
   refine SetKids.lit rfl ?_
   conv => whnf
   refine AppQ.o (m := 2) (Ag false) (by exact fun _ => ⟨rfl, rfl⟩) (c0.steps) ([{ Op := op0, Args := r4 }]) (by first | rfl | simp only [Aa, V.fz, fzL, V.up, upL, Ab, Ac, Ad, slr, List.cons_append, List.nil_append] | simp [Aa, V.fz, fzL, V.up, upL, Ab, Ac, Ad, slr]) (by first | rfl | simp only [Aa, V.fz, fzL, V.up, upL, Ab, Ac, Ad, slr, List.cons_append, List.nil_append] | simp [Aa, V.fz, fzL, V.up, upL, Ab, Ac, Ad, slr]) h fun h => ?_
   conv => whnf
   refine SameQ.mk ⟨rfl, ?_⟩
   conv => whnf
   refine SetKids.lit rfl ?_
   conv => whnf
   cases h; exact ⟨(by first | rfl | simp only [Ah, Aa, V.fz, fzL, V.up, upL, Ab, Ac, Ad, slr] | simp [Ah, Aa, V.fz, fzL, V.up, upL, Ab, Ac, Ad, slr]), (by first | rfl | simp only [Ah, Aa, V.fz, fzL, V.up, upL, Ab, Ac, Ad, slr] | simp [Ah, Aa, V.fz, fzL, V.up, upL, Ab, Ac, Ad, slr])⟩
  conv => whnf
  refine SameQ.mk ⟨rfl, ?_⟩
  conv => whnf
  refine SameQ.mk ⟨rfl, ?_⟩
  conv => whnf
  refine SameQ.mk ⟨rfl, ?_⟩
  conv => whnf
  refine CallQ.o (slr false 1 Ae) (by first | rfl | simp only [Aa, V.fz, fzL, V.up, upL, Ab, Ac, Ad, slr, List.cons_append, List.nil_append] | simp [Aa, V.fz, fzL, V.up, upL, Ab, Ac, Ad, slr]) h (fun r h => Ret.frz (Kc h) (by first | rfl | simp only [V.fz, Ab, slr] | simp [Aa, V.fz, fzL, V.up, upL, Ab, Ac, Ad, slr])) (fun r5 h => ?_)
  conv => whnf
  refine Two.mk ⟨?_, ?_⟩
  ·conv => whnf
   refine SameQ.mk ⟨rfl, ?_⟩
   conv => whnf
   refine SameQ.mk ⟨rfl, ?_⟩
   conv => whnf
   refine Two.mk ⟨?_, ?_⟩
   ·conv => whnf
    refine SameQ.mk ⟨rfl, ?_⟩
    conv => whnf
    refine SameQ.mk ⟨rfl, ?_⟩
    conv => whnf
    refine Cells.lit rfl rfl ?_
    conv => whnf
    refine SameQ.mk ⟨rfl, ?_⟩
    conv => whnf
    refine SameQ.mk ⟨rfl, ?_⟩
    conv => whnf
    refine SameQ.mk ⟨rfl, ?_⟩
    conv => whnf
    refine BslQ.o (Ag false) ([{ Op := op0, Args := r5 }]) (by exact fun _ => ⟨rfl, rfl⟩) (by first | rfl | simp only [Aa, V.fz, fzL, V.up, upL, Ab, Ac, Ad, slr, List.cons_append, List.nil_append] | simp [Aa, V.fz, fzL, V.up, upL, Ab, Ac, Ad, slr]) ?_
    conv => whnf
    refine SameQ.mk ⟨rfl, ?_⟩
    conv => whnf
    refine NoOwn.o (fun _ => rfl) ?_
    conv => whnf
    refine Kid.lit rfl rfl ?_
    conv => whnf
    refine Kid.lit rfl rfl ?_
    conv => whnf
    refine SetKids.lit rfl ?_
    conv => whnf
    refine AppQ.o (m := 2) (Ag false) (by exact fun _ => ⟨rfl, rfl⟩) (c0.steps) ([{ Op := op0, Args := r5 }]) (by first | rfl | simp only [Aa, V.fz, fzL, V.up, upL, Ab, Ac, Ad, slr, List.cons_append, List.nil_append] | simp [Aa, V.fz, fzL, V.up, upL, Ab, Ac, Ad, slr]) (by first | rfl | simp only [Aa, V.fz, fzL, V.up, upL, Ab, Ac, Ad, slr, List.cons_append, List.nil_append] | simp [Aa, V.fz, fzL, V.up, upL, Ab, Ac, Ad, slr]) h fun h => ?_
    conv => whnf
    refine SameQ.mk ⟨rfl, ?_⟩
    conv => whnf
    refine SetKids.lit rfl ?_
    conv => whnf
    cases h; exact ⟨(by first | rfl | simp only [Ah, Aa, V.fz, fzL, V.up, upL, Ab, Ac, Ad, slr] | simp [Ah, Aa, V.fz, fzL, V.up, upL, Ab, Ac, Ad, slr]), (by first | rfl | simp only [Ah, Aa, V.fz, fzL, V.up, upL, Ab, Ac, Ad, slr] | simp [Ah, Aa, V.fz, fzL, V.up, upL, Ab, Ac, Ad, slr])⟩
   conv => whnf
   refine SameQ.mk ⟨rfl, ?_⟩
   conv => whnf
   refine SameQ.mk ⟨rfl, ?_⟩
   conv => whnf
   refine Two.mk ⟨?_, ?_⟩
   ·conv => whnf
    refine SameQ.mk ⟨rfl, ?_⟩
    conv => whnf
    refine Cells.lit rfl rfl ?_
    conv => whnf
    refine SameQ.mk ⟨rfl, ?_⟩
    conv => whnf
    refine BslQ.o (Ag false) ([{ Op := op0, Args := r5 }]) (by exact fun _ => ⟨rfl, rfl⟩) (by first | rfl | simp only [Aa, V.fz, fzL, V.up, upL, Ab, Ac, Ad, slr, List.cons_append, List.nil_append] | simp [Aa, V.fz, fzL, V.up, upL, Ab, Ac, Ad, slr]) ?_
    conv => whnf
    refine SameQ.mk ⟨rfl, ?_⟩
    conv => whnf
    refine NoOwn.o (fun _ => rfl) ?_
    conv => whnf
    refine Kid.lit rfl rfl ?_
    conv => whnf
    refine Kid.lit rfl rfl ?_
    conv => whnf
    refine SetKids.lit rfl ?_
    conv => whnf
    refine AppQ.o (m := 2) (Ag false) (by exact fun _ => ⟨rfl, rfl⟩) (c0.steps) ([{ Op := op0, Args := r5 }]) (by first | rfl | simp only [Aa, V.fz, fzL, V.up, upL, Ab, Ac, Ad, slr, List.cons_append, List.nil_append] | simp [Aa, V.fz, fzL, V.up, upL, Ab, Ac, Ad, slr]) (by first | rfl | simp only [Aa, V.fz, fzL, V.up, upL, Ab, Ac, Ad, slr, List.cons_append, List.nil_append] | simp [Aa, V.fz, fzL, V.up, upL, Ab, Ac, Ad, slr]) h fun h => ?_
    conv => whnf
    refine SameQ.mk ⟨rfl, ?_⟩
    conv => whnf
    refine SetKids.lit rfl ?_
    conv => whnf
    cases h; exact ⟨(by first | rfl | simp only [Ah, Aa, V.fz, fzL, V.up, upL, Ab, Ac, Ad, slr] | simp [Ah, Aa, V.fz, fzL, V.up, upL, Ab, Ac, Ad, slr]), (by first | rfl | simp only [Ah, Aa, V.fz, fzL, V.up, upL, Ab, Ac, Ad, slr] | simp [Ah, Aa, V.fz, fzL, V.up, upL, Ab, Ac, Ad, slr])⟩
   conv => whnf
   refine SameQ.mk ⟨rfl, ?_⟩
   conv => whnf
   refine BslQ.o (Ag false) ([{ Op := op0, Args := r5 }]) (by exact fun _ => ⟨rfl, rfl⟩) (by first | rfl | simp only [Aa, V.fz, fzL, V.up, upL, Ab, Ac, Ad, slr, List.cons_append, List.nil_append] | simp [Aa, V.fz, fzL, V.up, upL, Ab, Ac, Ad, slr]) ?_
   conv => whnf
   refine SameQ.mk ⟨rfl, ?_⟩
   conv => whnf
   refine Cells.lit rfl rfl ?_
   conv => whnf
   refine SameQ.mk ⟨rfl, ?_⟩
   conv => whnf
   refine NoOwn.o (fun _ => rfl) ?_
   conv => whnf
   refine Kid.lit rfl rfl ?_
   conv => whnf
   refine Kid.lit rfl rfl ?_
   conv => whnf
   refine SetKids.lit rfl ?_
   conv => whnf
   refine AppQ.o (m := 2) (Ag false) (by exact fun _ => ⟨rfl, rfl⟩) (c0.steps) ([{ Op := op0, Args := r5 }]) (by first | rfl | simp only [Aa, V.fz, fzL, V.up, upL, Ab, Ac, Ad, slr, List.cons_append, List.nil_append] | simp [Aa, V.fz, fzL, V.up, upL, Ab, Ac, Ad, slr]) (by first | rfl | simp only [Aa, V.fz, fzL, V.up, upL, Ab, Ac, Ad, slr, List.cons_append, List.nil_append] | simp [Aa, V.fz, fzL, V.up, upL, Ab, Ac, Ad, slr]) h fun h => ?_
   conv => whnf
   refine SameQ.mk ⟨rfl, ?_⟩
   conv => whnf
   refine SetKids.lit rfl ?_
   conv => whnf
   cases h; exact ⟨(by first | rfl | simp only [Ah, Aa, V.fz, fzL, V.up, upL, Ab, Ac, Ad, slr] | simp [Ah, Aa, V.fz, fzL, V.up, upL, Ab, Ac, Ad, slr]), (by first | rfl | simp only [Ah, Aa, V.fz, fzL, V.up, upL, Ab, Ac, Ad, slr] | simp [Ah, Aa, V.fz, fzL, V.up, upL, Ab, Ac, Ad, slr])⟩
  conv => whnf
  refine SameQ.mk ⟨rfl, ?_⟩
  conv => whnf
  refine SameQ.mk ⟨rfl, ?_⟩
  conv => whnf
  refine Two.mk ⟨?_, ?_⟩
  ·conv => whnf
   refine SameQ.mk ⟨rfl, ?_⟩
   conv => whnf
   refine Two.mk ⟨?_, ?_⟩
   ·conv => whnf
    refine SameQ.mk ⟨rfl, ?_⟩
    conv => whnf
    refine Cells.lit rfl rfl ?_
    conv => whnf
    refine SameQ.mk ⟨rfl, ?_⟩
    conv => whnf
    refine BslQ.o (Ag false) ([{ Op := op0, Args := r5 }]) (by exact fun _ => ⟨rfl, rfl⟩) (by first | rfl | simp only [Aa, V.fz, fzL, V.up, upL, Ab, Ac, Ad, slr, List.cons_append, List.nil_append] | simp [Aa, V.fz, fzL, V.up, upL, Ab, Ac, Ad, slr]) ?_
    conv => whnf
    refine SameQ.mk ⟨rfl, ?_⟩
    conv => whnf
    refine NoOwn.o (fun _ => rfl) ?_
    conv => whnf
    refine Kid.lit rfl rfl ?_
    conv => whnf
    refine Kid.lit rfl rfl ?_
    conv => whnf
    refine SetKids.lit rfl ?_
    conv => whnf
    refine AppQ.o (m := 2) (Ag false) (by exact fun _ => ⟨rfl, rfl⟩) (c0.steps) ([{ Op := op0, Args := r5 }]) (by first | rfl | simp only [Aa, V.fz, fzL, V.up, upL, Ab, Ac, Ad, slr, List.cons_append, List.nil_append] | simp [Aa, V.fz, fzL, V.up, upL, Ab, Ac, Ad, slr]) (by first | rfl | simp only [Aa, V.fz, fzL, V.up, upL, Ab, Ac, Ad, slr, List.cons_append, List.nil_append] | simp [Aa, V.fz, fzL, V.up, upL, Ab, Ac, Ad, slr]) h fun h => ?_
    conv => whnf
    refine SameQ.mk ⟨rfl, ?_⟩
    conv => whnf
    refine SetKids.lit rfl ?_
    conv => whnf
    cases h; exact ⟨(by first | rfl | simp only [Ah, Aa, V.fz, fzL, V.up, upL, Ab, Ac, Ad, slr] | simp [Ah, Aa, V.fz, fzL, V.up, upL, Ab, Ac, Ad, slr]), (by first | rfl | simp only [Ah, Aa, V.fz, fzL, V.up, upL, Ab, Ac, Ad, slr] | simp [Ah, Aa, V.fz, fzL, V.up, upL, Ab, Ac, Ad, slr])⟩
   conv => whnf
   refine SameQ.mk ⟨rfl, ?_⟩
   conv => whnf
   refine BslQ.o (Ag false) ([{ Op := op0, Args := r5 }]) (by exact fun _ => ⟨rfl, rfl⟩) (by first | rfl | simp only [Aa, V.fz, fzL, V.up, upL, Ab, Ac, Ad, slr, List.cons_append, List.nil_append] | simp [Aa, V.fz, fzL, V.up, upL, Ab, Ac, Ad, slr]) ?_
   conv => whnf
   refine SameQ.mk ⟨rfl, ?_⟩
   conv => whnf
   refine Cells.lit rfl rfl ?_
   conv => whnf
   refine SameQ.mk ⟨rfl, ?_⟩
   conv => whnf
   refine NoOwn.o (fun _ => rfl) ?_
   conv => whnf
   refine Kid.lit rfl rfl ?_
   conv => whnf
   refine Kid.lit rfl rfl ?_
   conv => whnf
   refine SetKids.lit rfl ?_
   conv => whnf
   refine AppQ.o (m := 2) (Ag false) (by exact fun _ => ⟨rfl, rfl⟩) (c0.steps) ([{ Op := op0, Args := r5 }]) (by first | rfl | simp only [Aa, V.fz, fzL, V.up, upL, Ab, Ac, Ad, slr, List.cons_append, List.nil_append] | simp [Aa, V.fz, fzL, V.up, upL, Ab, Ac, Ad, slr]) (by first | rfl | simp only [Aa, V.fz, fzL, V.up, upL, Ab, Ac, Ad, slr, List.cons_append, List.nil_append] | simp [Aa, V.fz, fzL, V.up, upL, Ab, Ac, Ad, slr]) h fun h => ?_
   conv => whnf
   refine SameQ.mk ⟨rfl, ?_⟩
   conv => whnf
   refine SetKids.lit rfl ?_
   conv => whnf
   cases h; exact ⟨(by first | rfl | simp only [Ah, Aa, V.fz, fzL, V.up, upL, Ab, Ac, Ad, slr] | simp [Ah, Aa, V.fz, fzL, V.up, upL, Ab, Ac, Ad, slr]), (by first | rfl | simp only [Ah, Aa, V.fz, fzL, V.up, upL, Ab, Ac, Ad, slr] | simp [Ah, Aa, V.fz, fzL, V.up, upL, Ab, Ac, Ad, slr])⟩
  conv => whnf
  refine SameQ.mk ⟨rfl, ?_⟩
  conv => whnf
  refine BslQ.o (Ag false) ([{ Op := op0, Args := r5 }]) (by exact fun _ => ⟨rfl, rfl⟩) (by first | rfl | simp only [Aa, V.fz, fzL, V.up, upL, Ab, Ac, Ad, slr, List.cons_append, List.nil_append] | simp [Aa, V.fz, fzL, V.up, upL, Ab, Ac, Ad, slr]) ?_
  conv => whnf
  refine SameQ.mk ⟨rfl, ?_⟩
  conv => whnf
  refine SameQ.mk ⟨rfl, ?_⟩
  conv => whnf
  refine Cells.lit rfl rfl ?_
  conv => whnf
  refine SameQ.mk ⟨rfl, ?_⟩
  conv => whnf
  refine NoOwn.o (fun _ => rfl) ?_
  conv => whnf
  refine Kid.lit rfl rfl ?_
  conv => whnf
  refine Kid.lit rfl rfl ?_
  conv => whnf
  refine SetKids.lit rfl ?_
  conv => whnf
  refine AppQ.o (m := 2) (Ag false) (by exact fun _ => ⟨rfl, rfl⟩) (c0.steps) ([{ Op := op0, Args := r5 }]) (by first | rfl | simp only [Aa, V.fz, fzL, V.up, upL, Ab, Ac, Ad, slr, List.cons_append, List.nil_append] | simp [Aa, V.fz, fzL, V.up, upL, Ab, Ac, Ad, slr]) (by first | rfl | simp only [Aa, V.fz, fzL, V.up, upL, Ab, Ac, Ad, slr, List.cons_append, List.nil_append] | simp [Aa, V.fz, fzL, V.up, upL, Ab, Ac, Ad, slr]) h fun h => ?_
  conv => whnf
  refine SameQ.mk ⟨rfl, ?_⟩
  conv => whnf
  refine SetKids.lit rfl ?_
  conv => whnf
  cases h; exact ⟨(by first | rfl | simp only [Ah, Aa, V.fz, fzL, V.up, upL, Ab, Ac, Ad, slr] | simp [Ah, Aa, V.fz, fzL, V.up, upL, Ab, Ac, Ad, slr]), (by first | rfl | simp only [Ah, Aa, V.fz, fzL, V.up, upL, Ab, Ac, Ad, slr] | simp [Ah, Aa, V.fz, fzL, V.up, upL, Ab, Ac, Ad, slr])⟩
 conv => whnf
 refine SameQ.mk ⟨rfl, ?_⟩
 conv => whnf
 refine SameQ.mk ⟨rfl, ?_⟩
 conv => whnf
 refine SameQ.mk ⟨rfl, ?_⟩
 conv => whnf
 refine SameQ.mk ⟨rfl, ?_⟩
 conv => whnf
 refine CallQ.o (slr false 1 Ae) (by first | rfl | simp only [Aa, V.fz, fzL, V.up, upL, Ab, Ac, Ad, slr, List.cons_append, List.nil_append] | simp [Aa, V.fz, fzL, V.up, upL, Ab, Ac, Ad, slr]) h (fun r h => Ret.frz (Kc h) (by first | rfl | simp only [V.fz, Ab, slr] | simp [Aa, V.fz, fzL, V.up, upL, Ab, Ac, Ad, slr])) (fun r6 h => ?_)
 conv => whnf
 refine Two.mk ⟨?_, ?_⟩
 ·conv => whnf
  refine SameQ.mk ⟨rfl, ?_⟩
  conv => whnf
  refine SameQ.mk ⟨rfl, ?_⟩
  conv => whnf
  refine SameQ.mk ⟨rfl, ?_⟩
  conv => whnf
  refine Two.mk ⟨?_, ?_⟩
  ·conv => whnf
   refine SameQ.mk ⟨rfl, ?_⟩
   conv => whnf
   refine SameQ.mk ⟨rfl, ?_⟩
   conv => whnf
   refine Two.mk ⟨?_, ?_⟩
   ·conv => whnf
    refine SameQ.mk ⟨rfl, ?_⟩
    conv => whnf
    refine SameQ.mk ⟨rfl, ?_⟩
    conv => whnf
    refine Cells.lit rfl rfl ?_
    conv => whnf
    refine SameQ.mk ⟨rfl, ?_⟩
    conv => whnf
    refine SameQ.mk ⟨rfl, ?_⟩
    conv => whnf
    refine SameQ.mk ⟨rfl, ?_⟩
    conv => whnf
    refine BslQ.o (Ag false) ([{ Op := op0, Args := r6 }]) (by exact fun _ => ⟨rfl, rfl⟩) (by first | rfl | simp only [Aa, V.fz, fzL, V.up, upL, Ab, Ac, Ad, slr, List.cons_append, List.nil_append] | simp [Aa, V.fz, fzL, V.up, upL, Ab, Ac, Ad, slr]) ?_
    conv => whnf
    refine SameQ.mk ⟨rfl, ?_⟩
    conv => whnf
    refine NoOwn.o (fun _ => rfl) ?_
    conv => whnf
    refine Kid.lit rfl rfl ?_
    conv => whnf
    refine Kid.lit rfl rfl ?_
    conv => whnf
    refine SetKids.lit rfl ?_
    conv => whnf
    refine AppQ.o (m := 2) (Ag false) (by exact fun _ => ⟨rfl, rfl⟩) (c0.steps) ([{ Op := op0, Args := r6 }]) (by first | rfl | simp only [Aa, V.fz, fzL, V.up, upL, Ab, Ac, Ad, slr, List.cons_append, List.nil_append] | simp [Aa, V.fz, fzL, V.up, upL, Ab, Ac, Ad, slr]) (by first | rfl | simp only [Aa, V.fz, fzL, V.up, upL, Ab, Ac, Ad, slr, List.cons_append, List.nil_append] | simp [Aa, V.fz, fzL, V.up, upL, Ab, Ac, Ad, slr]) h fun h => ?_
    conv => whnf
    refine SameQ.mk ⟨rfl, ?_⟩
    conv => whnf
    refine SetKids.lit rfl ?_
    conv => whnf
    cases h; exact ⟨(by first | rfl | simp only [Ah, Aa, V.fz, fzL, V.up, upL, Ab, Ac, Ad, slr] | simp [Ah, Aa, V.fz, fzL, V.up, upL, Ab, Ac, Ad, slr]), (by first | rfl | simp only [Ah, Aa, V.fz, fzL, V.up, upL, Ab, Ac, Ad, slr] | simp [Ah, Aa, V.fz, fzL, V.up, upL, Ab, Ac, Ad, slr])⟩
   conv => whnf
   refine SameQ.mk ⟨rfl, ?_⟩
   conv => whnf
   refine SameQ.mk ⟨rfl, ?_⟩
   conv => whnf
   refine Two.mk ⟨?_, ?_⟩
   ·conv => whnf
    refine SameQ.mk ⟨rfl, ?_⟩
    conv => whnf
    refine Cells.lit rfl rfl ?_
    conv => whnf
    refine SameQ.mk ⟨rfl, ?_⟩
    conv => whnf
    refine BslQ.o (Ag false) ([{ Op := op0, Args := r6 }]) (by exact fun _ => ⟨rfl, rfl⟩) (by first | rfl | simp only [Aa, V.fz, fzL, V.up, upL, Ab, Ac, Ad, slr, List.cons_append, List.nil_append] | simp [Aa, V.fz, fzL, V.up, upL, Ab, Ac, Ad, slr]) ?_
    conv => whnf
    refine SameQ.mk ⟨rfl, ?_⟩
    conv => whnf
    refine NoOwn.o (fun _ => rfl) ?_
    conv => whnf
    refine Kid.lit rfl rfl ?_
    conv => whnf
    refine Kid.lit rfl rfl ?_
    conv => whnf
    refine SetKids.lit rfl ?_
    conv => whnf
    refine AppQ.o (m := 2) (Ag false) (by exact fun _ => ⟨rfl, rfl⟩) (c0.steps) ([{ Op := op0, Args := r6 }]) (by first | rfl | simp only [Aa, V.fz, fzL, V.up, upL, Ab, Ac, Ad, slr, List.cons_append, List.nil_append] | simp [Aa, V.fz, fzL, V.up, upL, Ab, Ac, Ad, slr]) (by first | rfl | simp only [Aa, V.fz, fzL, V.up, upL, Ab, Ac, Ad, slr, List.cons_append, List.nil_append] | simp [Aa, V.fz, fzL, V.up, upL, Ab, Ac, Ad, slr]) h fun h => ?_
    conv => whnf
    refine SameQ.mk ⟨rfl, ?_⟩
    conv => whnf
    refine SetKids.lit rfl ?_
    conv => whnf
    cases h; exact ⟨(by first | rfl | simp only [Ah, Aa, V.fz, fzL, V.up, upL, Ab, Ac, Ad, slr] | simp [Ah, Aa, V.fz, fzL, V.up, upL, Ab, Ac, Ad, slr]), (by first | rfl | simp only [Ah, Aa, V.fz, fzL, V.up, upL, Ab, Ac, Ad, slr] | simp [Ah, Aa, V.fz, fzL, V.up, upL, Ab, Ac, Ad, slr])⟩
   conv => whnf
   refine SameQ.mk ⟨rfl, ?_⟩
   conv => whnf
   refine BslQ.o (Ag false) ([{ Op := op0, Args := r6 }]) (by exact fun _ => ⟨rfl, rfl⟩) (by first | rfl | simp only [Aa, V.fz, fzL, V.up, upL, Ab, Ac, Ad, slr, List.cons_append, List.nil_append] | simp [Aa, V.fz, fzL, V.up, upL, Ab, Ac, Ad, slr]) ?_
   conv => whnf
   refine SameQ.mk ⟨rfl, ?_⟩
   conv => whnf
   refine Cells.lit rfl rfl ?_
   conv => whnf
   refine SameQ.mk ⟨rfl, ?_⟩
   conv => whnf
   refine NoOwn.o (fun _ => rfl) ?_
   conv => whnf
   refine Kid.lit rfl rfl ?_
   conv => whnf
   refine Kid.lit rfl rfl ?_
   conv => whnf
   refine SetKids.lit rfl ?_
   conv => whnf
   refine AppQ.o (m := 2) (Ag false) (by exact fun _ => ⟨rfl, rfl⟩) (c0.steps) ([{ Op := op0, Args := r6 }]) (by first | rfl | simp only [Aa, V.fz, fzL, V.up, upL, Ab, Ac, Ad, slr, List.cons_append, List.nil_append] | simp [Aa, V.fz, fzL, V.up, upL, Ab, Ac, Ad, slr]) (by first | rfl | simp only [Aa, V.fz, fzL, V.up, upL, Ab, Ac, Ad, slr, List.cons_append, List.nil_append] | simp [Aa, V.fz, fzL, V.up, upL, Ab, Ac, Ad, slr]) h fun h => ?_
   conv => whnf
   refine SameQ.mk ⟨rfl, ?_⟩
   conv => whnf
   refine SetKids.lit rfl ?_
   conv => whnf
   cases h; exact ⟨(by first | rfl | simp only [Ah, Aa, V.fz, fzL, V.up, upL, Ab, Ac, Ad, slr] | simp [Ah, Aa, V.fz, fzL, V.up, upL, Ab, Ac, Ad, slr]), (by first | rfl | simp only [Ah, Aa, V.fz, fzL, V.up, upL, Ab, Ac, Ad, slr] | simp [Ah, Aa, V.fz, fzL, V.up, upL, Ab, Ac, Ad, slr])⟩
  conv => whnf
  refine SameQ.mk ⟨rfl, ?_⟩
  conv => whnf
  refine SameQ.mk ⟨rfl, ?_⟩
  conv => whnf
  refine Two.mk ⟨?_, ?_⟩
  ·conv => whnf
   refine SameQ.mk ⟨rfl, ?_⟩
   conv => whnf
   refine Two.mk ⟨?_, ?_⟩
   ·conv => whnf
    refine SameQ.mk ⟨rfl, ?_⟩
    conv => whnf
    refine Cells.lit rfl rfl ?_
    conv => whnf
    refine SameQ.mk ⟨rfl, ?_⟩
    conv => whnf
    refine BslQ.o (Ag false) ([{ Op := op0, Args := r6 }]) (by exact fun _ => ⟨rfl, rfl⟩) (by first | rfl | simp only [Aa, V.fz, fzL, V.up, upL, Ab, Ac, Ad, slr, List.cons_append, List.nil_append] | simp [Aa, V.fz, fzL, V.up, upL, Ab, Ac, Ad, slr]) ?_
    conv => whnf
    refine SameQ.mk ⟨rfl, ?_⟩
    conv => whnf
    refine NoOwn.o (fun _ => rfl) ?_
    conv => whnf
    refine Kid.lit rfl rfl ?_
    conv => whnf
    refine Kid.lit rfl rfl ?_
    conv => whnf
    refine SetKids.lit rfl ?_
    conv => whnf
    refine AppQ.o (m := 2) (Ag false) (by exact fun _ => ⟨rfl, rfl⟩) (c0.steps) ([{ Op := op0, Args := r6 }]) (by first | rfl | simp only [Aa, V.fz, fzL, V.up, upL, Ab, Ac, Ad, slr, List.cons_append, List.nil_append] | simp [Aa, V.fz, fzL, V.up, upL, Ab, Ac, Ad, slr]) (by first | rfl | simp only [Aa, V.fz, fzL, V.up, upL, Ab, Ac, Ad, slr, List.cons_append, List.nil_append] | simp [Aa, V.fz, fzL, V.up, upL, Ab, Ac, Ad, slr]) h fun h => ?_
    conv => whnf
    refine SameQ.mk ⟨rfl, ?_⟩
    conv => whnf
    refine SetKids.lit rfl ?_
    conv => whnf
    cases h; exact ⟨(by first | rfl | simp only [Ah, Aa, V.fz, fzL, V.up, upL, Ab, Ac, Ad, slr] | simp [Ah, Aa, V.fz, fzL, V.up, upL, Ab, Ac, Ad, slr]), (by first | rfl | simp only [Ah, Aa, V.fz, fzL, V.up, upL, Ab, Ac, Ad, slr] | simp [Ah, Aa, V.fz, fzL, V.up, upL, Ab, Ac, Ad, slr])⟩
   conv => whnf
   refine SameQ.mk ⟨rfl, ?_⟩
   conv => whnf
   refine BslQ.o (Ag false) ([{ Op := op0, Args := r6 }]) (by exact fun _ => ⟨rfl, rfl⟩) (by first | rfl | simp only [Aa, V.fz, fzL, V.up, upL, Ab, Ac, Ad, slr, List.cons_append, List.nil_append] | simp [Aa, V.fz, fzL, V.up, upL, Ab, Ac, Ad, slr]) ?_
   conv => whnf
   refine SameQ.mk ⟨rfl, ?_⟩
   conv => whnf
   refine Cells.lit rfl rfl ?_
   conv => whnf
   refine SameQ.mk ⟨rfl, ?_⟩
   conv => whnf
   refine NoOwn.o (fun _ => rfl) ?_
   conv => whnf
   refine Kid.lit rfl rfl ?_
   conv => whnf
   refine Kid.lit rfl rfl ?_
   conv => whnf
   refine SetKids.lit rfl ?_
   conv => whnf
   refine AppQ.o (m := 2) (Ag false) (by exact fun _ => ⟨rfl, rfl⟩) (c0.steps) ([{ Op := op0, Args := r6 }]) (by first | rfl | simp only [Aa, V.fz, fzL, V.up, upL, Ab, Ac, Ad, slr, List.cons_append, List.nil_append] | simp [Aa, V.fz, fzL, V.up, upL, Ab, Ac, Ad, slr]) (by first | rfl | simp only [Aa, V.fz, fzL, V.up, upL, Ab, Ac, Ad, slr, List.cons_append, List.nil_append] | simp [Aa, V.fz, fzL, V.up, upL, Ab, Ac, Ad, slr]) h fun h => ?_
   conv => whnf
   refine SameQ.mk ⟨rfl, ?_⟩
   conv => whnf
   refine SetKids.lit rfl ?_
   conv => whnf
   cases h; exact ⟨(by first | rfl | simp only [Ah, Aa, V.fz, fzL, V.up, upL, Ab, Ac, Ad, slr] | simp [Ah, Aa, V.fz, fzL, V.up, upL, Ab, Ac, Ad, slr]), (by first | rfl | simp only [Ah, Aa, V.fz, fzL, V.up, upL, Ab, Ac, Ad, slr] | simp [Ah, Aa, V.fz, fzL, V.up, upL, Ab, Ac, Ad, slr])⟩
  conv => whnf
  refine SameQ.mk ⟨rfl, ?_⟩
  conv => whnf
  refine BslQ.o (Ag false) ([{ Op := op0, Args := r6 }]) (by exact fun _ => ⟨rfl, rfl⟩) (by first | rfl | simp only [Aa, V.fz, fzL, V.up, upL, Ab, Ac, Ad, slr, List.cons_append, List.nil_append] | simp [Aa, V.fz, fzL, V.up, upL, Ab, Ac, Ad, slr]) ?_
  conv => whnf
  refine SameQ.mk ⟨rfl, ?_⟩
  conv => whnf
  refine SameQ.mk ⟨rfl, ?_⟩
  conv => whnf
  refine Cells.lit rfl rfl ?_
  conv => whnf
  refine SameQ.mk ⟨rfl, ?_⟩
  conv => whnf
  refine NoOwn.o (fun _ => rfl) ?_
  conv => whnf
  refine Kid.lit rfl rfl ?_
  conv => whnf
  refine Kid.lit rfl rfl ?_
  conv => whnf
  refine SetKids.lit rfl ?_
  conv => whnf
  refine AppQ.o (m := 2) (Ag false) (by exact fun _ => ⟨rfl, rfl⟩) (c0.steps) ([{ Op := op0, Args := r6 }]) (by first | rfl | simp only [Aa, V.fz, fzL, V.up, upL, Ab, Ac, Ad, slr, List.cons_append, List.nil_append] | simp [Aa, V.fz, fzL, V.up, upL, Ab, Ac, Ad, slr]) (by first | rfl | simp only [Aa, V.fz, fzL, V.up, upL, Ab, Ac, Ad, slr, List.cons_append, List.nil_append] | simp [Aa, V.fz, fzL, V.up, upL, Ab, Ac, Ad, slr]) h fun h => ?_
  conv => whnf
  refine SameQ.mk ⟨rfl, ?_⟩
  conv => whnf
  refine SetKids.lit rfl ?_
  conv => whnf
  cases h; exact ⟨(by first | rfl | simp only [Ah, Aa, V.fz, fzL, V.up, upL, Ab, Ac, Ad, slr] | simp [Ah, Aa, V.fz, fzL, V.up, upL, Ab, Ac, Ad, slr]), (by first | rfl | simp only [Ah, Aa, V.fz, fzL, V.up, upL, Ab, Ac, Ad, slr] | simp [Ah, Aa, V.fz, fzL, V.up, upL, Ab, Ac, Ad, slr])⟩
 conv => whnf
 refine SameQ.mk ⟨rfl, ?_⟩
 conv => whnf
 refine SameQ.mk ⟨rfl, ?_⟩
 conv => whnf
 refine SameQ.mk ⟨rfl, ?_⟩
 conv => whnf
 refine Two.mk ⟨?_, ?_⟩
 ·conv => whnf
  refine SameQ.mk ⟨rfl, ?_⟩
  conv => whnf
  refine SameQ.mk ⟨rfl, ?_⟩
  conv => whnf
  refine Two.mk ⟨?_, ?_⟩
  ·conv => whnf
   refine SameQ.mk ⟨rfl, ?_⟩
   conv => whnf
   refine Two.mk ⟨?_, ?_⟩
   ·conv => whnf
    refine SameQ.mk ⟨rfl, ?_⟩
    conv => whnf
    refine Cells.lit rfl rfl ?_
    conv => whnf
    refine SameQ.mk ⟨rfl, ?_⟩
    conv => whnf
    refine BslQ.o (Ag false) ([{ Op := op0, Args := r6 }]) (by exact fun _ => ⟨rfl, rfl⟩) (by first | rfl | simp only [Aa, V.fz, fzL, V.up, upL, Ab, Ac, Ad, slr, List.cons_append, List.nil_append] | simp [Aa, V.fz, fzL, V.up, upL, Ab, Ac, Ad, slr]) ?_
    conv => whnf
    refine SameQ.mk ⟨rfl, ?_⟩
    conv => whnf
    refine NoOwn.o (fun _ => rfl) ?_
    conv => whnf
    refine Kid.lit rfl rfl ?_
    conv => whnf
    refine Kid.lit rfl rfl ?_
    conv => whnf
    refine SetKids.lit rfl ?_
    conv => whnf
    refine AppQ.o (m := 2) (Ag false) (by exact fun _ => ⟨rfl, rfl⟩) (c0.steps) ([{ Op := op0, Args := r6 }]) (by first | rfl | simp only [Aa, V.fz, fzL, V.up, upL, Ab, Ac, Ad, slr, List.cons_append, List.nil_append] | simp [Aa, V.fz, fzL, V.up, upL, Ab, Ac, Ad, slr]) (by first | rfl | simp only [Aa, V.fz, fzL, V.up, upL, Ab, Ac, Ad, slr, List.cons_append, List.nil_append] | simp [Aa, V.fz, fzL, V.up, upL, Ab, Ac, Ad, slr]) h fun h => ?_
    conv => whnf
    refine SameQ.mk ⟨rfl, ?_⟩
    conv => whnf
    refine SetKids.lit rfl ?_
    conv => whnf
    cases h; exact ⟨(by first | rfl | simp only [Ah, Aa, V.fz, fzL, V.up, upL, Ab, Ac, Ad, slr] | simp [Ah, Aa, V.fz, fzL, V.up, upL, Ab, Ac, Ad, slr]), (by first | rfl | simp only [Ah, Aa, V.fz, fzL, V.up, upL, Ab, Ac, Ad, slr] | simp [Ah, Aa, V.fz, fzL, V.up, upL, Ab, Ac, Ad, slr])⟩
   conv => whnf
   refine SameQ.mk ⟨rfl, ?_⟩
   conv => whnf
   refine BslQ.o (Ag false) ([{ Op := op0, Args := r6 }]) (by exact fun _ => ⟨rfl, rfl⟩) (by first | rfl | simp only [Aa, V.fz, fzL, V.up, upL, Ab, Ac, Ad, slr, List.cons_append, List.nil_append] | simp [Aa, V.fz, fzL, V.up, upL, Ab, Ac, Ad, slr]) ?_
   conv => whnf
   refine SameQ.mk ⟨rfl, ?_⟩
   conv => whnf
   refine Cells.lit rfl rfl ?_
   conv => whnf
   refine SameQ.mk ⟨rfl, ?_⟩
   conv => whnf
   refine NoOwn.o (fun _ => rfl) ?_
   conv => whnf
   refine Kid.lit rfl rfl ?_
   conv => whnf
   refine Kid.lit rfl rfl ?_
   conv => whnf
   refine SetKids.lit rfl ?_
   conv => whnf
   refine AppQ.o (m := 2) (Ag false) (by exact fun _ => ⟨rfl, rfl⟩) (c0.steps) ([{ Op := op0, Args := r6 }]) (by first | rfl | simp only [Aa, V.fz, fzL, V.up, upL, Ab, Ac, Ad, slr, List.cons_append, List.nil_append] | simp [Aa, V.fz, fzL, V.up, upL, Ab, Ac, Ad, slr]) (by first | rfl | simp only [Aa, V.fz, fzL, V.up, upL, Ab, Ac, Ad, slr, List.cons_append, List.nil_append] | simp [Aa, V.fz, fzL, V.up, upL, Ab, Ac, Ad, slr]) h fun h => ?_
   conv => whnf
   refine SameQ.mk ⟨rfl, ?_⟩
   conv => whnf
   refine SetKids.lit rfl ?_
   conv => whnf
   cases h; exact ⟨(by first | rfl | simp only [Ah, Aa, V.fz, fzL, V.up, upL, Ab, Ac, Ad, slr] | simp [Ah, Aa, V.fz, fzL, V.up, upL, Ab, Ac, Ad, slr]), (by first | rfl | simp only [Ah, Aa, V.fz, fzL, V.up, upL, Ab, Ac, Ad, slr] | simp [Ah, Aa, V.fz, fzL, V.up, upL, Ab, Ac, Ad, slr])⟩
  conv => whnf
  refine SameQ.mk ⟨rfl, ?_⟩
  conv => whnf
  refine BslQ.o (Ag false) ([{ Op := op0, Args := r6 }]) (by exact fun _ => ⟨rfl, rfl⟩) (by first | rfl | simp only [Aa, V.fz, fzL, V.up, upL, Ab, Ac, Ad, slr, List.cons_append, List.nil_append] | simp [Aa, V.fz, fzL, V.up, upL, Ab, Ac, Ad, slr]) ?_
  conv => whnf
  refine SameQ.mk ⟨rfl, ?_⟩
  conv => whnf
  refine SameQ.mk ⟨rfl, ?_⟩
  conv => whnf
  refine Cells.lit rfl rfl ?_
  conv => whnf
  refine SameQ.mk ⟨rfl, ?_⟩
  conv => whnf
  refine NoOwn.o (fun _ => rfl) ?_
  conv => whnf
  refine Kid.lit rfl rfl ?_
  conv => whnf
  refine Kid.lit rfl rfl ?_
  conv => whnf
  refine SetKids.lit rfl ?_
  conv => whnf
  refine AppQ.o (m := 2) (Ag false) (by exact fun _ => ⟨rfl, rfl⟩) (c0.steps) ([{ Op := op0, Args := r6 }]) (by first | rfl | simp only [Aa, V.fz, fzL, V.up, upL, Ab, Ac, Ad, slr, List.cons_append, List.nil_append] | simp [Aa, V.fz, fzL, V.up, upL, Ab, Ac, Ad, slr]) (by first | rfl | simp only [Aa, V.fz, fzL, V.up, upL, Ab, Ac, Ad, slr, List.cons_append, List.nil_append] | simp [Aa, V.fz, fzL, V.up, upL, Ab, Ac, Ad, slr]) h fun h => ?_
  conv => whnf
  refine SameQ.mk ⟨rfl, ?_⟩
  conv => whnf
  refine SetKids.lit rfl ?_
  conv => whnf
  cases h; exact ⟨(by first | rfl | simp only [Ah, Aa, V.fz, fzL, V.up, upL, Ab, Ac, Ad, slr] | simp [Ah, Aa, V.fz, fzL, V.up, upL, Ab, Ac, Ad, slr]), (by first | rfl | simp only [Ah, Aa, V.fz, fzL, V.up, upL, Ab, Ac, Ad, slr] | simp [Ah, Aa, V.fz, fzL, V.up, upL, Ab, Ac, Ad, slr])⟩
 conv => whnf
 refine SameQ.mk ⟨rfl, ?_⟩
 conv => whnf
 refine SameQ.mk ⟨rfl, ?_⟩
 conv => whnf
 refine BslQ.o (Ag false) ([{ Op := op0, Args := r6 }]) (by exact fun _ => ⟨rfl, rfl⟩) (by first | rfl | simp only [Aa, V.fz, fzL, V.up, upL, Ab, Ac, Ad, slr, List.cons_append, List.nil_append] | simp [Aa, V.fz, fzL, V.up, upL, Ab, Ac, Ad, slr]) ?_
 conv => whnf
 refine SameQ.mk ⟨rfl, ?_⟩
 conv => whnf
 refine SameQ.mk ⟨rfl, ?_⟩
 conv => whnf
 refine SameQ.mk ⟨rfl, ?_⟩
 conv => whnf
 refine SameQ.mk ⟨rfl, ?_⟩
 conv => whnf
 refine Cells.lit rfl rfl ?_
 conv => whnf
 refine SameQ.mk ⟨rfl, ?_⟩
 conv => whnf
 refine NoOwn.o (fun _ => rfl) ?_
 conv => whnf
 refine Kid.lit rfl rfl ?_
 conv => whnf
 refine Kid.lit rfl rfl ?_
 conv => whnf
 refine SetKids.lit rfl ?_
 conv => whnf
 refine AppQ.o (m := 2) (Ag false) (by exact fun _ => ⟨rfl, rfl⟩) (c0.steps) ([{ Op := op0, Args := r6 }]) (by first | rfl | simp only [Aa, V.fz, fzL, V.up, upL, Ab, Ac, Ad, slr, List.cons_append, List.nil_append] | simp [Aa, V.fz, fzL, V.up, upL, Ab, Ac, Ad, slr]) (by first | rfl | simp only [Aa, V.fz, fzL, V.up, upL, Ab, Ac, Ad, slr, List.cons_append, List.nil_append] | simp [Aa, V.fz, fzL, V.up, upL, Ab, Ac, Ad, slr]) h fun h => ?_
 conv => whnf
 refine SameQ.mk ⟨rfl, ?_⟩
 conv => whnf
 refine SetKids.lit rfl ?_
 conv => whnf
 cases h; exact ⟨(by first | rfl | simp only [Ah, Aa, V.fz, fzL, V.up, upL, Ab, Ac, Ad, slr] | simp [Ah, Aa, V.fz, fzL, V.up, upL, Ab, Ac, Ad, slr]), (by first | rfl | simp only [Ah, Aa, V.fz, fzL, V.up, upL, Ab, Ac, Ad, slr] | simp [Ah, Aa, V.fz, fzL, V.up, upL, Ab, Ac, Ad, slr])⟩
end Go.Proofs.Ytoaojijoefljaaa.Ax
