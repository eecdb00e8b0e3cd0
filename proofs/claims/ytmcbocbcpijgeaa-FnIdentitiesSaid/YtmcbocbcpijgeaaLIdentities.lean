/-
 What the functions compute, as functions on plain data, and that the program does compute it; written by program.
-/
import Derived.Test.YtmcbocbcpijgeaaCode
import Derived.Test.YtmcbocbcpijgeaaG1
import Derived.Test.YtmcbocbcpijgeaaG2
import Derived.Test.YtmcbocbcpijgeaaG6
import Derived.Test.YtmcbocbcpijgeaaG8
import Derived.Test.YtmcbocbcpijgeaaG9
import Derived.Test.YtmcbocbcpijgeaaG12
namespace Go.Proofs.Ytmcbocbcpijgeaa.Ax
open Go
set_option maxRecDepth 100000
set_option maxHeartbeats 4000000
noncomputable def Ca (r38:SAlgebra×List SIdentity) (r39:Int×Bool):Int→Option (Int ⊕ (Unit ⊕ Unit)):=fun x29=>
 ((if x29<(↑r38.snd.length:Int) then
 if (r39.snd)=true then
 some (.inl ())
 else
 some (.inr ())
 else
 some (.inr ()):Option (Unit ⊕ Unit))).bind fun t=>match t with
 | (.inl _)=>(ask ((0:Int)≤x29∧x29<(↑r38.snd.length:Int)) <|
 (Dv (r38.fst) (nth r38.snd x29.toNat)).bind fun r48=>
 if (r48.snd)=true then
 if r39.fst<(0:Int) then
 if (r48.fst)=true then
 if x29=r39.fst then
 if (r48.fst)=true then
 some (.inr (.inl ()))
 else
 ask (InI (x29+(1:Int))) <|
 some (.inl (x29+(1:Int)))
 else
 ask (InI (x29+(1:Int))) <|
 some (.inl (x29+(1:Int)))
 else
 some (.inr (.inl ()))
 else
 if x29<r39.fst then
 if (r48.fst)=true then
 if x29=r39.fst then
 if (r48.fst)=true then
 some (.inr (.inl ()))
 else
 ask (InI (x29+(1:Int))) <|
 some (.inl (x29+(1:Int)))
 else
 ask (InI (x29+(1:Int))) <|
 some (.inl (x29+(1:Int)))
 else
 some (.inr (.inl ()))
 else
 if x29=r39.fst then
 if (r48.fst)=true then
 some (.inr (.inl ()))
 else
 ask (InI (x29+(1:Int))) <|
 some (.inl (x29+(1:Int)))
 else
 ask (InI (x29+(1:Int))) <|
 some (.inl (x29+(1:Int)))
 else
 some (.inr (.inl ())))
 | (.inr _)=>(some (.inr (.inr ())))
def F3 (r38:SAlgebra×List SIdentity) (r39:Int×Bool):Int→St:=fun s=>[(29,A.val (Af s)),(26,A.val (V.bool (r39.snd))),(25,A.val (Af (r39.fst))),(24,A.val ((slr true 2 (Ak false)) (r38.snd))),(23,A.val ((rP true (Ag false)) (r38.fst)))]
def Jw (_r38:SAlgebra×List SIdentity) (_r39:Int×Bool):(Unit ⊕ Unit)→Tgt
 | (.inl _s)=>(Ex.ret,[2],[(2,A.val (V.bool (false)))])
 | (.inr _s)=>((Ex.exit 0),[],[])
theorem Rb {r38:SAlgebra×List SIdentity} {r39:Int×Bool} (x29:Int) (o:Int ⊕ (Unit ⊕ Unit)) (h:Ca r38 r39 x29=some o):vc Try.prog I9 (Eu [29,26,25,24,23] (F3 r38 r39) (Jw r38 r39) o) (F3 r38 r39 x29):=by
 unfold Ca at h
 try dsimp only at h
 conv=>whnf
 refine CutQ.o (fun t:(Unit ⊕ Unit)=>match t with | (.inl s)=>(Ex.normal,[29,26,25,24,23],[(29,A.val (Af (x29))),(26,A.val (V.bool (r39.snd))),(25,A.val (Af (r39.fst))),(24,A.val ((slr true 2 (Ak false)) (r38.snd))),(23,A.val ((rP true (Ag false)) (r38.fst)))]) | (.inr s)=>((Ex.exit 0),[],[])) h ?_ ?_
 ·intro t h
  conv=>whnf
  refine Len.map ?_
  conv=>whnf
  refine Br.od h (fun p44 h=> ?_) (fun p44 h=> ?_)
  ·conv=>whnf
   refine Br.yes ?_
   conv=>whnf
   refine Br.ob h (fun p45 h=> ?_) (fun p45 h=> ?_)
   ·conv=>whnf
    cases h;exact ⟨rfl,rfl⟩
   conv=>whnf
   cases h;exact ⟨rfl,rfl⟩
  conv=>whnf
  refine Br.no ?_
  conv=>whnf
  refine Br.no ?_
  conv=>whnf
  cases h;exact ⟨rfl,rfl⟩
 rintro (⟨⟩ | ⟨⟩) h
 ·try dsimp only at h
  conv=>whnf
  refine Cells.lit rfl rfl ?_
  conv=>whnf
  refine Len.map ?_
  conv=>whnf
  refine Ask.o h fun p47 h=> ?_
  conv=>whnf
  refine Cells.wide0 (by exact fun _=>⟨rfl,rfl⟩) (by first | omega | (simp [Ba] at * <;> omega)) (by decide) ?_
  conv=>whnf
  refine CallP.o (fun r=>V.tup [V.bool r.1,V.bool r.2]) (by first | rfl | simp only [Aa,V.fz,fzL,V.up,upL,Ab,Ac,Ad,slr,List.cons_append,List.nil_append] | simp [Aa,V.fz,fzL,V.up,upL,Ab,Ac,Ad,slr]) h (fun r h=>Lw h) (fun r48 h=> ?_)
  conv=>whnf
  refine Br.flip ?_
  conv=>whnf
  refine Br.ob h (fun p49 h=> ?_) (fun p49 h=> ?_)
  ·conv=>whnf
   refine Br.no ?_
   conv=>whnf
   refine Br.no ?_
   conv=>whnf
   refine Br.od h (fun p50 h=> ?_) (fun p50 h=> ?_)
   ·conv=>whnf
    refine Br.yes ?_
    conv=>whnf
    refine Br.yes ?_
    conv=>whnf
    refine Br.no ?_
    conv=>whnf
    refine Br.yes ?_
    conv=>whnf
    refine Br.no ?_
    conv=>whnf
    refine Br.yes ?_
    conv=>whnf
    refine Br.yes ?_
    conv=>whnf
    refine Br.no ?_
    conv=>whnf
    refine Br.yes ?_
    conv=>whnf
    refine Br.no ?_
    conv=>whnf
    refine Br.flip ?_
    conv=>whnf
    refine Br.ob h (fun p51 h=> ?_) (fun p51 h=> ?_)
    ·conv=>whnf
     refine Br.no ?_
     conv=>whnf
     refine Br.no ?_
     conv=>whnf
     refine Br.no ?_
     conv=>whnf
     refine Br.oe h (fun p52 h=> ?_) (fun p52 h=> ?_)
     ·conv=>whnf
      refine Br.no ?_
      conv=>whnf
      refine Br.yes ?_
      conv=>whnf
      refine Br.no ?_
      conv=>whnf
      refine Br.ob h (fun p53 h=> ?_) (fun p53 h=> ?_)
      ·conv=>whnf
       cases h;exact ⟨rfl,rfl⟩
      conv=>whnf
      refine Ask.o h fun p54 h=> ?_
      conv=>whnf
      cases h;exact ⟨rfl,rfl⟩
     conv=>whnf
     refine Br.no ?_
     conv=>whnf
     refine Br.no ?_
     conv=>whnf
     refine Br.no ?_
     conv=>whnf
     refine Br.no ?_
     conv=>whnf
     refine Ask.o h fun p55 h=> ?_
     conv=>whnf
     cases h;exact ⟨rfl,rfl⟩
    conv=>whnf
    refine Br.yes ?_
    conv=>whnf
    refine Br.yes ?_
    conv=>whnf
    refine Br.yes ?_
    conv=>whnf
    refine Br.yes ?_
    conv=>whnf
    refine Br.yes ?_
    conv=>whnf
    refine Br.yes ?_
    conv=>whnf
    cases h;exact ⟨rfl,rfl⟩
   conv=>whnf
   refine Br.no ?_
   conv=>whnf
   refine Br.no ?_
   conv=>whnf
   refine Br.no ?_
   conv=>whnf
   refine Br.no ?_
   conv=>whnf
   refine Br.no ?_
   conv=>whnf
   refine Br.od h (fun p56 h=> ?_) (fun p56 h=> ?_)
   ·conv=>whnf
    refine Br.yes ?_
    conv=>whnf
    refine Br.no ?_
    conv=>whnf
    refine Br.yes ?_
    conv=>whnf
    refine Br.no ?_
    conv=>whnf
    refine Br.flip ?_
    conv=>whnf
    refine Br.ob h (fun p57 h=> ?_) (fun p57 h=> ?_)
    ·conv=>whnf
     refine Br.no ?_
     conv=>whnf
     refine Br.no ?_
     conv=>whnf
     refine Br.no ?_
     conv=>whnf
     refine Br.oe h (fun p58 h=> ?_) (fun p58 h=> ?_)
     ·conv=>whnf
      refine Br.no ?_
      conv=>whnf
      refine Br.yes ?_
      conv=>whnf
      refine Br.no ?_
      conv=>whnf
      refine Br.ob h (fun p59 h=> ?_) (fun p59 h=> ?_)
      ·conv=>whnf
       cases h;exact ⟨rfl,rfl⟩
      conv=>whnf
      refine Ask.o h fun p60 h=> ?_
      conv=>whnf
      cases h;exact ⟨rfl,rfl⟩
     conv=>whnf
     refine Br.no ?_
     conv=>whnf
     refine Br.no ?_
     conv=>whnf
     refine Br.no ?_
     conv=>whnf
     refine Br.no ?_
     conv=>whnf
     refine Ask.o h fun p61 h=> ?_
     conv=>whnf
     cases h;exact ⟨rfl,rfl⟩
    conv=>whnf
    refine Br.yes ?_
    conv=>whnf
    refine Br.yes ?_
    conv=>whnf
    refine Br.yes ?_
    conv=>whnf
    refine Br.yes ?_
    conv=>whnf
    refine Br.yes ?_
    conv=>whnf
    refine Br.yes ?_
    conv=>whnf
    cases h;exact ⟨rfl,rfl⟩
   conv=>whnf
   refine Br.no ?_
   conv=>whnf
   refine Br.no ?_
   conv=>whnf
   refine Br.no ?_
   conv=>whnf
   refine Br.no ?_
   conv=>whnf
   refine Br.no ?_
   conv=>whnf
   refine Br.no ?_
   conv=>whnf
   refine Br.no ?_
   conv=>whnf
   refine Br.no ?_
   conv=>whnf
   refine Br.oe h (fun p62 h=> ?_) (fun p62 h=> ?_)
   ·conv=>whnf
    refine Br.no ?_
    conv=>whnf
    refine Br.yes ?_
    conv=>whnf
    refine Br.no ?_
    conv=>whnf
    refine Br.ob h (fun p63 h=> ?_) (fun p63 h=> ?_)
    ·conv=>whnf
     cases h;exact ⟨rfl,rfl⟩
    conv=>whnf
    refine Ask.o h fun p64 h=> ?_
    conv=>whnf
    cases h;exact ⟨rfl,rfl⟩
   conv=>whnf
   refine Br.no ?_
   conv=>whnf
   refine Br.no ?_
   conv=>whnf
   refine Br.no ?_
   conv=>whnf
   refine Br.no ?_
   conv=>whnf
   refine Ask.o h fun p65 h=> ?_
   conv=>whnf
   cases h;exact ⟨rfl,rfl⟩
  conv=>whnf
  refine Br.yes ?_
  conv=>whnf
  refine Br.yes ?_
  conv=>whnf
  refine Br.yes ?_
  conv=>whnf
  refine Br.yes ?_
  conv=>whnf
  refine Br.yes ?_
  conv=>whnf
  refine Br.yes ?_
  conv=>whnf
  refine Br.yes ?_
  conv=>whnf
  refine Br.yes ?_
  conv=>whnf
  refine Br.yes ?_
  conv=>whnf
  refine Br.yes ?_
  conv=>whnf
  refine Br.yes ?_
  conv=>whnf
  refine Br.yes ?_
  conv=>whnf
  refine Br.yes ?_
  conv=>whnf
  cases h;exact ⟨rfl,rfl⟩
 try dsimp only at h
 conv=>whnf
 cases h;exact ⟨rfl,rfl⟩
noncomputable def Fn (code0:(List Int)):Option Bool:=
 (Nu (code0)).bind fun r1=>
 if (r1)=true then
 some true
 else
 (Ek (code0)).bind fun r3=>
 (Dv (r3.fst) (r3.snd)).bind fun r4=>
 (((Fe (r3.fst) (r3.snd)).bind fun r5=>
 if (r4.fst==r5.fst)=true then
 if (r4.snd==r5.snd)=true then
 some (.inl ())
 else
 some (.inr ())
 else
 some (.inr ()):Option (Unit ⊕ Unit))).bind fun t=>match t with
 | (.inl _)=>((Em (r3.fst) (r3.snd)).bind fun r9=>
 (((En (r3.fst) (r3.snd)).bind fun r10=>
 if (r9.snd==r10.snd)=true then
 (F5 (r9.fst) (r10.fst)).bind fun r12=>
 if (r12)=true then
 if (r4.snd)=true then
 if (r9.snd == !r4.fst)=true then
 some (.inl ())
 else
 some (.inr ())
 else
 if (r9.snd==false)=true then
 some (.inl ())
 else
 some (.inr ())
 else
 some (.inr ())
 else
 some (.inr ()):Option (Unit ⊕ Unit))).bind fun t=>match t with
 | (.inl _)=>(((if (r9.snd)=true then
 (Fd (r3.fst) (r3.snd.Left) (r9.fst)).bind fun r19=>
 (Fd (r3.fst) (r3.snd.Right) (r9.fst)).bind fun r20=>
 if (r19.snd)=true then
 if (r20.snd)=true then
 if r19.fst=r20.fst then
 some (.inl ())
 else
 some (.inr ())
 else
 some (.inl ())
 else
 some (.inl ())
 else
 some (.inr ()):Option (Unit ⊕ Unit))).bind fun t=>match t with
 | (.inl _)=>(some false)
 | (.inr _)=>((Gd (r3.fst) (r3.snd.Left) ((3:Int))).bind fun r25=>
 (Gd (r3.fst) (r3.snd.Right) ((3:Int))).bind fun r26=>
 (((H7 (r3.fst) (r3.snd.Left) ((3:Int))).bind fun r27=>
 if (r25.snd==r27.snd)=true then
 (Kp (r25.fst) (r27.fst)).bind fun r29=>
 if (r29)=true then
 some (.inl ())
 else
 some (.inr ())
 else
 some (.inr ()):Option (Unit ⊕ Unit))).bind fun t=>match t with
 | (.inl _)=>(((if (r4.snd)=true then
 if (r25.snd)=true then
 if (r26.snd)=true then
 (Kp (r25.fst) (r26.fst)).bind fun r35=>
 if (r4.fst==r35)=true then
 some (.inl ())
 else
 some (.inr ())
 else
 some (.inl ())
 else
 some (.inl ())
 else
 some (.inl ()):Option (Unit ⊕ Unit))).bind fun t=>match t with
 | (.inl _)=>((Dp (code0)).bind fun r38=>
 (Ey (r38.fst) (r38.snd)).bind fun r39=>
 (((E6 (r38.fst) (r38.snd)).bind fun r40=>
 if r39.fst≠r40.fst then
 some (.inl ())
 else
 if (r39.snd==r40.snd)=true then
 some (.inr ())
 else
 some (.inl ()):Option (Unit ⊕ Unit))).bind fun t=>match t with
 | (.inl _)=>(some false)
 | (.inr _)=>((Ay (Ca r38 r39) (0:Int)).bind fun t=>match t with
 | (.inl _)=>(some false)
 | (.inr _)=>(some true)))
 | (.inr _)=>(some false))
 | (.inr _)=>(some false)))
 | (.inr _)=>(some false))
 | (.inr _)=>(some false)
theorem Ug {code0:(List Int)} {v:Bool} (h:Fn code0=some v):Ret Try.prog L5 [(slr false 1 (V.int IntKind.u8)) code0] (V.bool v):=by
 refine Bp Uc (Nat.le_of_ble_eq_true rfl) ?_
 unfold Fn at h
 conv=>whnf
 refine CallQ.o V.bool (by first | rfl | simp only [Aa,V.fz,fzL,V.up,upL,Ab,Ac,Ad,slr,List.cons_append,List.nil_append] | simp [Aa,V.fz,fzL,V.up,upL,Ab,Ac,Ad,slr]) h (fun r h=>Ah6 h) (fun r1 h=> ?_)
 conv=>whnf
 refine Br.ob h (fun p2 h=> ?_) (fun p2 h=> ?_)
 ·conv=>whnf
  cases h;exact (by first | rfl | simp only [Ah,Aa,V.fz,fzL,V.up,upL,Ab,Ac,Ad,slr] | simp [Ah,Aa,V.fz,fzL,V.up,upL,Ab,Ac,Ad,slr])
 conv=>whnf
 refine CallQ.o (fun r=>V.tup [(Ag false) r.1,(Ak false) r.2]) (by first | rfl | simp only [Aa,V.fz,fzL,V.up,upL,Ab,Ac,Ad,slr,List.cons_append,List.nil_append] | simp [Aa,V.fz,fzL,V.up,upL,Ab,Ac,Ad,slr]) h (fun r h=>T3 h) (fun r3 h=> ?_)
 conv=>whnf
 refine SetKids.lit rfl ?_
 conv=>whnf
 refine SetKids.lit rfl ?_
 conv=>whnf
 refine Cells.lit rfl rfl ?_
 conv=>whnf
 refine Cells.lit rfl rfl ?_
 conv=>whnf
 refine CallQ.o (fun r=>V.tup [V.bool r.1,V.bool r.2]) (by first | rfl | simp only [Aa,V.fz,fzL,V.up,upL,Ab,Ac,Ad,slr,List.cons_append,List.nil_append] | simp [Aa,V.fz,fzL,V.up,upL,Ab,Ac,Ad,slr]) h (fun r h=>Lw h) (fun r4 h=> ?_)
 conv=>whnf
 refine CutQ.o (fun t:(Unit ⊕ Unit)=>match t with | (.inl s)=>(Ex.normal,[6,5,4,3,0],[(6,A.val (V.bool (r4.snd))),(5,A.val (V.bool (r4.fst))),(4,A.val ((rP true (Ak false)) (r3.snd))),(3,A.val ((rP true (Ag false)) (r3.fst))),(0,A.val ((slr false 1 (V.int IntKind.u8)) (code0)))]) | (.inr s)=>(Ex.ret,[2],[(2,A.val (V.bool (false)))])) h ?_ ?_
 ·intro t h
  conv=>whnf
  refine Cells.lit rfl rfl ?_
  conv=>whnf
  refine Cells.lit rfl rfl ?_
  conv=>whnf
  refine CallQ.o (fun r=>V.tup [V.bool r.1,V.bool r.2]) (by first | rfl | simp only [Aa,V.fz,fzL,V.up,upL,Ab,Ac,Ad,slr,List.cons_append,List.nil_append] | simp [Aa,V.fz,fzL,V.up,upL,Ab,Ac,Ad,slr]) h (fun r h=>Aap h) (fun r5 h=> ?_)
  conv=>whnf
  refine Br.flip ?_
  conv=>whnf
  refine Br.ob h (fun p6 h=> ?_) (fun p6 h=> ?_)
  ·conv=>whnf
   refine Br.no ?_
   conv=>whnf
   refine Br.no ?_
   conv=>whnf
   refine Br.no ?_
   conv=>whnf
   refine Br.flip ?_
   conv=>whnf
   refine Br.ob h (fun p7 h=> ?_) (fun p7 h=> ?_)
   ·conv=>whnf
    cases h;exact ⟨rfl,rfl⟩
   conv=>whnf
   cases h;exact ⟨rfl,rfl⟩
  conv=>whnf
  refine Br.yes ?_
  conv=>whnf
  refine Br.yes ?_
  conv=>whnf
  refine Br.yes ?_
  conv=>whnf
  refine Br.yes ?_
  conv=>whnf
  cases h;exact ⟨rfl,rfl⟩
 rintro (⟨⟩ | ⟨⟩) h
 ·try dsimp only at h
  conv=>whnf
  refine Cells.lit rfl rfl ?_
  conv=>whnf
  refine Cells.lit rfl rfl ?_
  conv=>whnf
  refine CallQ.o (fun r=>V.tup [(slr false 1 Af) r.1,V.bool r.2]) (by first | rfl | simp only [Aa,V.fz,fzL,V.up,upL,Ab,Ac,Ad,slr,List.cons_append,List.nil_append] | simp [Aa,V.fz,fzL,V.up,upL,Ab,Ac,Ad,slr]) h (fun r h=>Uf h) (fun r9 h=> ?_)
  conv=>whnf
  refine CutQ.o (fun t:(Unit ⊕ Unit)=>match t with | (.inl s)=>(Ex.normal,[10,9,6,5,4,3,0],[(10,A.val (V.bool (r9.snd))),(9,A.val ((slr false 1 Af) (r9.fst))),(6,A.val (V.bool (r4.snd))),(5,A.val (V.bool (r4.fst))),(4,A.val ((rP true (Ak false)) (r3.snd))),(3,A.val ((rP true (Ag false)) (r3.fst))),(0,A.val ((slr false 1 (V.int IntKind.u8)) (code0)))]) | (.inr s)=>(Ex.ret,[2],[(2,A.val (V.bool (false)))])) h ?_ ?_
  ·intro t h
   conv=>whnf
   refine Cells.lit rfl rfl ?_
   conv=>whnf
   refine Cells.lit rfl rfl ?_
   conv=>whnf
   refine CallQ.o (fun r=>V.tup [(slr true 1 Af) r.1,V.bool r.2]) (by first | rfl | simp only [Aa,V.fz,fzL,V.up,upL,Ab,Ac,Ad,slr,List.cons_append,List.nil_append] | simp [Aa,V.fz,fzL,V.up,upL,Ab,Ac,Ad,slr]) h (fun r h=>Ut h) (fun r10 h=> ?_)
   conv=>whnf
   refine Br.flip ?_
   conv=>whnf
   refine Br.ob h (fun p11 h=> ?_) (fun p11 h=> ?_)
   ·conv=>whnf
    refine Br.no ?_
    conv=>whnf
    refine Br.no ?_
    conv=>whnf
    refine CallQ.rd V.bool (by first | rfl | simp only [V.fz,V.up,Ab,slr] | simp [Aa,V.fz,fzL,V.up,upL,Ab,Ac,Ad,slr]) (fun _=>rfl) h (fun r h=>Wk h) (fun r12 h=> ?_)
    conv=>whnf
    refine Br.no ?_
    conv=>whnf
    refine Br.no ?_
    conv=>whnf
    refine Br.flip ?_
    conv=>whnf
    refine Br.ob h (fun p13 h=> ?_) (fun p13 h=> ?_)
    ·conv=>whnf
     refine Br.no ?_
     conv=>whnf
     refine Br.no ?_
     conv=>whnf
     refine Br.ob h (fun p14 h=> ?_) (fun p14 h=> ?_)
     ·conv=>whnf
      refine Br.yes ?_
      conv=>whnf
      refine Br.no ?_
      conv=>whnf
      refine Br.yes ?_
      conv=>whnf
      refine Br.no ?_
      conv=>whnf
      refine Br.no ?_
      conv=>whnf
      refine Br.flip ?_
      conv=>whnf
      refine Br.ob h (fun p15 h=> ?_) (fun p15 h=> ?_)
      ·conv=>whnf
       cases h;exact ⟨rfl,rfl⟩
      conv=>whnf
      cases h;exact ⟨rfl,rfl⟩
     conv=>whnf
     refine Br.no ?_
     conv=>whnf
     refine Br.no ?_
     conv=>whnf
     refine Br.no ?_
     conv=>whnf
     refine Br.no ?_
     conv=>whnf
     refine Br.no ?_
     conv=>whnf
     refine Br.flip ?_
     conv=>whnf
     refine Br.ob h (fun p16 h=> ?_) (fun p16 h=> ?_)
     ·conv=>whnf
      cases h;exact ⟨rfl,rfl⟩
     conv=>whnf
     cases h;exact ⟨rfl,rfl⟩
    conv=>whnf
    refine Br.yes ?_
    conv=>whnf
    refine Br.yes ?_
    conv=>whnf
    refine Br.yes ?_
    conv=>whnf
    refine Br.yes ?_
    conv=>whnf
    refine Br.yes ?_
    conv=>whnf
    refine Br.yes ?_
    conv=>whnf
    cases h;exact ⟨rfl,rfl⟩
   conv=>whnf
   refine Br.yes ?_
   conv=>whnf
   refine Br.yes ?_
   conv=>whnf
   refine Br.yes ?_
   conv=>whnf
   refine Br.yes ?_
   conv=>whnf
   refine Br.yes ?_
   conv=>whnf
   refine Br.yes ?_
   conv=>whnf
   refine Br.yes ?_
   conv=>whnf
   refine Br.yes ?_
   conv=>whnf
   refine Br.yes ?_
   conv=>whnf
   refine Br.yes ?_
   conv=>whnf
   refine Br.yes ?_
   conv=>whnf
   cases h;exact ⟨rfl,rfl⟩
  rintro (⟨⟩ | ⟨⟩) h
  ·try dsimp only at h
   conv=>whnf
   refine CutQ.o (fun t:(Unit ⊕ Unit)=>match t with | (.inl s)=>(Ex.ret,[2],[(2,A.val (V.bool (false)))]) | (.inr s)=>(Ex.normal,[6,5,4,3,0],[(6,A.val (V.bool (r4.snd))),(5,A.val (V.bool (r4.fst))),(4,A.val ((rP true (Ak false)) (r3.snd))),(3,A.val ((rP true (Ag false)) (r3.fst))),(0,A.val ((slr false 1 (V.int IntKind.u8)) (code0)))])) h ?_ ?_
   ·intro t h
    conv=>whnf
    refine Br.ob h (fun p18 h=> ?_) (fun p18 h=> ?_)
    ·conv=>whnf
     refine Cells.lit rfl rfl ?_
     conv=>whnf
     refine Cells.lit rfl rfl ?_
     conv=>whnf
     refine CallQ.o (fun r=>V.tup [Af r.1,V.bool r.2]) (by first | rfl | simp only [Aa,V.fz,fzL,V.up,upL,Ab,Ac,Ad,slr,List.cons_append,List.nil_append] | simp [Aa,V.fz,fzL,V.up,upL,Ab,Ac,Ad,slr]) h (fun r h=>R0 h) (fun r19 h=> ?_)
     conv=>whnf
     refine Cells.lit rfl rfl ?_
     conv=>whnf
     refine Cells.lit rfl rfl ?_
     conv=>whnf
     refine CallQ.o (fun r=>V.tup [Af r.1,V.bool r.2]) (by first | rfl | simp only [Aa,V.fz,fzL,V.up,upL,Ab,Ac,Ad,slr,List.cons_append,List.nil_append] | simp [Aa,V.fz,fzL,V.up,upL,Ab,Ac,Ad,slr]) h (fun r h=>R0 h) (fun r20 h=> ?_)
     conv=>whnf
     refine Br.flip ?_
     conv=>whnf
     refine Br.ob h (fun p21 h=> ?_) (fun p21 h=> ?_)
     ·conv=>whnf
      refine Br.no ?_
      conv=>whnf
      refine Br.no ?_
      conv=>whnf
      refine Br.flip ?_
      conv=>whnf
      refine Br.ob h (fun p22 h=> ?_) (fun p22 h=> ?_)
      ·conv=>whnf
       refine Br.no ?_
       conv=>whnf
       refine Br.no ?_
       conv=>whnf
       refine Br.no ?_
       conv=>whnf
       refine Br.oe h (fun p23 h=> ?_) (fun p23 h=> ?_)
       ·conv=>whnf
        cases h;exact ⟨rfl,rfl⟩
       conv=>whnf
       cases h;exact ⟨rfl,rfl⟩
      conv=>whnf
      refine Br.yes ?_
      conv=>whnf
      refine Br.yes ?_
      conv=>whnf
      refine Br.yes ?_
      conv=>whnf
      refine Br.yes ?_
      conv=>whnf
      cases h;exact ⟨rfl,rfl⟩
     conv=>whnf
     refine Br.yes ?_
     conv=>whnf
     refine Br.yes ?_
     conv=>whnf
     refine Br.yes ?_
     conv=>whnf
     refine Br.yes ?_
     conv=>whnf
     refine Br.yes ?_
     conv=>whnf
     refine Br.yes ?_
     conv=>whnf
     refine Br.yes ?_
     conv=>whnf
     cases h;exact ⟨rfl,rfl⟩
    conv=>whnf
    cases h;exact ⟨rfl,rfl⟩
   rintro (⟨⟩ | ⟨⟩) h
   ·try dsimp only at h
    conv=>whnf
    cases h;exact (by first | rfl | simp only [Ah,Aa,V.fz,fzL,V.up,upL,Ab,Ac,Ad,slr] | simp [Ah,Aa,V.fz,fzL,V.up,upL,Ab,Ac,Ad,slr])
   try dsimp only at h
   conv=>whnf
   refine Cells.lit rfl rfl ?_
   conv=>whnf
   refine Cells.lit rfl rfl ?_
   conv=>whnf
   refine CallQ.o (fun r=>V.tup [(Bb true) r.1,V.bool r.2]) (by first | rfl | simp only [Aa,V.fz,fzL,V.up,upL,Ab,Ac,Ad,slr,List.cons_append,List.nil_append] | simp [Aa,V.fz,fzL,V.up,upL,Ab,Ac,Ad,slr]) h (fun r h=>U6 h) (fun r25 h=> ?_)
   conv=>whnf
   refine SetKids.lit rfl ?_
   conv=>whnf
   refine Cells.lit rfl rfl ?_
   conv=>whnf
   refine Cells.lit rfl rfl ?_
   conv=>whnf
   refine CallQ.o (fun r=>V.tup [(Bb true) r.1,V.bool r.2]) (by first | rfl | simp only [Aa,V.fz,fzL,V.up,upL,Ab,Ac,Ad,slr,List.cons_append,List.nil_append] | simp [Aa,V.fz,fzL,V.up,upL,Ab,Ac,Ad,slr]) h (fun r h=>U6 h) (fun r26 h=> ?_)
   conv=>whnf
   refine SetKids.lit rfl ?_
   conv=>whnf
   refine CutQ.o (fun t:(Unit ⊕ Unit)=>match t with | (.inl s)=>(Ex.normal,[20,19,18,17,6,5,0],[(20,A.val (V.bool (r26.snd))),(19,A.val ((rP true (Bb true)) (r26.fst))),(18,A.val (V.bool (r25.snd))),(17,A.val ((rP true (Bb true)) (r25.fst))),(6,A.val (V.bool (r4.snd))),(5,A.val (V.bool (r4.fst))),(0,A.val ((slr false 1 (V.int IntKind.u8)) (code0)))]) | (.inr s)=>(Ex.ret,[2],[(2,A.val (V.bool (false)))])) h ?_ ?_
   ·intro t h
    conv=>whnf
    refine Cells.lit rfl rfl ?_
    conv=>whnf
    refine Cells.lit rfl rfl ?_
    conv=>whnf
    refine CallQ.o (fun r=>V.tup [(Bb true) r.1,V.bool r.2]) (by first | rfl | simp only [Aa,V.fz,fzL,V.up,upL,Ab,Ac,Ad,slr,List.cons_append,List.nil_append] | simp [Aa,V.fz,fzL,V.up,upL,Ab,Ac,Ad,slr]) h (fun r h=>Aev h) (fun r27 h=> ?_)
    conv=>whnf
    refine SetKids.lit rfl ?_
    conv=>whnf
    refine Br.flip ?_
    conv=>whnf
    refine Br.ob h (fun p28 h=> ?_) (fun p28 h=> ?_)
    ·conv=>whnf
     refine Cells.lit rfl rfl ?_
     conv=>whnf
     refine Br.no ?_
     conv=>whnf
     refine Cells.lit rfl rfl ?_
     conv=>whnf
     refine Br.no ?_
     conv=>whnf
     refine CallQ.rd V.bool (by first | rfl | simp only [V.fz,Ab] | simp [Aa,V.fz,fzL,V.up,upL,Ab,Ac,Ad,slr]) (fun _=>rfl) h (fun r h=>Abq h) (fun r29 h=> ?_)
     conv=>whnf
     refine Br.no ?_
     conv=>whnf
     refine Br.no ?_
     conv=>whnf
     refine Br.flip ?_
     conv=>whnf
     refine Br.ob h (fun p30 h=> ?_) (fun p30 h=> ?_)
     ·conv=>whnf
      cases h;exact ⟨rfl,rfl⟩
     conv=>whnf
     cases h;exact ⟨rfl,rfl⟩
    conv=>whnf
    refine Br.yes ?_
    conv=>whnf
    refine Br.yes ?_
    conv=>whnf
    refine Br.yes ?_
    conv=>whnf
    refine Br.yes ?_
    conv=>whnf
    refine Br.yes ?_
    conv=>whnf
    cases h;exact ⟨rfl,rfl⟩
   rintro (⟨⟩ | ⟨⟩) h
   ·try dsimp only at h
    conv=>whnf
    refine CutQ.o (fun t:(Unit ⊕ Unit)=>match t with | (.inl s)=>(Ex.normal,[0],[(0,A.val ((slr false 1 (V.int IntKind.u8)) (code0)))]) | (.inr s)=>(Ex.ret,[2],[(2,A.val (V.bool (false)))])) h ?_ ?_
    ·intro t h
     conv=>whnf
     refine Br.ob h (fun p32 h=> ?_) (fun p32 h=> ?_)
     ·conv=>whnf
      refine Br.yes ?_
      conv=>whnf
      refine Br.ob h (fun p33 h=> ?_) (fun p33 h=> ?_)
      ·conv=>whnf
       refine Br.yes ?_
       conv=>whnf
       refine Br.ob h (fun p34 h=> ?_) (fun p34 h=> ?_)
       ·conv=>whnf
        refine Br.yes ?_
        conv=>whnf
        refine Cells.lit rfl rfl ?_
        conv=>whnf
        refine Br.yes ?_
        conv=>whnf
        refine Cells.lit rfl rfl ?_
        conv=>whnf
        refine Br.yes ?_
        conv=>whnf
        refine CallQ.rd V.bool (by first | rfl | simp only [V.fz,Ab] | simp [Aa,V.fz,fzL,V.up,upL,Ab,Ac,Ad,slr]) (fun _=>rfl) h (fun r h=>Abq h) (fun r35 h=> ?_)
        conv=>whnf
        refine Br.yes ?_
        conv=>whnf
        refine Br.yes ?_
        conv=>whnf
        refine Br.flip ?_
        conv=>whnf
        refine Br.ob h (fun p36 h=> ?_) (fun p36 h=> ?_)
        ·conv=>whnf
         cases h;exact ⟨rfl,rfl⟩
        conv=>whnf
        cases h;exact ⟨rfl,rfl⟩
       conv=>whnf
       refine Br.no ?_
       conv=>whnf
       refine Br.no ?_
       conv=>whnf
       refine Br.no ?_
       conv=>whnf
       refine Br.no ?_
       conv=>whnf
       refine Br.no ?_
       conv=>whnf
       refine Br.no ?_
       conv=>whnf
       cases h;exact ⟨rfl,rfl⟩
      conv=>whnf
      refine Br.no ?_
      conv=>whnf
      refine Br.no ?_
      conv=>whnf
      refine Br.no ?_
      conv=>whnf
      refine Br.no ?_
      conv=>whnf
      refine Br.no ?_
      conv=>whnf
      refine Br.no ?_
      conv=>whnf
      refine Br.no ?_
      conv=>whnf
      refine Br.no ?_
      conv=>whnf
      cases h;exact ⟨rfl,rfl⟩
     conv=>whnf
     refine Br.no ?_
     conv=>whnf
     refine Br.no ?_
     conv=>whnf
     refine Br.no ?_
     conv=>whnf
     refine Br.no ?_
     conv=>whnf
     refine Br.no ?_
     conv=>whnf
     refine Br.no ?_
     conv=>whnf
     refine Br.no ?_
     conv=>whnf
     refine Br.no ?_
     conv=>whnf
     refine Br.no ?_
     conv=>whnf
     refine Br.no ?_
     conv=>whnf
     cases h;exact ⟨rfl,rfl⟩
    rintro (⟨⟩ | ⟨⟩) h
    ·try dsimp only at h
     conv=>whnf
     refine CallQ.o (fun r=>V.tup [(Ag false) r.1,(slr true 2 (Ak false)) r.2]) (by first | rfl | simp only [Aa,V.fz,fzL,V.up,upL,Ab,Ac,Ad,slr,List.cons_append,List.nil_append] | simp [Aa,V.fz,fzL,V.up,upL,Ab,Ac,Ad,slr]) h (fun r h=>Q1 h) (fun r38 h=> ?_)
     conv=>whnf
     refine SetKids.lit rfl ?_
     conv=>whnf
     refine Cells.lit rfl rfl ?_
     conv=>whnf
     refine CallQ.rd (fun r=>V.tup [Af r.1,V.bool r.2]) (by first | rfl | simp only [V.fz,fzL,V.up,Ab,Ad,slr] | simp [Aa,V.fz,fzL,V.up,upL,Ab,Ac,Ad,slr]) (fun _=>by simp [V.noFz,Cq]) h (fun r h=>Vn h) (fun r39 h=> ?_)
     conv=>whnf
     refine CutQ.o (fun t:(Unit ⊕ Unit)=>match t with | (.inl s)=>(Ex.ret,[2],[(2,A.val (V.bool (false)))]) | (.inr s)=>(Ex.normal,[26,25,24,23],[(26,A.val (V.bool (r39.snd))),(25,A.val (Af (r39.fst))),(24,A.val ((slr true 2 (Ak false)) (r38.snd))),(23,A.val ((rP true (Ag false)) (r38.fst)))])) h ?_ ?_
     ·intro t h
      conv=>whnf
      refine Cells.lit rfl rfl ?_
      conv=>whnf
      refine CallQ.rd (fun r=>V.tup [Af r.1,V.bool r.2]) (by first | rfl | simp only [V.fz,fzL,V.up,Ab,Ad,slr] | simp [Aa,V.fz,fzL,V.up,upL,Ab,Ac,Ad,slr]) (fun _=>by simp [V.noFz,Cq]) h (fun r h=>Vq h) (fun r40 h=> ?_)
      conv=>whnf
      refine Br.on h (fun p41 h=> ?_) (fun p41 h=> ?_)
      ·conv=>whnf
       refine Br.yes ?_
       conv=>whnf
       refine Br.yes ?_
       conv=>whnf
       refine Br.yes ?_
       conv=>whnf
       refine Br.yes ?_
       conv=>whnf
       cases h;exact ⟨rfl,rfl⟩
      conv=>whnf
      refine Br.no ?_
      conv=>whnf
      refine Br.no ?_
      conv=>whnf
      refine Br.no ?_
      conv=>whnf
      refine Br.flip ?_
      conv=>whnf
      refine Br.ob h (fun p42 h=> ?_) (fun p42 h=> ?_)
      ·conv=>whnf
       cases h;exact ⟨rfl,rfl⟩
      conv=>whnf
      cases h;exact ⟨rfl,rfl⟩
     rintro (⟨⟩ | ⟨⟩) h
     ·try dsimp only at h
      conv=>whnf
      cases h;exact (by first | rfl | simp only [Ah,Aa,V.fz,fzL,V.up,upL,Ab,Ac,Ad,slr] | simp [Ah,Aa,V.fz,fzL,V.up,upL,Ab,Ac,Ad,slr])
     try dsimp only at h
     conv=>whnf
     refine LoopQ.o [29,26,25,24,23] (F3 r38 r39) (Jw r38 r39) h (fun s o h=>Rb s o h) (by first | rfl | simp [restrict,look,Aa,V.fz,fzL,V.up,upL,Ab,Ac,Ad,slr]) (by rintro (_ | _)<;>rfl) ?_
     rintro (⟨⟩ | ⟨⟩) h
     ·try dsimp only at h
      conv=>whnf
      cases h;exact (by first | rfl | simp only [Ah,Aa,V.fz,fzL,V.up,upL,Ab,Ac,Ad,slr] | simp [Ah,Aa,V.fz,fzL,V.up,upL,Ab,Ac,Ad,slr])
     try dsimp only at h
     conv=>whnf
     cases h;exact (by first | rfl | simp only [Ah,Aa,V.fz,fzL,V.up,upL,Ab,Ac,Ad,slr] | simp [Ah,Aa,V.fz,fzL,V.up,upL,Ab,Ac,Ad,slr])
    try dsimp only at h
    conv=>whnf
    cases h;exact (by first | rfl | simp only [Ah,Aa,V.fz,fzL,V.up,upL,Ab,Ac,Ad,slr] | simp [Ah,Aa,V.fz,fzL,V.up,upL,Ab,Ac,Ad,slr])
   try dsimp only at h
   conv=>whnf
   cases h;exact (by first | rfl | simp only [Ah,Aa,V.fz,fzL,V.up,upL,Ab,Ac,Ad,slr] | simp [Ah,Aa,V.fz,fzL,V.up,upL,Ab,Ac,Ad,slr])
  try dsimp only at h
  conv=>whnf
  cases h;exact (by first | rfl | simp only [Ah,Aa,V.fz,fzL,V.up,upL,Ab,Ac,Ad,slr] | simp [Ah,Aa,V.fz,fzL,V.up,upL,Ab,Ac,Ad,slr])
 try dsimp only at h
 conv=>whnf
 cases h;exact (by first | rfl | simp only [Ah,Aa,V.fz,fzL,V.up,upL,Ab,Ac,Ad,slr] | simp [Ah,Aa,V.fz,fzL,V.up,upL,Ab,Ac,Ad,slr])
end Go.Proofs.Ytmcbocbcpijgeaa.Ax
