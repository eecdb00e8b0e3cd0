/-
 What the functions compute, as functions on plain data, and that the program does compute it; written by program.
-/
import Derived.Test.YtmcbocbcpijgeaaCode
import Derived.Test.YtmcbocbcpijgeaaG1
import Derived.Test.YtmcbocbcpijgeaaG3
import Derived.Test.YtmcbocbcpijgeaaG4
import Derived.Test.YtmcbocbcpijgeaaG5
import Derived.Test.YtmcbocbcpijgeaaG6
import Derived.Test.YtmcbocbcpijgeaaG8
namespace Go.Proofs.Ytmcbocbcpijgeaa.Ax
open Go
set_option maxRecDepth 100000
set_option maxHeartbeats 4000000
noncomputable def Gd (a0:SAlgebra) (t0:(List Int)) (arity0:Int):Option (SOp×Bool):=
 (((Ga (a0) (t0)).bind fun r1=>
 if (r1)=true then
 if arity0<(0:Int) then
 some (.inl ())
 else
 if arity0>(3:Int) then
 some (.inl ())
 else
 (D4 (t0) (arity0)).bind fun r5=>
 if (r5)=true then
 some (.inr ())
 else
 some (.inl ())
 else
 some (.inl ()):Option (Unit ⊕ Unit))).bind fun t=>match t with
 | (.inl _)=>(some ({ Arity:=(0:Int),Table:=A8 Int },false))
 | (.inr _)=>((Fq (a0) (t0) (arity0)).bind fun r8=>
 some ({ Arity:=arity0,Table:=r8 },true))
theorem U6 {a0:SAlgebra} {t0:(List Int)} {arity0:Int} {v:(SOp×Bool)} (h:Gd a0 t0 arity0=some v):Ret Try.prog K3 [(Ag false) a0,(slr false 1 Af) t0,Af arity0] ((fun r=>V.tup [(Bb true) r.1,V.bool r.2]) v):=by
 refine Bp Ad7 (Nat.le_of_ble_eq_true rfl) ?_
 unfold Gd at h
 conv=>whnf
 refine CutQ.o (fun t:(Unit ⊕ Unit)=>match t with | (.inl s)=>(Ex.ret,[7,6],[(7,A.val (V.bool (false))),(6,A.val ((rP true (Bb true)) ({ Arity:=(0:Int),Table:=A8 Int })))]) | (.inr s)=>(Ex.normal,[6,3,1,2],[(6,A.val ((rP true (Bb true)) ({ Arity:=(0:Int),Table:=A8 Int }))),(3,A.val ((rP true (Ag false)) (a0))),(1,A.val ((slr false 1 Af) (t0))),(2,A.val (Af (arity0)))])) h ?_ ?_
 ·intro t h
  conv=>whnf
  refine Cells.lit rfl rfl ?_
  conv=>whnf
  refine CallQ.o V.bool (by first | rfl | simp only [Aa,V.fz,fzL,V.up,upL,Ab,Ac,Ad,slr,List.cons_append,List.nil_append] | simp [Aa,V.fz,fzL,V.up,upL,Ab,Ac,Ad,slr]) h (fun r h=>U1 h) (fun r1 h=> ?_)
  conv=>whnf
  refine Br.flip ?_
  conv=>whnf
  refine Br.ob h (fun p2 h=> ?_) (fun p2 h=> ?_)
  ·conv=>whnf
   refine Br.no ?_
   conv=>whnf
   refine Br.no ?_
   conv=>whnf
   refine Br.od h (fun p3 h=> ?_) (fun p3 h=> ?_)
   ·conv=>whnf
    refine Br.yes ?_
    conv=>whnf
    refine Br.yes ?_
    conv=>whnf
    refine Br.yes ?_
    conv=>whnf
    refine Br.yes ?_
    conv=>whnf
    refine Br.yes ?_
    conv=>whnf
    refine Br.yes ?_
    conv=>whnf
    refine Br.yes ?_
    conv=>whnf
    refine Br.yes ?_
    conv=>whnf
    refine SetKids.lit rfl ?_
    conv=>whnf
    cases h;exact ⟨rfl,rfl⟩
   conv=>whnf
   refine Br.no ?_
   conv=>whnf
   refine Br.no ?_
   conv=>whnf
   refine Br.od h (fun p4 h=> ?_) (fun p4 h=> ?_)
   ·conv=>whnf
    refine Br.yes ?_
    conv=>whnf
    refine Br.yes ?_
    conv=>whnf
    refine Br.yes ?_
    conv=>whnf
    refine Br.yes ?_
    conv=>whnf
    refine Br.yes ?_
    conv=>whnf
    refine SetKids.lit rfl ?_
    conv=>whnf
    cases h;exact ⟨rfl,rfl⟩
   conv=>whnf
   refine Br.no ?_
   conv=>whnf
   refine Br.no ?_
   conv=>whnf
   refine CallQ.o V.bool (by first | rfl | simp only [Aa,V.fz,fzL,V.up,upL,Ab,Ac,Ad,slr,List.cons_append,List.nil_append] | simp [Aa,V.fz,fzL,V.up,upL,Ab,Ac,Ad,slr]) h (fun r h=>P5 h) (fun r5 h=> ?_)
   conv=>whnf
   refine Br.no ?_
   conv=>whnf
   refine Br.no ?_
   conv=>whnf
   refine Br.flip ?_
   conv=>whnf
   refine Br.ob h (fun p6 h=> ?_) (fun p6 h=> ?_)
   ·conv=>whnf
    cases h;exact ⟨rfl,rfl⟩
   conv=>whnf
   refine SetKids.lit rfl ?_
   conv=>whnf
   cases h;exact ⟨rfl,rfl⟩
  conv=>whnf
  refine Br.yes ?_
  conv=>whnf
  refine Br.yes ?_
  conv=>whnf
  refine Br.yes ?_
  conv=>whnf
  refine Br.yes ?_
  conv=>whnf
  refine Br.yes ?_
  conv=>whnf
  refine Br.yes ?_
  conv=>whnf
  refine Br.yes ?_
  conv=>whnf
  refine Br.yes ?_
  conv=>whnf
  refine Br.yes ?_
  conv=>whnf
  refine Br.yes ?_
  conv=>whnf
  refine Br.yes ?_
  conv=>whnf
  refine SetKids.lit rfl ?_
  conv=>whnf
  cases h;exact ⟨rfl,rfl⟩
 rintro (⟨⟩ | ⟨⟩) h
 ·try dsimp only at h
  conv=>whnf
  cases h;exact (by first | rfl | simp only [Ah,Aa,V.fz,fzL,V.up,upL,Ab,Ac,Ad,slr] | simp [Ah,Aa,V.fz,fzL,V.up,upL,Ab,Ac,Ad,slr])
 try dsimp only at h
 conv=>whnf
 refine Cells.lit rfl rfl ?_
 conv=>whnf
 refine CallQ.o (slr true 1 Af) (by first | rfl | simp only [Aa,V.fz,fzL,V.up,upL,Ab,Ac,Ad,slr,List.cons_append,List.nil_append] | simp [Aa,V.fz,fzL,V.up,upL,Ab,Ac,Ad,slr]) h (fun r h=>Ye h) (fun r8 h=> ?_)
 conv=>whnf
 refine SetKids.lit rfl ?_
 conv=>whnf
 cases h;exact (by first | rfl | simp only [Ah,Aa,V.fz,fzL,V.up,upL,Ab,Ac,Ad,slr] | simp [Ah,Aa,V.fz,fzL,V.up,upL,Ab,Ac,Ad,slr])
noncomputable def H7 (a0:SAlgebra) (t0:(List Int)) (arity0:Int):Option (SOp×Bool):=
 (Gw (a0) (t0)).bind fun r1=>
 if (r1)=true then
 (Ds (arity0) ((0:Int)) ((3:Int))).bind fun r3=>
 if (r3)=true then
 (Gc (t0) (arity0)).bind fun r5=>
 if (r5)=true then
 (La (a0) (t0) (arity0)).bind fun r7=>
 some (r7,true)
 else
 some ({ Arity:=(0:Int),Table:=A8 Int },false)
 else
 some ({ Arity:=(0:Int),Table:=A8 Int },false)
 else
 some ({ Arity:=(0:Int),Table:=A8 Int },false)
theorem Aev {a0:SAlgebra} {t0:(List Int)} {arity0:Int} {v:(SOp×Bool)} (h:H7 a0 t0 arity0=some v):Ret Try.prog O5 [(Ag false) a0,(slr false 1 Af) t0,Af arity0] ((fun r=>V.tup [(Bb true) r.1,V.bool r.2]) v):=by
 refine Bp Ad0 (Nat.le_of_ble_eq_true rfl) ?_
 unfold H7 at h
 conv=>whnf
 refine Cells.lit rfl rfl ?_
 conv=>whnf
 refine CallQ.o V.bool (by first | rfl | simp only [Aa,V.fz,fzL,V.up,upL,Ab,Ac,Ad,slr,List.cons_append,List.nil_append] | simp [Aa,V.fz,fzL,V.up,upL,Ab,Ac,Ad,slr]) h (fun r h=>Acf h) (fun r1 h=> ?_)
 conv=>whnf
 refine Br.flip ?_
 conv=>whnf
 refine Br.ob h (fun p2 h=> ?_) (fun p2 h=> ?_)
 ·conv=>whnf
  refine Br.no ?_
  conv=>whnf
  refine CallQ.o V.bool (by first | rfl | simp only [Aa,V.fz,fzL,V.up,upL,Ab,Ac,Ad,slr,List.cons_append,List.nil_append] | simp [Aa,V.fz,fzL,V.up,upL,Ab,Ac,Ad,slr]) h (fun r h=>Lj h) (fun r3 h=> ?_)
  conv=>whnf
  refine Br.no ?_
  conv=>whnf
  refine Br.no ?_
  conv=>whnf
  refine Br.flip ?_
  conv=>whnf
  refine Br.ob h (fun p4 h=> ?_) (fun p4 h=> ?_)
  ·conv=>whnf
   refine Br.no ?_
   conv=>whnf
   refine Br.no ?_
   conv=>whnf
   refine CallQ.o V.bool (by first | rfl | simp only [Aa,V.fz,fzL,V.up,upL,Ab,Ac,Ad,slr,List.cons_append,List.nil_append] | simp [Aa,V.fz,fzL,V.up,upL,Ab,Ac,Ad,slr]) h (fun r h=>Aef h) (fun r5 h=> ?_)
   conv=>whnf
   refine Br.no ?_
   conv=>whnf
   refine Br.no ?_
   conv=>whnf
   refine Br.flip ?_
   conv=>whnf
   refine Br.ob h (fun p6 h=> ?_) (fun p6 h=> ?_)
   ·conv=>whnf
    refine Cells.lit rfl rfl ?_
    conv=>whnf
    refine CallQ.o (Bb true) (by first | rfl | simp only [Aa,V.fz,fzL,V.up,upL,Ab,Ac,Ad,slr,List.cons_append,List.nil_append] | simp [Aa,V.fz,fzL,V.up,upL,Ab,Ac,Ad,slr]) h (fun r h=>Aif h) (fun r7 h=> ?_)
    conv=>whnf
    refine SetKids.lit rfl ?_
    conv=>whnf
    cases h;exact (by first | rfl | simp only [Ah,Aa,V.fz,fzL,V.up,upL,Ab,Ac,Ad,slr] | simp [Ah,Aa,V.fz,fzL,V.up,upL,Ab,Ac,Ad,slr])
   conv=>whnf
   refine SetKids.lit rfl ?_
   conv=>whnf
   cases h;exact (by first | rfl | simp only [Ah,Aa,V.fz,fzL,V.up,upL,Ab,Ac,Ad,slr] | simp [Ah,Aa,V.fz,fzL,V.up,upL,Ab,Ac,Ad,slr])
  conv=>whnf
  refine Br.yes ?_
  conv=>whnf
  refine Br.yes ?_
  conv=>whnf
  refine Br.yes ?_
  conv=>whnf
  refine Br.yes ?_
  conv=>whnf
  refine Br.yes ?_
  conv=>whnf
  refine SetKids.lit rfl ?_
  conv=>whnf
  cases h;exact (by first | rfl | simp only [Ah,Aa,V.fz,fzL,V.up,upL,Ab,Ac,Ad,slr] | simp [Ah,Aa,V.fz,fzL,V.up,upL,Ab,Ac,Ad,slr])
 conv=>whnf
 refine Br.yes ?_
 conv=>whnf
 refine Br.yes ?_
 conv=>whnf
 refine Br.yes ?_
 conv=>whnf
 refine Br.yes ?_
 conv=>whnf
 refine Br.yes ?_
 conv=>whnf
 refine Br.yes ?_
 conv=>whnf
 refine Br.yes ?_
 conv=>whnf
 refine Br.yes ?_
 conv=>whnf
 refine Br.yes ?_
 conv=>whnf
 refine SetKids.lit rfl ?_
 conv=>whnf
 cases h;exact (by first | rfl | simp only [Ah,Aa,V.fz,fzL,V.up,upL,Ab,Ac,Ad,slr] | simp [Ah,Aa,V.fz,fzL,V.up,upL,Ab,Ac,Ad,slr])
noncomputable def A4 (a0:SAlgebra) (list0:List SIdentity):(Int×Int)→Option ((Int×Int) ⊕ (Unit ⊕ Int)):=fun (x21,x6)=>
 if x21<(↑list0.length:Int) then
 ask ((0:Int)≤x21∧x21<(↑list0.length:Int)) <|
 (Dv (a0) (nth list0 x21.toNat)).bind fun r7=>
 if (r7.snd)=true then
 if (r7.fst)=true then
 ask (InI (x21+(1:Int))) <|
 some (.inl (x21+(1:Int),x6))
 else
 if x6<(0:Int) then
 ask (InI (x21+(1:Int))) <|
 some (.inl (x21+(1:Int),x21))
 else
 ask (InI (x21+(1:Int))) <|
 some (.inl (x21+(1:Int),x6))
 else
 some (.inr (.inl ()))
 else
 some (.inr (.inr x6))
def Gk (a0:SAlgebra) (list0:List SIdentity):(Int×Int)→St:=fun s=>[(21,A.val (Af s.1)),(20,A.val (Af ((↑list0.length:Int)))),(19,A.val ((slr false 2 (Ak false)) (list0))),(6,A.val (Af s.2)),(2,A.val ((rP true (Ag false)) (a0)))]
def J7 (_a0:SAlgebra) (_list0:List SIdentity):(Unit ⊕ Int)→Tgt
 | (.inl _s)=>(Ex.ret,[5,4],[(5,A.val (V.bool (false))),(4,A.val (Af ((0:Int))))])
 | (.inr s)=>((Ex.exit 0),[6],[(6,A.val (Af s))])
theorem Sf {a0:SAlgebra} {list0:List SIdentity} (s:(Int×Int)) (o:(Int×Int) ⊕ (Unit ⊕ Int)) (h:A4 a0 list0 s=some o):vc Try.prog J9 (Eu [21,20,19,6,2] (Gk a0 list0) (J7 a0 list0) o) (Gk a0 list0 s):=by
 obtain ⟨x21,x6⟩:=s
 unfold A4 at h
 try dsimp only at h
 conv=>whnf
 refine Br.od h (fun p5 h=> ?_) (fun p5 h=> ?_)
 ·conv=>whnf
  refine Len.map ?_
  conv=>whnf
  refine Ask.o h fun p6 h=> ?_
  conv=>whnf
  refine Elem.o (by first | omega | (simp [Ba] at * <;> omega)) ?_
  conv=>whnf
  refine SetKids.lit rfl ?_
  conv=>whnf
  refine Cells.lit rfl rfl ?_
  conv=>whnf
  refine Cells.lit rfl rfl ?_
  conv=>whnf
  refine CallQ.o (fun r=>V.tup [V.bool r.1,V.bool r.2]) (by first | rfl | simp only [Aa,V.fz,fzL,V.up,upL,Ab,Ac,Ad,slr,List.cons_append,List.nil_append] | simp [Aa,V.fz,fzL,V.up,upL,Ab,Ac,Ad,slr]) h (fun r h=>Lw h) (fun r7 h=> ?_)
  conv=>whnf
  refine Br.flip ?_
  conv=>whnf
  refine Br.ob h (fun p8 h=> ?_) (fun p8 h=> ?_)
  ·conv=>whnf
   refine Br.flip ?_
   conv=>whnf
   refine Br.ob h (fun p9 h=> ?_) (fun p9 h=> ?_)
   ·conv=>whnf
    refine Br.no ?_
    conv=>whnf
    refine Br.no ?_
    conv=>whnf
    refine Br.no ?_
    conv=>whnf
    refine Ask.o h fun p10 h=> ?_
    conv=>whnf
    cases h;exact ⟨rfl,rfl⟩
   conv=>whnf
   refine Br.yes ?_
   conv=>whnf
   refine Br.yes ?_
   conv=>whnf
   refine Br.od h (fun p11 h=> ?_) (fun p11 h=> ?_)
   ·conv=>whnf
    refine Ask.o h fun p12 h=> ?_
    conv=>whnf
    cases h;exact ⟨rfl,rfl⟩
   conv=>whnf
   refine Ask.o h fun p13 h=> ?_
   conv=>whnf
   cases h;exact ⟨rfl,rfl⟩
  conv=>whnf
  cases h;exact ⟨rfl,rfl⟩
 conv=>whnf
 cases h;exact ⟨rfl,rfl⟩
noncomputable def Ey (a0:SAlgebra) (list0:(List SIdentity)):Option (Int×Bool):=
 (((Dc (a0)).bind fun r1=>
 if (r1)=true then
 if (↑list0.length:Int)>(20:Int) then
 some (.inl ())
 else
 some (.inr ())
 else
 some (.inl ()):Option (Unit ⊕ Unit))).bind fun t=>match t with
 | (.inl _)=>(some ((0:Int),false))
 | (.inr _)=>((Ay (A4 a0 list0) ((0:Int),(-1:Int))).bind fun t=>match t with
 | (.inl _)=>(some ((0:Int),false))
 | (.inr q14_6)=>(some (q14_6,true)))
theorem Vn {a0:SAlgebra} {list0:(List SIdentity)} {v:(Int×Bool)} (h:Ey a0 list0=some v):Ret Try.prog Iq [(Ag false) a0,(slr false 2 (Ak false)) list0] ((fun r=>V.tup [Af r.1,V.bool r.2]) v):=by
 refine Bp V1 (Nat.le_of_ble_eq_true rfl) ?_
 unfold Ey at h
 conv=>whnf
 refine CutQ.o (fun t:(Unit ⊕ Unit)=>match t with | (.inl s)=>(Ex.ret,[5,4],[(5,A.val (V.bool (false))),(4,A.val (Af ((0:Int))))]) | (.inr s)=>(Ex.normal,[2,1],[(2,A.val ((rP true (Ag false)) (a0))),(1,A.val ((slr false 2 (Ak false)) (list0)))])) h ?_ ?_
 ·intro t h
  conv=>whnf
  refine Cells.lit rfl rfl ?_
  conv=>whnf
  refine CallQ.o V.bool (by first | rfl | simp only [Aa,V.fz,fzL,V.up,upL,Ab,Ac,Ad,slr,List.cons_append,List.nil_append] | simp [Aa,V.fz,fzL,V.up,upL,Ab,Ac,Ad,slr]) h (fun r h=>Hg h) (fun r1 h=> ?_)
  conv=>whnf
  refine Br.flip ?_
  conv=>whnf
  refine Br.ob h (fun p2 h=> ?_) (fun p2 h=> ?_)
  ·conv=>whnf
   refine Br.no ?_
   conv=>whnf
   refine Len.map ?_
   conv=>whnf
   refine Br.no ?_
   conv=>whnf
   refine Br.no ?_
   conv=>whnf
   refine Br.od h (fun p3 h=> ?_) (fun p3 h=> ?_)
   ·conv=>whnf
    cases h;exact ⟨rfl,rfl⟩
   conv=>whnf
   cases h;exact ⟨rfl,rfl⟩
  conv=>whnf
  refine Br.yes ?_
  conv=>whnf
  refine Br.yes ?_
  conv=>whnf
  refine Br.yes ?_
  conv=>whnf
  refine Br.yes ?_
  conv=>whnf
  cases h;exact ⟨rfl,rfl⟩
 rintro (⟨⟩ | ⟨⟩) h
 ·try dsimp only at h
  conv=>whnf
  cases h;exact (by first | rfl | simp only [Ah,Aa,V.fz,fzL,V.up,upL,Ab,Ac,Ad,slr] | simp [Ah,Aa,V.fz,fzL,V.up,upL,Ab,Ac,Ad,slr])
 try dsimp only at h
 conv=>whnf
 refine Len.map ?_
 conv=>whnf
 refine LoopQ.o [21,20,19,6,2] (Gk a0 list0) (J7 a0 list0) h (fun s o h=>Sf s o h) (by first | rfl | simp [restrict,look,Aa,V.fz,fzL,V.up,upL,Ab,Ac,Ad,slr]) (by rintro (_ | _)<;>rfl) ?_
 rintro (⟨⟩ | q14_6) h
 ·try dsimp only at h
  conv=>whnf
  cases h;exact (by first | rfl | simp only [Ah,Aa,V.fz,fzL,V.up,upL,Ab,Ac,Ad,slr] | simp [Ah,Aa,V.fz,fzL,V.up,upL,Ab,Ac,Ad,slr])
 try dsimp only at h
 conv=>whnf
 cases h;exact (by first | rfl | simp only [Ah,Aa,V.fz,fzL,V.up,upL,Ab,Ac,Ad,slr] | simp [Ah,Aa,V.fz,fzL,V.up,upL,Ab,Ac,Ad,slr])
noncomputable def Bi (a0:SAlgebra) (list0:List SIdentity):Int→Option (Int ⊕ (Unit ⊕ Unit)):=fun x6=>
 if x6<(↑list0.length:Int) then
 ask ((0:Int)≤x6∧x6<(↑list0.length:Int)) <|
 (Eb (a0) (nth list0 x6.toNat)).bind fun r7=>
 if (r7)=true then
 ask (InI (x6+(1:Int))) <|
 some (.inl (x6+(1:Int)))
 else
 some (.inr (.inl ()))
 else
 some (.inr (.inr ()))
def Gl (a0:SAlgebra) (list0:List SIdentity):Int→St:=fun s=>[(6,A.val (Af s)),(2,A.val ((rP true (Ag false)) (a0))),(1,A.val ((slr false 2 (Ak false)) (list0)))]
def J5 (a0:SAlgebra) (list0:List SIdentity):(Unit ⊕ Unit)→Tgt
 | (.inl _s)=>(Ex.ret,[5,4],[(5,A.val (V.bool (false))),(4,A.val (Af ((0:Int))))])
 | (.inr _s)=>((Ex.exit 0),[2,1],[(2,A.val ((rP true (Ag false)) (a0))),(1,A.val ((slr false 2 (Ak false)) (list0)))])
theorem Sc {a0:SAlgebra} {list0:List SIdentity} (x6:Int) (o:Int ⊕ (Unit ⊕ Unit)) (h:Bi a0 list0 x6=some o):vc Try.prog Jx (Eu [6,2,1] (Gl a0 list0) (J5 a0 list0) o) (Gl a0 list0 x6):=by
 unfold Bi at h
 try dsimp only at h
 conv=>whnf
 refine Len.map ?_
 conv=>whnf
 refine Br.od h (fun p5 h=> ?_) (fun p5 h=> ?_)
 ·conv=>whnf
  refine Cells.lit rfl rfl ?_
  conv=>whnf
  refine Len.map ?_
  conv=>whnf
  refine Ask.o h fun p6 h=> ?_
  conv=>whnf
  refine Elem.o (by first | omega | (simp [Ba] at * <;> omega)) ?_
  conv=>whnf
  refine CallQ.o V.bool (by first | rfl | simp only [Aa,V.fz,fzL,V.up,upL,Ab,Ac,Ad,slr,List.cons_append,List.nil_append] | simp [Aa,V.fz,fzL,V.up,upL,Ab,Ac,Ad,slr]) h (fun r h=>M9 h) (fun r7 h=> ?_)
  conv=>whnf
  refine Br.flip ?_
  conv=>whnf
  refine Br.ob h (fun p8 h=> ?_) (fun p8 h=> ?_)
  ·conv=>whnf
   refine Ask.o h fun p9 h=> ?_
   conv=>whnf
   cases h;exact ⟨rfl,rfl⟩
  conv=>whnf
  cases h;exact ⟨rfl,rfl⟩
 conv=>whnf
 cases h;exact ⟨rfl,rfl⟩
noncomputable def Bm (a0:SAlgebra) (list0:List SIdentity):Int→Option (Int ⊕ (Int ⊕ Unit)):=fun x7=>
 if x7<(↑list0.length:Int) then
 ask ((0:Int)≤x7∧x7<(↑list0.length:Int)) <|
 (Ec (a0) (nth list0 x7.toNat)).bind fun r13=>
 if (r13)=true then
 ask (InI (x7+(1:Int))) <|
 some (.inl (x7+(1:Int)))
 else
 some (.inr (.inl x7))
 else
 some (.inr (.inr ()))
def Gh (a0:SAlgebra) (list0:List SIdentity):Int→St:=fun s=>[(7,A.val (Af s)),(2,A.val ((rP true (Ag false)) (a0))),(1,A.val ((slr false 2 (Ak false)) (list0)))]
def Jz (_a0:SAlgebra) (_list0:List SIdentity):(Int ⊕ Unit)→Tgt
 | (.inl s)=>(Ex.ret,[5,4],[(5,A.val (V.bool (true))),(4,A.val (Af s))])
 | (.inr _s)=>((Ex.exit 2),[],[])
theorem Sb {a0:SAlgebra} {list0:List SIdentity} (x7:Int) (o:Int ⊕ (Int ⊕ Unit)) (h:Bm a0 list0 x7=some o):vc Try.prog J3 (Eu [7,2,1] (Gh a0 list0) (Jz a0 list0) o) (Gh a0 list0 x7):=by
 unfold Bm at h
 try dsimp only at h
 conv=>whnf
 refine Len.map ?_
 conv=>whnf
 refine Br.od h (fun p11 h=> ?_) (fun p11 h=> ?_)
 ·conv=>whnf
  refine Cells.lit rfl rfl ?_
  conv=>whnf
  refine Len.map ?_
  conv=>whnf
  refine Ask.o h fun p12 h=> ?_
  conv=>whnf
  refine Elem.o (by first | omega | (simp [Ba] at * <;> omega)) ?_
  conv=>whnf
  refine CallQ.o V.bool (by first | rfl | simp only [Aa,V.fz,fzL,V.up,upL,Ab,Ac,Ad,slr,List.cons_append,List.nil_append] | simp [Aa,V.fz,fzL,V.up,upL,Ab,Ac,Ad,slr]) h (fun r h=>Sy h) (fun r13 h=> ?_)
  conv=>whnf
  refine Br.flip ?_
  conv=>whnf
  refine Br.ob h (fun p14 h=> ?_) (fun p14 h=> ?_)
  ·conv=>whnf
   refine Ask.o h fun p15 h=> ?_
   conv=>whnf
   cases h;exact ⟨rfl,rfl⟩
  conv=>whnf
  cases h;exact ⟨rfl,rfl⟩
 conv=>whnf
 cases h;exact ⟨rfl,rfl⟩
noncomputable def E6 (a0:SAlgebra) (list0:(List SIdentity)):Option (Int×Bool):=
 (((Di (a0)).bind fun r1=>
 if (r1)=true then
 if (↑list0.length:Int)>(20:Int) then
 some (.inl ())
 else
 some (.inr ())
 else
 some (.inl ()):Option (Unit ⊕ Unit))).bind fun t=>match t with
 | (.inl _)=>(some ((0:Int),false))
 | (.inr _)=>((Ay (Bi a0 list0) (0:Int)).bind fun t=>match t with
 | (.inl _)=>(some ((0:Int),false))
 | (.inr _)=>((Ay (Bm a0 list0) (0:Int)).bind fun t=>match t with
 | (.inl q16_4)=>(some (q16_4,true))
 | (.inr _)=>(some ((-1:Int),true))))
theorem Vq {a0:SAlgebra} {list0:(List SIdentity)} {v:(Int×Bool)} (h:E6 a0 list0=some v):Ret Try.prog Is [(Ag false) a0,(slr false 2 (Ak false)) list0] ((fun r=>V.tup [Af r.1,V.bool r.2]) v):=by
 refine Bp V6 (Nat.le_of_ble_eq_true rfl) ?_
 unfold E6 at h
 conv=>whnf
 refine CutQ.o (fun t:(Unit ⊕ Unit)=>match t with | (.inl s)=>(Ex.ret,[5,4],[(5,A.val (V.bool (false))),(4,A.val (Af ((0:Int))))]) | (.inr s)=>(Ex.normal,[2,1],[(2,A.val ((rP true (Ag false)) (a0))),(1,A.val ((slr false 2 (Ak false)) (list0)))])) h ?_ ?_
 ·intro t h
  conv=>whnf
  refine Cells.lit rfl rfl ?_
  conv=>whnf
  refine CallQ.o V.bool (by first | rfl | simp only [Aa,V.fz,fzL,V.up,upL,Ab,Ac,Ad,slr,List.cons_append,List.nil_append] | simp [Aa,V.fz,fzL,V.up,upL,Ab,Ac,Ad,slr]) h (fun r h=>D9 h) (fun r1 h=> ?_)
  conv=>whnf
  refine Br.flip ?_
  conv=>whnf
  refine Br.ob h (fun p2 h=> ?_) (fun p2 h=> ?_)
  ·conv=>whnf
   refine Br.no ?_
   conv=>whnf
   refine Len.map ?_
   conv=>whnf
   refine Br.no ?_
   conv=>whnf
   refine Br.no ?_
   conv=>whnf
   refine Br.od h (fun p3 h=> ?_) (fun p3 h=> ?_)
   ·conv=>whnf
    cases h;exact ⟨rfl,rfl⟩
   conv=>whnf
   cases h;exact ⟨rfl,rfl⟩
  conv=>whnf
  refine Br.yes ?_
  conv=>whnf
  refine Br.yes ?_
  conv=>whnf
  refine Br.yes ?_
  conv=>whnf
  refine Br.yes ?_
  conv=>whnf
  cases h;exact ⟨rfl,rfl⟩
 rintro (⟨⟩ | ⟨⟩) h
 ·try dsimp only at h
  conv=>whnf
  cases h;exact (by first | rfl | simp only [Ah,Aa,V.fz,fzL,V.up,upL,Ab,Ac,Ad,slr] | simp [Ah,Aa,V.fz,fzL,V.up,upL,Ab,Ac,Ad,slr])
 try dsimp only at h
 conv=>whnf
 refine LoopQ.o [6,2,1] (Gl a0 list0) (J5 a0 list0) h (fun s o h=>Sc s o h) (by first | rfl | simp [restrict,look,Aa,V.fz,fzL,V.up,upL,Ab,Ac,Ad,slr]) (by rintro (_ | _)<;>rfl) ?_
 rintro (⟨⟩ | ⟨⟩) h
 ·try dsimp only at h
  conv=>whnf
  cases h;exact (by first | rfl | simp only [Ah,Aa,V.fz,fzL,V.up,upL,Ab,Ac,Ad,slr] | simp [Ah,Aa,V.fz,fzL,V.up,upL,Ab,Ac,Ad,slr])
 try dsimp only at h
 conv=>whnf
 refine LoopQ.o [7,2,1] (Gh a0 list0) (Jz a0 list0) h (fun s o h=>Sb s o h) (by first | rfl | simp [restrict,look,Aa,V.fz,fzL,V.up,upL,Ab,Ac,Ad,slr]) (by rintro (_ | _)<;>rfl) ?_
 rintro (q16_4 | ⟨⟩) h
 ·try dsimp only at h
  conv=>whnf
  cases h;exact (by first | rfl | simp only [Ah,Aa,V.fz,fzL,V.up,upL,Ab,Ac,Ad,slr] | simp [Ah,Aa,V.fz,fzL,V.up,upL,Ab,Ac,Ad,slr])
 try dsimp only at h
 conv=>whnf
 cases h;exact (by first | rfl | simp only [Ah,Aa,V.fz,fzL,V.up,upL,Ab,Ac,Ad,slr] | simp [Ah,Aa,V.fz,fzL,V.up,upL,Ab,Ac,Ad,slr])
end Go.Proofs.Ytmcbocbcpijgeaa.Ax
