/-
 What the functions compute, as functions on plain data, and that the program does compute it; written by program.
-/
import Derived.Test.YtbnoclklhcbidaaDoorCode
import Derived.Test.YtbnoclklhcbidaaDoorBu2
import Derived.Test.YtbnoclklhcbidaaDoorG1
import Derived.Test.YtbnoclklhcbidaaDoorG2
import Derived.Test.YtbnoclklhcbidaaDoorG3
namespace Go.Proofs.YtbnoclklhcbidaaDoor.Ax
open Go
set_option maxRecDepth 100000
set_option maxHeartbeats 4000000
noncomputable def Hm (k0:Int):Option SAlgebra:=
 if k0=(0:Int) then
 (Bb ((ByteArray.mk #[48,48,48,49]))).bind fun r2=>
 some ({ Size:=(2:Int),Ops:=[r2] })
 else
 if k0=(1:Int) then
 (Bb ((ByteArray.mk #[48,48,48,49]))).bind fun r4=>
 (Bb ((ByteArray.mk #[48,49,49,49]))).bind fun r5=>
 some ({ Size:=(2:Int),Ops:=[r4,r5] })
 else
 if k0=(2:Int) then
 (Bb ((ByteArray.mk #[48,48,48,49]))).bind fun r7=>
 (Bb ((ByteArray.mk #[48,49,49,49]))).bind fun r8=>
 some ({ Size:=(2:Int),Ops:=[r7,r8,{ Arity:=(1:Int),Table:=[(1:Int),(0:Int)] }] })
 else
 if k0=(3:Int) then
 (Fi ((2:Int))).bind fun r10=>
 some ({ Size:=(2:Int),Ops:=[r10] })
 else
 if k0=(4:Int) then
 (Bb ((ByteArray.mk #[48,49,50,49,50,48,50,48,49]))).bind fun r12=>
 some ({ Size:=(3:Int),Ops:=[r12] })
 else
 if k0=(5:Int) then
 (Bb ((ByteArray.mk #[48,49,48,49,49,50,48,50,50]))).bind fun r14=>
 some ({ Size:=(3:Int),Ops:=[r14] })
 else
 if k0=(6:Int) then
 (Bb ((ByteArray.mk #[48,49,50,51,49,48,51,50,50,51,48,49,51,50,49,48]))).bind fun r16=>
 some ({ Size:=(4:Int),Ops:=[r16] })
 else
 if k0=(7:Int) then
 (Bb ((ByteArray.mk #[48,48,48,48,49,49,48,49,50]))).bind fun r18=>
 (Bb ((ByteArray.mk #[48,49,50,49,49,50,50,50,50]))).bind fun r19=>
 some ({ Size:=(3:Int),Ops:=[r18,r19] })
 else
 if k0=(8:Int) then
 some ({ Size:=(4:Int),Ops:=[{ Arity:=(1:Int),Table:=[(1:Int),(2:Int),(3:Int),(0:Int)] }] })
 else
 if k0=(9:Int) then
 some ({ Size:=(2:Int),Ops:=[{ Arity:=(3:Int),Table:=[(0:Int),(0:Int),(0:Int),(1:Int),(0:Int),(1:Int),(1:Int),(1:Int)] }] })
 else
 if k0=(10:Int) then
 (Bb ((ByteArray.mk #[48,48,48,49,49,49,50,50,50]))).bind fun r23=>
 some ({ Size:=(3:Int),Ops:=[r23] })
 else
 if k0=(11:Int) then
 (Bb ((ByteArray.mk #[48,48,48,48,48,48,49,48,48,49,48,48,50,48,50,48,48,48,51,51,48,49,50,51,52]))).bind fun r25=>
 (Bb ((ByteArray.mk #[48,49,50,51,52,49,49,52,52,52,50,52,50,52,52,51,52,52,51,52,52,52,52,52,52]))).bind fun r26=>
 some ({ Size:=(5:Int),Ops:=[r25,r26] })
 else
 if k0=(12:Int) then
 (Bb ((ByteArray.mk #[48,49,50,51,49,50,51,48,50,51,48,49,51,48,49,50]))).bind fun r28=>
 some ({ Size:=(4:Int),Ops:=[r28] })
 else
 if k0=(13:Int) then
 some ({ Size:=(3:Int),Ops:=[{ Arity:=(1:Int),Table:=[(0:Int),(0:Int),(1:Int)] },{ Arity:=(0:Int),Table:=[(2:Int)] }] })
 else
 if k0=(14:Int) then
 (Bb ((ByteArray.mk #[48]))).bind fun r31=>
 some ({ Size:=(1:Int),Ops:=[r31] })
 else
 if k0=(15:Int) then
 (Fi ((3:Int))).bind fun r33=>
 some ({ Size:=(3:Int),Ops:=[r33] })
 else
 some ({ Size:=(2:Int),Ops:=A4 SOp })
theorem Ae2 {k0:Int} {v:SAlgebra} (h:Hm k0=some v):Ret Tryd.prog Nv [Af k0] ((Ag true) v):=by
 refine Bp Adf (Nat.le_of_ble_eq_true rfl) ?_
 unfold Hm at h
 conv=>whnf
 refine Br.oe h (fun p1 h=> ?_) (fun p1 h=> ?_)
 ·conv=>whnf
  refine CallQ.o (Bi true) (by first | rfl | simp only [Aa,V.fz,fzL,V.up,upL,Ab,Ac,Ad,slr,List.cons_append,List.nil_append] | simp [Aa,V.fz,fzL,V.up,upL,Ab,Ac,Ad,slr]) h (fun r h=>Bm h) (fun r2 h=> ?_)
  conv=>whnf
  refine BslQ.o (Bi true) [r2] (by exact fun _=>⟨rfl,rfl⟩) (by first | rfl | (simp only [Aa,V.fz,fzL,V.up,upL,Ab,Ac,Ad,slr,List.cons_append,List.nil_append];done) | simp [Aa,V.fz,fzL,V.up,upL,Ab,Ac,Ad,slr]) ?_
  conv=>whnf
  refine SetKids.lit rfl ?_
  conv=>whnf
  cases h;exact (by first | rfl | simp only [Ah,Aa,V.fz,fzL,V.up,upL,Ab,Ac,Ad,slr] | simp [Ah,Aa,V.fz,fzL,V.up,upL,Ab,Ac,Ad,slr])
 conv=>whnf
 refine Br.oe h (fun p3 h=> ?_) (fun p3 h=> ?_)
 ·conv=>whnf
  refine CallQ.o (Bi true) (by first | rfl | simp only [Aa,V.fz,fzL,V.up,upL,Ab,Ac,Ad,slr,List.cons_append,List.nil_append] | simp [Aa,V.fz,fzL,V.up,upL,Ab,Ac,Ad,slr]) h (fun r h=>Bm h) (fun r4 h=> ?_)
  conv=>whnf
  refine CallQ.o (Bi true) (by first | rfl | simp only [Aa,V.fz,fzL,V.up,upL,Ab,Ac,Ad,slr,List.cons_append,List.nil_append] | simp [Aa,V.fz,fzL,V.up,upL,Ab,Ac,Ad,slr]) h (fun r h=>Bm h) (fun r5 h=> ?_)
  conv=>whnf
  refine BslQ.o (Bi true) ([r4,r5]) (by exact fun _=>⟨rfl,rfl⟩) (by first | rfl | (simp only [Aa,V.fz,fzL,V.up,upL,Ab,Ac,Ad,slr,List.cons_append,List.nil_append];done) | simp [Aa,V.fz,fzL,V.up,upL,Ab,Ac,Ad,slr]) ?_
  conv=>whnf
  refine SetKids.lit rfl ?_
  conv=>whnf
  cases h;exact (by first | rfl | simp only [Ah,Aa,V.fz,fzL,V.up,upL,Ab,Ac,Ad,slr] | simp [Ah,Aa,V.fz,fzL,V.up,upL,Ab,Ac,Ad,slr])
 conv=>whnf
 refine Br.oe h (fun p6 h=> ?_) (fun p6 h=> ?_)
 ·conv=>whnf
  refine CallQ.o (Bi true) (by first | rfl | simp only [Aa,V.fz,fzL,V.up,upL,Ab,Ac,Ad,slr,List.cons_append,List.nil_append] | simp [Aa,V.fz,fzL,V.up,upL,Ab,Ac,Ad,slr]) h (fun r h=>Bm h) (fun r7 h=> ?_)
  conv=>whnf
  refine CallQ.o (Bi true) (by first | rfl | simp only [Aa,V.fz,fzL,V.up,upL,Ab,Ac,Ad,slr,List.cons_append,List.nil_append] | simp [Aa,V.fz,fzL,V.up,upL,Ab,Ac,Ad,slr]) h (fun r h=>Bm h) (fun r8 h=> ?_)
  conv=>whnf
  refine BslQ.o Af ([(1:Int),(0:Int)]) (by exact fun _=>⟨rfl,rfl⟩) (by first | rfl | (simp only [Aa,V.fz,fzL,V.up,upL,Ab,Ac,Ad,slr,List.cons_append,List.nil_append];done) | simp [Aa,V.fz,fzL,V.up,upL,Ab,Ac,Ad,slr]) ?_
  conv=>whnf
  refine BslQ.o (Bi true) ([r7,r8,{ Arity:=(1:Int),Table:=[(1:Int),(0:Int)] }]) (by exact fun _=>⟨rfl,rfl⟩) (by first | rfl | (simp only [Aa,V.fz,fzL,V.up,upL,Ab,Ac,Ad,slr,List.cons_append,List.nil_append];done) | simp [Aa,V.fz,fzL,V.up,upL,Ab,Ac,Ad,slr]) ?_
  conv=>whnf
  refine SetKids.lit rfl ?_
  conv=>whnf
  cases h;exact (by first | rfl | simp only [Ah,Aa,V.fz,fzL,V.up,upL,Ab,Ac,Ad,slr] | simp [Ah,Aa,V.fz,fzL,V.up,upL,Ab,Ac,Ad,slr])
 conv=>whnf
 refine Br.oe h (fun p9 h=> ?_) (fun p9 h=> ?_)
 ·conv=>whnf
  refine CallQ.o (Bi true) (by first | rfl | simp only [Aa,V.fz,fzL,V.up,upL,Ab,Ac,Ad,slr,List.cons_append,List.nil_append] | simp [Aa,V.fz,fzL,V.up,upL,Ab,Ac,Ad,slr]) h (fun r h=>Rx h) (fun r10 h=> ?_)
  conv=>whnf
  refine BslQ.o (Bi true) [r10] (by exact fun _=>⟨rfl,rfl⟩) (by first | rfl | (simp only [Aa,V.fz,fzL,V.up,upL,Ab,Ac,Ad,slr,List.cons_append,List.nil_append];done) | simp [Aa,V.fz,fzL,V.up,upL,Ab,Ac,Ad,slr]) ?_
  conv=>whnf
  refine SetKids.lit rfl ?_
  conv=>whnf
  cases h;exact (by first | rfl | simp only [Ah,Aa,V.fz,fzL,V.up,upL,Ab,Ac,Ad,slr] | simp [Ah,Aa,V.fz,fzL,V.up,upL,Ab,Ac,Ad,slr])
 conv=>whnf
 refine Br.oe h (fun p11 h=> ?_) (fun p11 h=> ?_)
 ·conv=>whnf
  refine CallQ.o (Bi true) (by first | rfl | simp only [Aa,V.fz,fzL,V.up,upL,Ab,Ac,Ad,slr,List.cons_append,List.nil_append] | simp [Aa,V.fz,fzL,V.up,upL,Ab,Ac,Ad,slr]) h (fun r h=>Bm h) (fun r12 h=> ?_)
  conv=>whnf
  refine BslQ.o (Bi true) [r12] (by exact fun _=>⟨rfl,rfl⟩) (by first | rfl | (simp only [Aa,V.fz,fzL,V.up,upL,Ab,Ac,Ad,slr,List.cons_append,List.nil_append];done) | simp [Aa,V.fz,fzL,V.up,upL,Ab,Ac,Ad,slr]) ?_
  conv=>whnf
  refine SetKids.lit rfl ?_
  conv=>whnf
  cases h;exact (by first | rfl | simp only [Ah,Aa,V.fz,fzL,V.up,upL,Ab,Ac,Ad,slr] | simp [Ah,Aa,V.fz,fzL,V.up,upL,Ab,Ac,Ad,slr])
 conv=>whnf
 refine Br.oe h (fun p13 h=> ?_) (fun p13 h=> ?_)
 ·conv=>whnf
  refine CallQ.o (Bi true) (by first | rfl | simp only [Aa,V.fz,fzL,V.up,upL,Ab,Ac,Ad,slr,List.cons_append,List.nil_append] | simp [Aa,V.fz,fzL,V.up,upL,Ab,Ac,Ad,slr]) h (fun r h=>Bm h) (fun r14 h=> ?_)
  conv=>whnf
  refine BslQ.o (Bi true) [r14] (by exact fun _=>⟨rfl,rfl⟩) (by first | rfl | (simp only [Aa,V.fz,fzL,V.up,upL,Ab,Ac,Ad,slr,List.cons_append,List.nil_append];done) | simp [Aa,V.fz,fzL,V.up,upL,Ab,Ac,Ad,slr]) ?_
  conv=>whnf
  refine SetKids.lit rfl ?_
  conv=>whnf
  cases h;exact (by first | rfl | simp only [Ah,Aa,V.fz,fzL,V.up,upL,Ab,Ac,Ad,slr] | simp [Ah,Aa,V.fz,fzL,V.up,upL,Ab,Ac,Ad,slr])
 conv=>whnf
 refine Br.oe h (fun p15 h=> ?_) (fun p15 h=> ?_)
 ·conv=>whnf
  refine CallQ.o (Bi true) (by first | rfl | simp only [Aa,V.fz,fzL,V.up,upL,Ab,Ac,Ad,slr,List.cons_append,List.nil_append] | simp [Aa,V.fz,fzL,V.up,upL,Ab,Ac,Ad,slr]) h (fun r h=>Bm h) (fun r16 h=> ?_)
  conv=>whnf
  refine BslQ.o (Bi true) [r16] (by exact fun _=>⟨rfl,rfl⟩) (by first | rfl | (simp only [Aa,V.fz,fzL,V.up,upL,Ab,Ac,Ad,slr,List.cons_append,List.nil_append];done) | simp [Aa,V.fz,fzL,V.up,upL,Ab,Ac,Ad,slr]) ?_
  conv=>whnf
  refine SetKids.lit rfl ?_
  conv=>whnf
  cases h;exact (by first | rfl | simp only [Ah,Aa,V.fz,fzL,V.up,upL,Ab,Ac,Ad,slr] | simp [Ah,Aa,V.fz,fzL,V.up,upL,Ab,Ac,Ad,slr])
 conv=>whnf
 refine Br.oe h (fun p17 h=> ?_) (fun p17 h=> ?_)
 ·conv=>whnf
  refine CallQ.o (Bi true) (by first | rfl | simp only [Aa,V.fz,fzL,V.up,upL,Ab,Ac,Ad,slr,List.cons_append,List.nil_append] | simp [Aa,V.fz,fzL,V.up,upL,Ab,Ac,Ad,slr]) h (fun r h=>Bm h) (fun r18 h=> ?_)
  conv=>whnf
  refine CallQ.o (Bi true) (by first | rfl | simp only [Aa,V.fz,fzL,V.up,upL,Ab,Ac,Ad,slr,List.cons_append,List.nil_append] | simp [Aa,V.fz,fzL,V.up,upL,Ab,Ac,Ad,slr]) h (fun r h=>Bm h) (fun r19 h=> ?_)
  conv=>whnf
  refine BslQ.o (Bi true) ([r18,r19]) (by exact fun _=>⟨rfl,rfl⟩) (by first | rfl | (simp only [Aa,V.fz,fzL,V.up,upL,Ab,Ac,Ad,slr,List.cons_append,List.nil_append];done) | simp [Aa,V.fz,fzL,V.up,upL,Ab,Ac,Ad,slr]) ?_
  conv=>whnf
  refine SetKids.lit rfl ?_
  conv=>whnf
  cases h;exact (by first | rfl | simp only [Ah,Aa,V.fz,fzL,V.up,upL,Ab,Ac,Ad,slr] | simp [Ah,Aa,V.fz,fzL,V.up,upL,Ab,Ac,Ad,slr])
 conv=>whnf
 refine Br.oe h (fun p20 h=> ?_) (fun p20 h=> ?_)
 ·conv=>whnf
  refine BslQ.o Af ([(1:Int),(2:Int),(3:Int),(0:Int)]) (by exact fun _=>⟨rfl,rfl⟩) (by first | rfl | (simp only [Aa,V.fz,fzL,V.up,upL,Ab,Ac,Ad,slr,List.cons_append,List.nil_append];done) | simp [Aa,V.fz,fzL,V.up,upL,Ab,Ac,Ad,slr]) ?_
  conv=>whnf
  refine BslQ.o (Bi true) ([{ Arity:=(1:Int),Table:=[(1:Int),(2:Int),(3:Int),(0:Int)] }]) (by exact fun _=>⟨rfl,rfl⟩) (by first | rfl | (simp only [Aa,V.fz,fzL,V.up,upL,Ab,Ac,Ad,slr,List.cons_append,List.nil_append];done) | simp [Aa,V.fz,fzL,V.up,upL,Ab,Ac,Ad,slr]) ?_
  conv=>whnf
  refine SetKids.lit rfl ?_
  conv=>whnf
  cases h;exact (by first | rfl | simp only [Ah,Aa,V.fz,fzL,V.up,upL,Ab,Ac,Ad,slr] | simp [Ah,Aa,V.fz,fzL,V.up,upL,Ab,Ac,Ad,slr])
 conv=>whnf
 refine Br.oe h (fun p21 h=> ?_) (fun p21 h=> ?_)
 ·conv=>whnf
  refine BslQ.o Af ([(0:Int),(0:Int),(0:Int),(1:Int),(0:Int),(1:Int),(1:Int),(1:Int)]) (by exact fun _=>⟨rfl,rfl⟩) (by first | rfl | (simp only [Aa,V.fz,fzL,V.up,upL,Ab,Ac,Ad,slr,List.cons_append,List.nil_append];done) | simp [Aa,V.fz,fzL,V.up,upL,Ab,Ac,Ad,slr]) ?_
  conv=>whnf
  refine BslQ.o (Bi true) ([{ Arity:=(3:Int),Table:=[(0:Int),(0:Int),(0:Int),(1:Int),(0:Int),(1:Int),(1:Int),(1:Int)] }]) (by exact fun _=>⟨rfl,rfl⟩) (by first | rfl | (simp only [Aa,V.fz,fzL,V.up,upL,Ab,Ac,Ad,slr,List.cons_append,List.nil_append];done) | simp [Aa,V.fz,fzL,V.up,upL,Ab,Ac,Ad,slr]) ?_
  conv=>whnf
  refine SetKids.lit rfl ?_
  conv=>whnf
  cases h;exact (by first | rfl | simp only [Ah,Aa,V.fz,fzL,V.up,upL,Ab,Ac,Ad,slr] | simp [Ah,Aa,V.fz,fzL,V.up,upL,Ab,Ac,Ad,slr])
 conv=>whnf
 refine Br.oe h (fun p22 h=> ?_) (fun p22 h=> ?_)
 ·conv=>whnf
  refine CallQ.o (Bi true) (by first | rfl | simp only [Aa,V.fz,fzL,V.up,upL,Ab,Ac,Ad,slr,List.cons_append,List.nil_append] | simp [Aa,V.fz,fzL,V.up,upL,Ab,Ac,Ad,slr]) h (fun r h=>Bm h) (fun r23 h=> ?_)
  conv=>whnf
  refine BslQ.o (Bi true) [r23] (by exact fun _=>⟨rfl,rfl⟩) (by first | rfl | (simp only [Aa,V.fz,fzL,V.up,upL,Ab,Ac,Ad,slr,List.cons_append,List.nil_append];done) | simp [Aa,V.fz,fzL,V.up,upL,Ab,Ac,Ad,slr]) ?_
  conv=>whnf
  refine SetKids.lit rfl ?_
  conv=>whnf
  cases h;exact (by first | rfl | simp only [Ah,Aa,V.fz,fzL,V.up,upL,Ab,Ac,Ad,slr] | simp [Ah,Aa,V.fz,fzL,V.up,upL,Ab,Ac,Ad,slr])
 conv=>whnf
 refine Br.oe h (fun p24 h=> ?_) (fun p24 h=> ?_)
 ·conv=>whnf
  refine CallQ.o (Bi true) (by first | rfl | simp only [Aa,V.fz,fzL,V.up,upL,Ab,Ac,Ad,slr,List.cons_append,List.nil_append] | simp [Aa,V.fz,fzL,V.up,upL,Ab,Ac,Ad,slr]) h (fun r h=>Bm h) (fun r25 h=> ?_)
  conv=>whnf
  refine CallQ.o (Bi true) (by first | rfl | simp only [Aa,V.fz,fzL,V.up,upL,Ab,Ac,Ad,slr,List.cons_append,List.nil_append] | simp [Aa,V.fz,fzL,V.up,upL,Ab,Ac,Ad,slr]) h (fun r h=>Bm h) (fun r26 h=> ?_)
  conv=>whnf
  refine BslQ.o (Bi true) ([r25,r26]) (by exact fun _=>⟨rfl,rfl⟩) (by first | rfl | (simp only [Aa,V.fz,fzL,V.up,upL,Ab,Ac,Ad,slr,List.cons_append,List.nil_append];done) | simp [Aa,V.fz,fzL,V.up,upL,Ab,Ac,Ad,slr]) ?_
  conv=>whnf
  refine SetKids.lit rfl ?_
  conv=>whnf
  cases h;exact (by first | rfl | simp only [Ah,Aa,V.fz,fzL,V.up,upL,Ab,Ac,Ad,slr] | simp [Ah,Aa,V.fz,fzL,V.up,upL,Ab,Ac,Ad,slr])
 conv=>whnf
 refine Br.oe h (fun p27 h=> ?_) (fun p27 h=> ?_)
 ·conv=>whnf
  refine CallQ.o (Bi true) (by first | rfl | simp only [Aa,V.fz,fzL,V.up,upL,Ab,Ac,Ad,slr,List.cons_append,List.nil_append] | simp [Aa,V.fz,fzL,V.up,upL,Ab,Ac,Ad,slr]) h (fun r h=>Bm h) (fun r28 h=> ?_)
  conv=>whnf
  refine BslQ.o (Bi true) [r28] (by exact fun _=>⟨rfl,rfl⟩) (by first | rfl | (simp only [Aa,V.fz,fzL,V.up,upL,Ab,Ac,Ad,slr,List.cons_append,List.nil_append];done) | simp [Aa,V.fz,fzL,V.up,upL,Ab,Ac,Ad,slr]) ?_
  conv=>whnf
  refine SetKids.lit rfl ?_
  conv=>whnf
  cases h;exact (by first | rfl | simp only [Ah,Aa,V.fz,fzL,V.up,upL,Ab,Ac,Ad,slr] | simp [Ah,Aa,V.fz,fzL,V.up,upL,Ab,Ac,Ad,slr])
 conv=>whnf
 refine Br.oe h (fun p29 h=> ?_) (fun p29 h=> ?_)
 ·conv=>whnf
  refine BslQ.o Af ([(0:Int),(0:Int),(1:Int)]) (by exact fun _=>⟨rfl,rfl⟩) (by first | rfl | (simp only [Aa,V.fz,fzL,V.up,upL,Ab,Ac,Ad,slr,List.cons_append,List.nil_append];done) | simp [Aa,V.fz,fzL,V.up,upL,Ab,Ac,Ad,slr]) ?_
  conv=>whnf
  refine BslQ.o Af ([(2:Int)]) (by exact fun _=>⟨rfl,rfl⟩) (by first | rfl | (simp only [Aa,V.fz,fzL,V.up,upL,Ab,Ac,Ad,slr,List.cons_append,List.nil_append];done) | simp [Aa,V.fz,fzL,V.up,upL,Ab,Ac,Ad,slr]) ?_
  conv=>whnf
  refine BslQ.o (Bi true) ([{ Arity:=(1:Int),Table:=[(0:Int),(0:Int),(1:Int)] },{ Arity:=(0:Int),Table:=[(2:Int)] }]) (by exact fun _=>⟨rfl,rfl⟩) (by first | rfl | (simp only [Aa,V.fz,fzL,V.up,upL,Ab,Ac,Ad,slr,List.cons_append,List.nil_append];done) | simp [Aa,V.fz,fzL,V.up,upL,Ab,Ac,Ad,slr]) ?_
  conv=>whnf
  refine SetKids.lit rfl ?_
  conv=>whnf
  cases h;exact (by first | rfl | simp only [Ah,Aa,V.fz,fzL,V.up,upL,Ab,Ac,Ad,slr] | simp [Ah,Aa,V.fz,fzL,V.up,upL,Ab,Ac,Ad,slr])
 conv=>whnf
 refine Br.oe h (fun p30 h=> ?_) (fun p30 h=> ?_)
 ·conv=>whnf
  refine CallQ.o (Bi true) (by first | rfl | simp only [Aa,V.fz,fzL,V.up,upL,Ab,Ac,Ad,slr,List.cons_append,List.nil_append] | simp [Aa,V.fz,fzL,V.up,upL,Ab,Ac,Ad,slr]) h (fun r h=>Bm h) (fun r31 h=> ?_)
  conv=>whnf
  refine BslQ.o (Bi true) [r31] (by exact fun _=>⟨rfl,rfl⟩) (by first | rfl | (simp only [Aa,V.fz,fzL,V.up,upL,Ab,Ac,Ad,slr,List.cons_append,List.nil_append];done) | simp [Aa,V.fz,fzL,V.up,upL,Ab,Ac,Ad,slr]) ?_
  conv=>whnf
  refine SetKids.lit rfl ?_
  conv=>whnf
  cases h;exact (by first | rfl | simp only [Ah,Aa,V.fz,fzL,V.up,upL,Ab,Ac,Ad,slr] | simp [Ah,Aa,V.fz,fzL,V.up,upL,Ab,Ac,Ad,slr])
 conv=>whnf
 refine Br.oe h (fun p32 h=> ?_) (fun p32 h=> ?_)
 ·conv=>whnf
  refine CallQ.o (Bi true) (by first | rfl | simp only [Aa,V.fz,fzL,V.up,upL,Ab,Ac,Ad,slr,List.cons_append,List.nil_append] | simp [Aa,V.fz,fzL,V.up,upL,Ab,Ac,Ad,slr]) h (fun r h=>Rx h) (fun r33 h=> ?_)
  conv=>whnf
  refine BslQ.o (Bi true) [r33] (by exact fun _=>⟨rfl,rfl⟩) (by first | rfl | (simp only [Aa,V.fz,fzL,V.up,upL,Ab,Ac,Ad,slr,List.cons_append,List.nil_append];done) | simp [Aa,V.fz,fzL,V.up,upL,Ab,Ac,Ad,slr]) ?_
  conv=>whnf
  refine SetKids.lit rfl ?_
  conv=>whnf
  cases h;exact (by first | rfl | simp only [Ah,Aa,V.fz,fzL,V.up,upL,Ab,Ac,Ad,slr] | simp [Ah,Aa,V.fz,fzL,V.up,upL,Ab,Ac,Ad,slr])
 conv=>whnf
 refine SetKids.lit rfl ?_
 conv=>whnf
 cases h;exact (by first | rfl | simp only [Ah,Aa,V.fz,fzL,V.up,upL,Ab,Ac,Ad,slr] | simp [Ah,Aa,V.fz,fzL,V.up,upL,Ab,Ac,Ad,slr])
noncomputable def Am (c0:Sl1Cur) (n0:Int):Option (Int×Sl1Cur):=
 if n0≤(1:Int) then
 some ((0:Int),c0)
 else
 (Ed (c0)).bind fun (r2,u3)=>
 if n0>(200:Int) then
 ask (InI (r2*(256:Int))) <|
 (Ed (u3)).bind fun (r6,u7)=>
 ask (InI (r2*(256:Int)+r6)) <|
 ask (n0≠(0:Int)) <|
 some ((r2*(256:Int)+r6).tmod n0,u7)
 else
 ask (n0≠(0:Int)) <|
 some (r2.tmod n0,u3)
theorem Ar {c0:Sl1Cur} {n0:Int} {v:(Int×Sl1Cur)} (h:Am c0 n0=some v):Iq Tryd.prog Ao [(rP true (Aj false)) c0,Af n0] (Af v.1) 0 ((rP true (Aj false)) v.2):=by
 refine M5 Yc (Nat.le_of_ble_eq_true rfl) ?_
 unfold Am at h
 conv=>whnf
 refine Br.od h (fun p1 h=> ?_) (fun p1 h=> ?_)
 ·conv=>whnf
  cases h;exact ⟨(by first | rfl | simp only [Ah,Aa,V.fz,fzL,V.up,upL,Ab,Ac,Ad,slr] | simp [Ah,Aa,V.fz,fzL,V.up,upL,Ab,Ac,Ad,slr]),(by first | rfl | simp only [Ah,Aa,V.fz,fzL,V.up,upL,Ab,Ac,Ad,slr] | simp [Ah,Aa,V.fz,fzL,V.up,upL,Ab,Ac,Ad,slr])⟩
 conv=>whnf
 refine CallQ.io Af (rP true (Aj false)) (by first | rfl | simp only [Aa,V.fz,fzL,V.up,upL,Ab,Ac,Ad,slr,List.cons_append,List.nil_append] | simp [Aa,V.fz,fzL,V.up,upL,Ab,Ac,Ad,slr]) rfl (fun _=>rfl) (fun _=>⟨rfl,rfl⟩) rfl h (fun r h=>Oj h) (fun r2 u3 h=> ?_)
 conv=>whnf
 refine Br.od h (fun p4 h=> ?_) (fun p4 h=> ?_)
 ·conv=>whnf
  refine Ask.o h fun p5 h=> ?_
  conv=>whnf
  refine CallQ.io Af (rP true (Aj false)) (by first | rfl | simp only [Aa,V.fz,fzL,V.up,upL,Ab,Ac,Ad,slr,List.cons_append,List.nil_append] | simp [Aa,V.fz,fzL,V.up,upL,Ab,Ac,Ad,slr]) rfl (fun _=>rfl) (fun _=>⟨rfl,rfl⟩) rfl h (fun r h=>Oj h) (fun r6 u7 h=> ?_)
  conv=>whnf
  refine Ask.o h fun p8 h=> ?_
  conv=>whnf
  refine Ask.o h fun p9 h=> ?_
  conv=>whnf
  cases h;exact ⟨(by first | rfl | simp only [Ah,Aa,V.fz,fzL,V.up,upL,Ab,Ac,Ad,slr] | simp [Ah,Aa,V.fz,fzL,V.up,upL,Ab,Ac,Ad,slr]),(by first | rfl | simp only [Ah,Aa,V.fz,fzL,V.up,upL,Ab,Ac,Ad,slr] | simp [Ah,Aa,V.fz,fzL,V.up,upL,Ab,Ac,Ad,slr])⟩
 conv=>whnf
 refine Ask.o h fun p10 h=> ?_
 conv=>whnf
 cases h;exact ⟨(by first | rfl | simp only [Ah,Aa,V.fz,fzL,V.up,upL,Ab,Ac,Ad,slr] | simp [Ah,Aa,V.fz,fzL,V.up,upL,Ab,Ac,Ad,slr]),(by first | rfl | simp only [Ah,Aa,V.fz,fzL,V.up,upL,Ab,Ac,Ad,slr] | simp [Ah,Aa,V.fz,fzL,V.up,upL,Ab,Ac,Ad,slr])⟩
noncomputable def Bs (a0:SAlgebra) (t0:List Int):(Int×Int)→Option ((Int×Int) ⊕ (Int ⊕ Unit)):=fun (x8,x7)=>
 if x8<(↑t0.length:Int) then
 ask (InI (x7-(1:Int))) <|
 ask ((0:Int)≤x8∧x8<(↑t0.length:Int)) <|
 if nth t0 x8.toNat<(0:Int) then
 ask ((0:Int)≤x8∧x8<(↑t0.length:Int)) <|
 (E1 (nth t0 x8.toNat) (IntKind.i64.wrap ((0:Int)-(↑a0.Ops.length:Int))) ((-1:Int))).bind fun r6=>
 if (r6)=true then
 ask ((0:Int)≤x8∧x8<(↑t0.length:Int)) <|
 ask (InI ((-1:Int)-nth t0 x8.toNat)) <|
 ask ((0:Int)≤(-1:Int)-nth t0 x8.toNat∧(-1:Int)-nth t0 x8.toNat<(↑a0.Ops.length:Int)) <|
 ask (InI (x7-(1:Int)+(nth a0.Ops ((-1:Int)-nth t0 x8.toNat).toNat).Arity)) <|
 if x7-(1:Int)+(nth a0.Ops ((-1:Int)-nth t0 x8.toNat).toNat).Arity=(0:Int) then
 ask (InI (x8+(1:Int))) <|
 some (.inr (.inl (x8+(1:Int))))
 else
 ask (InI (x8+(1:Int))) <|
 some (.inl (x8+(1:Int),x7-(1:Int)+(nth a0.Ops ((-1:Int)-nth t0 x8.toNat).toNat).Arity))
 else
 some (.inr (.inl (-1:Int)))
 else
 ask ((0:Int)≤x8∧x8<(↑t0.length:Int)) <|
 if nth t0 x8.toNat≥(6:Int) then
 some (.inr (.inl (-1:Int)))
 else
 if x7-(1:Int)=(0:Int) then
 ask (InI (x8+(1:Int))) <|
 some (.inr (.inl (x8+(1:Int))))
 else
 ask (InI (x8+(1:Int))) <|
 some (.inl (x8+(1:Int),x7-(1:Int)))
 else
 some (.inr (.inr ()))
def L8 (a0:SAlgebra) (t0:List Int):(Int×Int)→St:=fun s=>[(8,A.val (Af s.1)),(7,A.val (Af s.2)),(3,A.val ((rP true (Ag false)) (a0))),(1,A.val ((slr false 1 Af) (t0)))]
def Rt (_a0:SAlgebra) (_t0:List Int):(Int ⊕ Unit)→Tgt
 | (.inl s)=>(Ex.ret,[6],[(6,A.val (Af s))])
 | (.inr _s)=>((Ex.exit 0),[],[])
theorem Ach {a0:SAlgebra} {t0:List Int} (s:(Int×Int)) (o:(Int×Int) ⊕ (Int ⊕ Unit)) (h:Bs a0 t0 s=some o):vc Tryd.prog Ry (Gg [8,7,3,1] (L8 a0 t0) (Rt a0 t0) o) (L8 a0 t0 s):=by
 obtain ⟨x8,x7⟩:=s
 unfold Bs at h
 try dsimp only at h
 conv=>whnf
 refine Len.map ?_
 conv=>whnf
 refine Br.od h (fun p1 h=> ?_) (fun p1 h=> ?_)
 ·conv=>whnf
  refine Ask.o h fun p2 h=> ?_
  conv=>whnf
  refine Len.map ?_
  conv=>whnf
  refine Ask.o h fun p3 h=> ?_
  conv=>whnf
  refine Elem.o (by first | omega | (simp [A8] at * <;> omega)) ?_
  conv=>whnf
  refine Br.od h (fun p4 h=> ?_) (fun p4 h=> ?_)
  ·conv=>whnf
   refine Len.map ?_
   conv=>whnf
   refine Ask.o h fun p5 h=> ?_
   conv=>whnf
   refine Elem.o (by first | omega | (simp [A8] at * <;> omega)) ?_
   conv=>whnf
   refine Cells.lit rfl rfl ?_
   conv=>whnf
   refine Len.map ?_
   conv=>whnf
   refine CallQ.o V.bool (by first | rfl | simp only [Aa,V.fz,fzL,V.up,upL,Ab,Ac,Ad,slr,List.cons_append,List.nil_append] | simp [Aa,V.fz,fzL,V.up,upL,Ab,Ac,Ad,slr]) h (fun r h=>Om h) (fun r6 h=> ?_)
   conv=>whnf
   refine Br.flip ?_
   conv=>whnf
   refine Br.ob h (fun p7 h=> ?_) (fun p7 h=> ?_)
   ·conv=>whnf
    refine Cells.lit rfl rfl ?_
    conv=>whnf
    refine Len.map ?_
    conv=>whnf
    refine Ask.o h fun p8 h=> ?_
    conv=>whnf
    refine Elem.o (by first | omega | (simp [A8] at * <;> omega)) ?_
    conv=>whnf
    refine Ask.o h fun p9 h=> ?_
    conv=>whnf
    refine Len.map ?_
    conv=>whnf
    refine Ask.o h fun p10 h=> ?_
    conv=>whnf
    refine Elem.o (by first | omega | (simp [A8] at * <;> omega)) ?_
    conv=>whnf
    refine Ask.o h fun p11 h=> ?_
    conv=>whnf
    refine Br.oe h (fun p12 h=> ?_) (fun p12 h=> ?_)
    ·conv=>whnf
     refine Ask.o h fun p13 h=> ?_
     conv=>whnf
     cases h;exact ⟨rfl,rfl⟩
    conv=>whnf
    refine Ask.o h fun p14 h=> ?_
    conv=>whnf
    cases h;exact ⟨rfl,rfl⟩
   conv=>whnf
   cases h;exact ⟨rfl,rfl⟩
  conv=>whnf
  refine Len.map ?_
  conv=>whnf
  refine Ask.o h fun p15 h=> ?_
  conv=>whnf
  refine Elem.o (by first | omega | (simp [A8] at * <;> omega)) ?_
  conv=>whnf
  refine Br.od h (fun p16 h=> ?_) (fun p16 h=> ?_)
  ·conv=>whnf
   cases h;exact ⟨rfl,rfl⟩
  conv=>whnf
  refine Br.oe h (fun p17 h=> ?_) (fun p17 h=> ?_)
  ·conv=>whnf
   refine Ask.o h fun p18 h=> ?_
   conv=>whnf
   cases h;exact ⟨rfl,rfl⟩
  conv=>whnf
  refine Ask.o h fun p19 h=> ?_
  conv=>whnf
  cases h;exact ⟨rfl,rfl⟩
 conv=>whnf
 cases h;exact ⟨rfl,rfl⟩
noncomputable def Ev (a0:SAlgebra) (t0:(List Int)) (at0:Int):Option Int:=
 (A7 (Bs a0 t0) (at0,(1:Int))).bind fun t=>match t with
 | (.inl q20_6)=>(some q20_6)
 | (.inr _)=>(some (-1:Int))
theorem Mw {a0:SAlgebra} {t0:(List Int)} {at0:Int} {v:Int} (h:Ev a0 t0 at0=some v):Ret Tryd.prog Hw [(Ag false) a0,(slr false 1 Af) t0,Af at0] (Af v):=by
 refine Bp Aio (Nat.le_of_ble_eq_true rfl) ?_
 unfold Ev at h
 conv=>whnf
 refine LoopQ.o [8,7,3,1] (L8 a0 t0) (Rt a0 t0) h (fun s o h=>Ach s o h) (by first | rfl | simp [restrict,look,Aa,V.fz,fzL,V.up,upL,Ab,Ac,Ad,slr]) (by rintro (_ | _)<;>rfl) ?_
 rintro (q20_6 | ⟨⟩) h
 ·try dsimp only at h
  conv=>whnf
  cases h;exact (by first | rfl | simp only [Ah,Aa,V.fz,fzL,V.up,upL,Ab,Ac,Ad,slr] | simp [Ah,Aa,V.fz,fzL,V.up,upL,Ab,Ac,Ad,slr])
 try dsimp only at h
 conv=>whnf
 cases h;exact (by first | rfl | simp only [Ah,Aa,V.fz,fzL,V.up,upL,Ab,Ac,Ad,slr] | simp [Ah,Aa,V.fz,fzL,V.up,upL,Ab,Ac,Ad,slr])
noncomputable def Fe (n0:Int) (op0:SOp):Int→Option (Int ⊕ (Unit ⊕ Unit)):=fun x5=>
 if x5<(↑op0.Table.length:Int) then
 ask ((0:Int)≤x5∧x5<(↑op0.Table.length:Int)) <|
 ask (InI (n0-(1:Int))) <|
 (E1 (nth op0.Table x5.toNat) ((0:Int)) (n0-(1:Int))).bind fun r9=>
 if (r9)=true then
 ask (InI (x5+(1:Int))) <|
 some (.inl (x5+(1:Int)))
 else
 some (.inr (.inl ()))
 else
 some (.inr (.inr ()))
def Ng (n0:Int) (op0:SOp):Int→St:=fun s=>[(5,A.val (Af s)),(3,A.val ((rP true (Bi false)) (op0))),(0,A.val (Af (n0)))]
def S9 (_n0:Int) (_op0:SOp):(Unit ⊕ Unit)→Tgt
 | (.inl _s)=>(Ex.ret,[4],[(4,A.val (V.bool (false)))])
 | (.inr _s)=>((Ex.exit 0),[],[])
theorem Ae4 {n0:Int} {op0:SOp} (x5:Int) (o:Int ⊕ (Unit ⊕ Unit)) (h:Fe n0 op0 x5=some o):vc Tryd.prog Ss (Gg [5,3,0] (Ng n0 op0) (S9 n0 op0) o) (Ng n0 op0 x5):=by
 unfold Fe at h
 try dsimp only at h
 conv=>whnf
 refine Cells.lit rfl rfl ?_
 conv=>whnf
 refine Len.map ?_
 conv=>whnf
 refine Br.od h (fun p6 h=> ?_) (fun p6 h=> ?_)
 ·conv=>whnf
  refine Cells.lit rfl rfl ?_
  conv=>whnf
  refine Len.map ?_
  conv=>whnf
  refine Ask.o h fun p7 h=> ?_
  conv=>whnf
  refine Elem.o (by first | omega | (simp [A8] at * <;> omega)) ?_
  conv=>whnf
  refine Ask.o h fun p8 h=> ?_
  conv=>whnf
  refine CallQ.o V.bool (by first | rfl | simp only [Aa,V.fz,fzL,V.up,upL,Ab,Ac,Ad,slr,List.cons_append,List.nil_append] | simp [Aa,V.fz,fzL,V.up,upL,Ab,Ac,Ad,slr]) h (fun r h=>Om h) (fun r9 h=> ?_)
  conv=>whnf
  refine Br.flip ?_
  conv=>whnf
  refine Br.ob h (fun p10 h=> ?_) (fun p10 h=> ?_)
  ·conv=>whnf
   refine Ask.o h fun p11 h=> ?_
   conv=>whnf
   cases h;exact ⟨rfl,rfl⟩
  conv=>whnf
  cases h;exact ⟨rfl,rfl⟩
 conv=>whnf
 cases h;exact ⟨rfl,rfl⟩
noncomputable def Ly (n0:Int) (op0:SOp):Option Bool:=
 (((E1 (op0.Arity) ((0:Int)) ((3:Int))).bind fun r1=>
 if (r1)=true then
 (Gj (n0) (op0.Arity)).bind fun r3=>
 if (↑op0.Table.length:Int)≠r3 then
 some (.inl ())
 else
 some (.inr ())
 else
 some (.inl ()):Option (Unit ⊕ Unit))).bind fun t=>match t with
 | (.inl _)=>(some false)
 | (.inr _)=>((A7 (Fe n0 op0) (0:Int)).bind fun t=>match t with
 | (.inl _)=>(some false)
 | (.inr _)=>(some true))
theorem Ak2 {n0:Int} {op0:SOp} {v:Bool} (h:Ly n0 op0=some v):Ret Tryd.prog Th [Af n0,(Bi false) op0] (V.bool v):=by
 refine Bp Akr (Nat.le_of_ble_eq_true rfl) ?_
 unfold Ly at h
 conv=>whnf
 refine CutQ.o (fun t:(Unit ⊕ Unit)=>match t with | (.inl s)=>(Ex.ret,[4],[(4,A.val (V.bool (false)))]) | (.inr s)=>(Ex.normal,[3,0],[(3,A.val ((rP true (Bi false)) (op0))),(0,A.val (Af (n0)))])) h ?_ ?_
 ·intro t h
  conv=>whnf
  refine Cells.lit rfl rfl ?_
  conv=>whnf
  refine CallP.o V.bool (by first | rfl | simp only [Aa,V.fz,fzL,V.up,upL,Ab,Ac,Ad,slr,List.cons_append,List.nil_append] | simp [Aa,V.fz,fzL,V.up,upL,Ab,Ac,Ad,slr]) h (fun r h=>Om h) (fun r1 h=> ?_)
  conv=>whnf
  refine Br.flip ?_
  conv=>whnf
  refine Br.ob h (fun p2 h=> ?_) (fun p2 h=> ?_)
  ·conv=>whnf
   refine Br.no ?_
   conv=>whnf
   refine Cells.lit rfl rfl ?_
   conv=>whnf
   refine Br.no ?_
   conv=>whnf
   refine Len.map ?_
   conv=>whnf
   refine Br.no ?_
   conv=>whnf
   refine Br.no ?_
   conv=>whnf
   refine Br.no ?_
   conv=>whnf
   refine Cells.lit rfl rfl ?_
   conv=>whnf
   refine Br.no ?_
   conv=>whnf
   refine CallP.o Af (by first | rfl | simp only [Aa,V.fz,fzL,V.up,upL,Ab,Ac,Ad,slr,List.cons_append,List.nil_append] | simp [Aa,V.fz,fzL,V.up,upL,Ab,Ac,Ad,slr]) h (fun r h=>Xn h) (fun r3 h=> ?_)
   conv=>whnf
   refine Br.no ?_
   conv=>whnf
   refine Br.no ?_
   conv=>whnf
   refine Br.on h (fun p4 h=> ?_) (fun p4 h=> ?_)
   ·conv=>whnf
    cases h;exact ⟨rfl,rfl⟩
   conv=>whnf
   cases h;exact ⟨rfl,rfl⟩
  conv=>whnf
  refine Br.yes ?_
  conv=>whnf
  refine Br.yes ?_
  conv=>whnf
  refine Br.yes ?_
  conv=>whnf
  refine Br.yes ?_
  conv=>whnf
  refine Br.yes ?_
  conv=>whnf
  refine Br.yes ?_
  conv=>whnf
  refine Br.yes ?_
  conv=>whnf
  refine Br.yes ?_
  conv=>whnf
  refine Br.yes ?_
  conv=>whnf
  cases h;exact ⟨rfl,rfl⟩
 rintro (⟨⟩ | ⟨⟩) h
 ·try dsimp only at h
  conv=>whnf
  cases h;exact (by first | rfl | simp only [Ah,Aa,V.fz,fzL,V.up,upL,Ab,Ac,Ad,slr] | simp [Ah,Aa,V.fz,fzL,V.up,upL,Ab,Ac,Ad,slr])
 try dsimp only at h
 conv=>whnf
 refine LoopQ.o [5,3,0] (Ng n0 op0) (S9 n0 op0) h (fun s o h=>Ae4 s o h) (by first | rfl | simp [restrict,look,Aa,V.fz,fzL,V.up,upL,Ab,Ac,Ad,slr]) (by rintro (_ | _)<;>rfl) ?_
 rintro (⟨⟩ | ⟨⟩) h
 ·try dsimp only at h
  conv=>whnf
  cases h;exact (by first | rfl | simp only [Ah,Aa,V.fz,fzL,V.up,upL,Ab,Ac,Ad,slr] | simp [Ah,Aa,V.fz,fzL,V.up,upL,Ab,Ac,Ad,slr])
 try dsimp only at h
 conv=>whnf
 cases h;exact (by first | rfl | simp only [Ah,Aa,V.fz,fzL,V.up,upL,Ab,Ac,Ad,slr] | simp [Ah,Aa,V.fz,fzL,V.up,upL,Ab,Ac,Ad,slr])
noncomputable def Fh (a0:SAlgebra) (t0:(List Int)):Option ByteArray:=
 (Li fun n=>B8 n (ByteArray.empty) (a0) (t0) ((0:Int))).bind fun (_r1,u2)=>
 (Fs (u2)).bind fun (r3,_u4)=>
 some r3
theorem Rw {a0:SAlgebra} {t0:(List Int)} {v:ByteArray} (h:Fh a0 t0=some v):Ret Tryd.prog Iz [(Ag false) a0,(slr false 1 Af) t0] (V.str v):=by
 refine Bp Ab1 (Nat.le_of_ble_eq_true rfl) ?_
 unfold Fh at h
 conv=>whnf
 refine Cells.lit rfl rfl ?_
 conv=>whnf
 refine CallQ.io Af rB (by first | rfl | simp only [Aa,V.fz,fzL,V.up,upL,Ab,Ac,Ad,slr,List.cons_append,List.nil_append] | simp [Aa,V.fz,fzL,V.up,upL,Ab,Ac,Ad,slr]) rfl (fun _=>rfl) (fun _=>⟨rfl,rfl⟩) rfl h (fun r h=>Zn h) (fun r1 u2 h=> ?_)
 conv=>whnf
 refine CallQ.io V.str rB (by first | rfl | simp only [Aa,V.fz,fzL,V.up,upL,Ab,Ac,Ad,slr,List.cons_append,List.nil_append] | simp [Aa,V.fz,fzL,V.up,upL,Ab,Ac,Ad,slr]) rfl (fun _=>rfl) (fun _=>⟨rfl,rfl⟩) rfl h (fun r h=>Pj h) (fun r3 u4 h=> ?_)
 conv=>whnf
 cases h;exact (by first | rfl | simp only [Ah,Aa,V.fz,fzL,V.up,upL,Ab,Ac,Ad,slr] | simp [Ah,Aa,V.fz,fzL,V.up,upL,Ab,Ac,Ad,slr])
end Go.Proofs.YtbnoclklhcbidaaDoor.Ax
