/-
 What the functions compute, as functions on plain data, and that the program does compute it; written by program.
-/
import Derived.Test.YtjcekpmojnnmbaaGreatCode
import Derived.Test.YtjcekpmojnnmbaaGreatG1
import Derived.Test.YtjcekpmojnnmbaaGreatG2
import Derived.Test.YtjcekpmojnnmbaaGreatG3
namespace Go.Proofs.YtjcekpmojnnmbaaGreat.Ax
open Go
set_option maxRecDepth 100000
set_option maxHeartbeats 4000000
noncomputable def I0 (k0:Int):Option SAlgebra:=
 if k0=(0:Int) then
 (A8 ({ data := #[(48:UInt8),(48:UInt8),(48:UInt8),(49:UInt8)] })).bind fun r2=>
 some ({ Size:=(2:Int),Ops:=[r2] })
 else
 if k0=(1:Int) then
 (A8 ({ data := #[(48:UInt8),(48:UInt8),(48:UInt8),(49:UInt8)] })).bind fun r4=>
 (A8 ({ data := #[(48:UInt8),(49:UInt8),(49:UInt8),(49:UInt8)] })).bind fun r5=>
 some ({ Size:=(2:Int),Ops:=[r4,r5] })
 else
 if k0=(2:Int) then
 (A8 ({ data := #[(48:UInt8),(48:UInt8),(48:UInt8),(49:UInt8)] })).bind fun r7=>
 (A8 ({ data := #[(48:UInt8),(49:UInt8),(49:UInt8),(49:UInt8)] })).bind fun r8=>
 some ({ Size:=(2:Int),Ops:=[r7,r8,{ Arity:=(1:Int),Table:=[(1:Int),(0:Int)] }] })
 else
 if k0=(3:Int) then
 (Gj ((2:Int))).bind fun r10=>
 some ({ Size:=(2:Int),Ops:=[r10] })
 else
 if k0=(4:Int) then
 (A8 ({ data := #[(48:UInt8),(49:UInt8),(50:UInt8),(49:UInt8),(50:UInt8),(48:UInt8),(50:UInt8),(48:UInt8),(49:UInt8)] })).bind fun r12=>
 some ({ Size:=(3:Int),Ops:=[r12] })
 else
 if k0=(5:Int) then
 (A8 ({ data := #[(48:UInt8),(49:UInt8),(48:UInt8),(49:UInt8),(49:UInt8),(50:UInt8),(48:UInt8),(50:UInt8),(50:UInt8)] })).bind fun r14=>
 some ({ Size:=(3:Int),Ops:=[r14] })
 else
 if k0=(6:Int) then
 (A8 ({ data := #[(48:UInt8),(49:UInt8),(50:UInt8),(51:UInt8),(49:UInt8),(48:UInt8),(51:UInt8),(50:UInt8),(50:UInt8),(51:UInt8),(48:UInt8),(49:UInt8),(51:UInt8),(50:UInt8),(49:UInt8),(48:UInt8)] })).bind fun r16=>
 some ({ Size:=(4:Int),Ops:=[r16] })
 else
 if k0=(7:Int) then
 (A8 ({ data := #[(48:UInt8),(48:UInt8),(48:UInt8),(48:UInt8),(49:UInt8),(49:UInt8),(48:UInt8),(49:UInt8),(50:UInt8)] })).bind fun r18=>
 (A8 ({ data := #[(48:UInt8),(49:UInt8),(50:UInt8),(49:UInt8),(49:UInt8),(50:UInt8),(50:UInt8),(50:UInt8),(50:UInt8)] })).bind fun r19=>
 some ({ Size:=(3:Int),Ops:=[r18,r19] })
 else
 if k0=(8:Int) then
 some ({ Size:=(4:Int),Ops:=[{ Arity:=(1:Int),Table:=[(1:Int),(2:Int),(3:Int),(0:Int)] }] })
 else
 if k0=(9:Int) then
 some ({ Size:=(2:Int),Ops:=[{ Arity:=(3:Int),Table:=[(0:Int),(0:Int),(0:Int),(1:Int),(0:Int),(1:Int),(1:Int),(1:Int)] }] })
 else
 if k0=(10:Int) then
 (A8 ({ data := #[(48:UInt8),(48:UInt8),(48:UInt8),(49:UInt8),(49:UInt8),(49:UInt8),(50:UInt8),(50:UInt8),(50:UInt8)] })).bind fun r23=>
 some ({ Size:=(3:Int),Ops:=[r23] })
 else
 if k0=(11:Int) then
 (A8 ({ data := #[(48:UInt8),(48:UInt8),(48:UInt8),(48:UInt8),(48:UInt8),(48:UInt8),(49:UInt8),(48:UInt8),(48:UInt8),(49:UInt8),(48:UInt8),(48:UInt8),(50:UInt8),(48:UInt8),(50:UInt8),(48:UInt8),(48:UInt8),(48:UInt8),(51:UInt8),(51:UInt8),(48:UInt8),(49:UInt8),(50:UInt8),(51:UInt8),(52:UInt8)] })).bind fun r25=>
 (A8 ({ data := #[(48:UInt8),(49:UInt8),(50:UInt8),(51:UInt8),(52:UInt8),(49:UInt8),(49:UInt8),(52:UInt8),(52:UInt8),(52:UInt8),(50:UInt8),(52:UInt8),(50:UInt8),(52:UInt8),(52:UInt8),(51:UInt8),(52:UInt8),(52:UInt8),(51:UInt8),(52:UInt8),(52:UInt8),(52:UInt8),(52:UInt8),(52:UInt8),(52:UInt8)] })).bind fun r26=>
 some ({ Size:=(5:Int),Ops:=[r25,r26] })
 else
 if k0=(12:Int) then
 (A8 ({ data := #[(48:UInt8),(49:UInt8),(50:UInt8),(51:UInt8),(49:UInt8),(50:UInt8),(51:UInt8),(48:UInt8),(50:UInt8),(51:UInt8),(48:UInt8),(49:UInt8),(51:UInt8),(48:UInt8),(49:UInt8),(50:UInt8)] })).bind fun r28=>
 some ({ Size:=(4:Int),Ops:=[r28] })
 else
 if k0=(13:Int) then
 some ({ Size:=(3:Int),Ops:=[{ Arity:=(1:Int),Table:=[(0:Int),(0:Int),(1:Int)] },{ Arity:=(0:Int),Table:=[(2:Int)] }] })
 else
 if k0=(14:Int) then
 (A8 ({ data := #[(48:UInt8)] })).bind fun r31=>
 some ({ Size:=(1:Int),Ops:=[r31] })
 else
 if k0=(15:Int) then
 (Gj ((3:Int))).bind fun r33=>
 some ({ Size:=(3:Int),Ops:=[r33] })
 else
 some ({ Size:=(2:Int),Ops:=Aw SOp })
theorem Ajl {k0:Int} {v:SAlgebra} (h:I0 k0=some v):Ret Tryz.prog Ra [Af k0] ((Ai true) v):=by
 refine A5 Aiu (Nat.le_of_ble_eq_true rfl) ?_
 unfold I0 at h
 refine Br.oe h (fun p1 h=> ?_) (fun p1 h=> ?_)
 ·refine CallQ.o (Bh true) (by rfl) h (fun r h=>Bk h) (fun r2 h=> ?_)
  refine BslQ.o (Bh true) [r2] (by exact fun _=>⟨rfl,rfl⟩) (by first | rfl | (simp only [Aa,V.fz,fzL,V.up,upL,Ab,Ac,Ad,slr,List.cons_append,List.nil_append];done) | simp [Aa,V.fz,fzL,V.up,upL,Ab,Ac,Ad,slr])<|SetKids.lit rfl ?_
  cases h;exact (by rfl)
 refine Br.oe h (fun p3 h=> ?_) (fun p3 h=> ?_)
 ·refine CallQ.o (Bh true) (by rfl) h (fun r h=>Bk h) (fun r4 h=> ?_)
  refine CallQ.o (Bh true) (by rfl) h (fun r h=>Bk h) (fun r5 h=> ?_)
  refine BslQ.o (Bh true) ([r4,r5]) (by exact fun _=>⟨rfl,rfl⟩) (by first | rfl | (simp only [Aa,V.fz,fzL,V.up,upL,Ab,Ac,Ad,slr,List.cons_append,List.nil_append];done) | simp [Aa,V.fz,fzL,V.up,upL,Ab,Ac,Ad,slr])<|SetKids.lit rfl ?_
  cases h;exact (by rfl)
 refine Br.oe h (fun p6 h=> ?_) (fun p6 h=> ?_)
 ·refine CallQ.o (Bh true) (by rfl) h (fun r h=>Bk h) (fun r7 h=> ?_)
  refine CallQ.o (Bh true) (by rfl) h (fun r h=>Bk h) (fun r8 h=> ?_)
  refine BslQ.o Af ([(1:Int),(0:Int)]) (by exact fun _=>⟨rfl,rfl⟩) (by first | rfl | (simp only [Aa,V.fz,fzL,V.up,upL,Ab,Ac,Ad,slr,List.cons_append,List.nil_append];done) | simp [Aa,V.fz,fzL,V.up,upL,Ab,Ac,Ad,slr])<|BslQ.o (Bh true) ([r7,r8,{ Arity:=(1:Int),Table:=[(1:Int),(0:Int)] }]) (by exact fun _=>⟨rfl,rfl⟩) (by first | rfl | (simp only [Aa,V.fz,fzL,V.up,upL,Ab,Ac,Ad,slr,List.cons_append,List.nil_append];done) | simp [Aa,V.fz,fzL,V.up,upL,Ab,Ac,Ad,slr])<|SetKids.lit rfl ?_
  cases h;exact (by rfl)
 refine Br.oe h (fun p9 h=> ?_) (fun p9 h=> ?_)
 ·refine CallQ.o (Bh true) (by rfl) h (fun r h=>Wq h) (fun r10 h=> ?_)
  refine BslQ.o (Bh true) [r10] (by exact fun _=>⟨rfl,rfl⟩) (by first | rfl | (simp only [Aa,V.fz,fzL,V.up,upL,Ab,Ac,Ad,slr,List.cons_append,List.nil_append];done) | simp [Aa,V.fz,fzL,V.up,upL,Ab,Ac,Ad,slr])<|SetKids.lit rfl ?_
  cases h;exact (by rfl)
 refine Br.oe h (fun p11 h=> ?_) (fun p11 h=> ?_)
 ·refine CallQ.o (Bh true) (by rfl) h (fun r h=>Bk h) (fun r12 h=> ?_)
  refine BslQ.o (Bh true) [r12] (by exact fun _=>⟨rfl,rfl⟩) (by first | rfl | (simp only [Aa,V.fz,fzL,V.up,upL,Ab,Ac,Ad,slr,List.cons_append,List.nil_append];done) | simp [Aa,V.fz,fzL,V.up,upL,Ab,Ac,Ad,slr])<|SetKids.lit rfl ?_
  cases h;exact (by rfl)
 refine Br.oe h (fun p13 h=> ?_) (fun p13 h=> ?_)
 ·refine CallQ.o (Bh true) (by rfl) h (fun r h=>Bk h) (fun r14 h=> ?_)
  refine BslQ.o (Bh true) [r14] (by exact fun _=>⟨rfl,rfl⟩) (by first | rfl | (simp only [Aa,V.fz,fzL,V.up,upL,Ab,Ac,Ad,slr,List.cons_append,List.nil_append];done) | simp [Aa,V.fz,fzL,V.up,upL,Ab,Ac,Ad,slr])<|SetKids.lit rfl ?_
  cases h;exact (by rfl)
 refine Br.oe h (fun p15 h=> ?_) (fun p15 h=> ?_)
 ·refine CallQ.o (Bh true) (by rfl) h (fun r h=>Bk h) (fun r16 h=> ?_)
  refine BslQ.o (Bh true) [r16] (by exact fun _=>⟨rfl,rfl⟩) (by first | rfl | (simp only [Aa,V.fz,fzL,V.up,upL,Ab,Ac,Ad,slr,List.cons_append,List.nil_append];done) | simp [Aa,V.fz,fzL,V.up,upL,Ab,Ac,Ad,slr])<|SetKids.lit rfl ?_
  cases h;exact (by rfl)
 refine Br.oe h (fun p17 h=> ?_) (fun p17 h=> ?_)
 ·refine CallQ.o (Bh true) (by rfl) h (fun r h=>Bk h) (fun r18 h=> ?_)
  refine CallQ.o (Bh true) (by rfl) h (fun r h=>Bk h) (fun r19 h=> ?_)
  refine BslQ.o (Bh true) ([r18,r19]) (by exact fun _=>⟨rfl,rfl⟩) (by first | rfl | (simp only [Aa,V.fz,fzL,V.up,upL,Ab,Ac,Ad,slr,List.cons_append,List.nil_append];done) | simp [Aa,V.fz,fzL,V.up,upL,Ab,Ac,Ad,slr])<|SetKids.lit rfl ?_
  cases h;exact (by rfl)
 refine Br.oe h (fun p20 h=> ?_) (fun p20 h=> ?_)
 ·refine BslQ.o Af ([(1:Int),(2:Int),(3:Int),(0:Int)]) (by exact fun _=>⟨rfl,rfl⟩) (by first | rfl | (simp only [Aa,V.fz,fzL,V.up,upL,Ab,Ac,Ad,slr,List.cons_append,List.nil_append];done) | simp [Aa,V.fz,fzL,V.up,upL,Ab,Ac,Ad,slr])<|BslQ.o (Bh true) ([{ Arity:=(1:Int),Table:=[(1:Int),(2:Int),(3:Int),(0:Int)] }]) (by exact fun _=>⟨rfl,rfl⟩) (by first | rfl | (simp only [Aa,V.fz,fzL,V.up,upL,Ab,Ac,Ad,slr,List.cons_append,List.nil_append];done) | simp [Aa,V.fz,fzL,V.up,upL,Ab,Ac,Ad,slr])<|SetKids.lit rfl ?_
  cases h;exact (by rfl)
 refine Br.oe h (fun p21 h=> ?_) (fun p21 h=> ?_)
 ·refine BslQ.o Af ([(0:Int),(0:Int),(0:Int),(1:Int),(0:Int),(1:Int),(1:Int),(1:Int)]) (by exact fun _=>⟨rfl,rfl⟩) (by first | rfl | (simp only [Aa,V.fz,fzL,V.up,upL,Ab,Ac,Ad,slr,List.cons_append,List.nil_append];done) | simp [Aa,V.fz,fzL,V.up,upL,Ab,Ac,Ad,slr])<|BslQ.o (Bh true) ([{ Arity:=(3:Int),Table:=[(0:Int),(0:Int),(0:Int),(1:Int),(0:Int),(1:Int),(1:Int),(1:Int)] }]) (by exact fun _=>⟨rfl,rfl⟩) (by first | rfl | (simp only [Aa,V.fz,fzL,V.up,upL,Ab,Ac,Ad,slr,List.cons_append,List.nil_append];done) | simp [Aa,V.fz,fzL,V.up,upL,Ab,Ac,Ad,slr])<|SetKids.lit rfl ?_
  cases h;exact (by rfl)
 refine Br.oe h (fun p22 h=> ?_) (fun p22 h=> ?_)
 ·refine CallQ.o (Bh true) (by rfl) h (fun r h=>Bk h) (fun r23 h=> ?_)
  refine BslQ.o (Bh true) [r23] (by exact fun _=>⟨rfl,rfl⟩) (by first | rfl | (simp only [Aa,V.fz,fzL,V.up,upL,Ab,Ac,Ad,slr,List.cons_append,List.nil_append];done) | simp [Aa,V.fz,fzL,V.up,upL,Ab,Ac,Ad,slr])<|SetKids.lit rfl ?_
  cases h;exact (by rfl)
 refine Br.oe h (fun p24 h=> ?_) (fun p24 h=> ?_)
 ·refine CallQ.o (Bh true) (by rfl) h (fun r h=>Bk h) (fun r25 h=> ?_)
  refine CallQ.o (Bh true) (by rfl) h (fun r h=>Bk h) (fun r26 h=> ?_)
  refine BslQ.o (Bh true) ([r25,r26]) (by exact fun _=>⟨rfl,rfl⟩) (by first | rfl | (simp only [Aa,V.fz,fzL,V.up,upL,Ab,Ac,Ad,slr,List.cons_append,List.nil_append];done) | simp [Aa,V.fz,fzL,V.up,upL,Ab,Ac,Ad,slr])<|SetKids.lit rfl ?_
  cases h;exact (by rfl)
 refine Br.oe h (fun p27 h=> ?_) (fun p27 h=> ?_)
 ·refine CallQ.o (Bh true) (by rfl) h (fun r h=>Bk h) (fun r28 h=> ?_)
  refine BslQ.o (Bh true) [r28] (by exact fun _=>⟨rfl,rfl⟩) (by first | rfl | (simp only [Aa,V.fz,fzL,V.up,upL,Ab,Ac,Ad,slr,List.cons_append,List.nil_append];done) | simp [Aa,V.fz,fzL,V.up,upL,Ab,Ac,Ad,slr])<|SetKids.lit rfl ?_
  cases h;exact (by rfl)
 refine Br.oe h (fun p29 h=> ?_) (fun p29 h=> ?_)
 ·refine BslQ.o Af ([(0:Int),(0:Int),(1:Int)]) (by exact fun _=>⟨rfl,rfl⟩) (by first | rfl | (simp only [Aa,V.fz,fzL,V.up,upL,Ab,Ac,Ad,slr,List.cons_append,List.nil_append];done) | simp [Aa,V.fz,fzL,V.up,upL,Ab,Ac,Ad,slr])<|BslQ.o Af ([(2:Int)]) (by exact fun _=>⟨rfl,rfl⟩) (by first | rfl | (simp only [Aa,V.fz,fzL,V.up,upL,Ab,Ac,Ad,slr,List.cons_append,List.nil_append];done) | simp [Aa,V.fz,fzL,V.up,upL,Ab,Ac,Ad,slr])<|BslQ.o (Bh true) ([{ Arity:=(1:Int),Table:=[(0:Int),(0:Int),(1:Int)] },{ Arity:=(0:Int),Table:=[(2:Int)] }]) (by exact fun _=>⟨rfl,rfl⟩) (by first | rfl | (simp only [Aa,V.fz,fzL,V.up,upL,Ab,Ac,Ad,slr,List.cons_append,List.nil_append];done) | simp [Aa,V.fz,fzL,V.up,upL,Ab,Ac,Ad,slr])<|SetKids.lit rfl ?_
  cases h;exact (by rfl)
 refine Br.oe h (fun p30 h=> ?_) (fun p30 h=> ?_)
 ·refine CallQ.o (Bh true) (by rfl) h (fun r h=>Bk h) (fun r31 h=> ?_)
  refine BslQ.o (Bh true) [r31] (by exact fun _=>⟨rfl,rfl⟩) (by first | rfl | (simp only [Aa,V.fz,fzL,V.up,upL,Ab,Ac,Ad,slr,List.cons_append,List.nil_append];done) | simp [Aa,V.fz,fzL,V.up,upL,Ab,Ac,Ad,slr])<|SetKids.lit rfl ?_
  cases h;exact (by rfl)
 refine Br.oe h (fun p32 h=> ?_) (fun p32 h=> ?_)
 ·refine CallQ.o (Bh true) (by rfl) h (fun r h=>Wq h) (fun r33 h=> ?_)
  refine BslQ.o (Bh true) [r33] (by exact fun _=>⟨rfl,rfl⟩) (by first | rfl | (simp only [Aa,V.fz,fzL,V.up,upL,Ab,Ac,Ad,slr,List.cons_append,List.nil_append];done) | simp [Aa,V.fz,fzL,V.up,upL,Ab,Ac,Ad,slr])<|SetKids.lit rfl ?_
  cases h;exact (by rfl)
 refine SetKids.lit rfl ?_
 cases h;exact (by rfl)
noncomputable def G9 (q0:List Int):(Int×(List Int))→Option ((Int×(List Int)) ⊕ (List Int)):=fun (x12,x5)=>
 if x12<(↑q0.length:Int) then
 ask ((0:Int)≤x12∧x12<(↑q0.length:Int)) <|
 (Ht (x5) (x12) (nth q0 x12.toNat)).bind fun (_r4,u5)=>
 ask (InI (x12+(1:Int))) <|
 some (.inl (x12+(1:Int),u5))
 else
 some (.inr x5)
def Ql (q0:List Int):(Int×(List Int))→St:=fun s=>[(12,A.val (Af s.1)),(11,A.val (Af ((↑q0.length:Int)))),(10,A.val ((slr false 1 Af) (q0))),(5,A.val ((slr true 1 Af) s.2))]
def Xw (_q0:List Int):(List Int)→Tgt
 | s=>((Ex.exit 0),[5],[(5,A.val ((slr true 1 Af) s))])
theorem Aj7 {q0:List Int} (s:(Int×(List Int))) (o:(Int×(List Int)) ⊕ (List Int)) (h:G9 q0 s=some o):vc Tryz.prog X3 (Dl [12,11,10,5] (Ql q0) (Xw q0) o) (Ql q0 s):=by
 obtain ⟨x12,x5⟩:=s
 unfold G9 at h
 try dsimp only at h
 refine Br.od h (fun p2 h=> ?_) (fun p2 h=> ?_)
 ·refine Len.map<|Ask.o h fun p3 h=>Elem.o (by first | omega | (simp [Ap] at * <;> omega))<|CallQ.io V.bool (slr true 1 Af) (by rfl) rfl (fun _=>rfl) (fun _=>⟨rfl,rfl⟩) rfl h (fun r h=>V5 h) (fun r4 u5 h=> ?_)
  refine Ask.o h fun p6 h=> ?_
  cases h;exact ⟨rfl,rfl⟩
 cases h;exact ⟨rfl,rfl⟩
noncomputable def N8 (p0:(List Int)) (q0:(List Int)):Option (List Int):=
 (Jf (p0)).bind fun r1=>
 (Al (G9 q0) ((0:Int),r1)).bind fun q7_5=>
 some q7_5
theorem As6 {p0:(List Int)} {q0:(List Int)} {v:(List Int)} (h:N8 p0 q0=some v):Ret Tryz.prog Yj [(slr false 1 Af) p0,(slr false 1 Af) q0] ((slr true 1 Af) v):=by
 refine A5 Aqn (Nat.le_of_ble_eq_true rfl) ?_
 unfold N8 at h
 refine CallQ.o (slr true 1 Af) (by rfl) h (fun r h=>Adj h) (fun r1 h=> ?_)
 refine Len.map<|LoopQ.o [12,11,10,5] (Ql q0) (Xw q0) h (fun s o h=>Aj7 s o h) (by rfl) (fun _=>rfl) ?_
 rintro q7_5 h
 try dsimp only at h
 cases h;exact (by rfl)
noncomputable def Bt (p0:(List Int)) (q0:(List Int)):Option Int:=
 (Fc (q0)).bind fun r1=>
 (Fc (p0)).bind fun r2=>
 ask (InI (r1-r2)) <|
 if r1-r2≠(0:Int) then
 some (r1-r2)
 else
 (Fp (p0) (q0)).bind fun r5=>
 some r5
theorem R9 {p0:(List Int)} {q0:(List Int)} {v:Int} (h:Bt p0 q0=some v):Ret Tryz.prog Ec [(slr false 1 Af) p0,(slr false 1 Af) q0] (Af v):=by
 refine A5 R3 (Nat.le_of_ble_eq_true rfl) ?_
 unfold Bt at h
 refine CallQ.o Af (by rfl) h (fun r h=>Sr h) (fun r1 h=> ?_)
 refine CallQ.o Af (by rfl) h (fun r h=>Sr h) (fun r2 h=> ?_)
 refine Ask.o h fun p3 h=>Br.on h (fun p4 h=> ?_) (fun p4 h=> ?_)
 ·cases h;exact (by rfl)
 refine CallQ.o Af (by rfl) h (fun r h=>Zv h) (fun r5 h=> ?_)
 cases h;exact (by rfl)
noncomputable def F8 (n0:Int) (op0:SOp):Int→Option (Int ⊕ (Unit ⊕ Unit)):=fun x5=>
 if x5<(↑op0.Table.length:Int) then
 ask ((0:Int)≤x5∧x5<(↑op0.Table.length:Int)) <|
 ask (InI (n0-(1:Int))) <|
 (In (nth op0.Table x5.toNat) ((0:Int)) (n0-(1:Int))).bind fun r9=>
 if (r9)=true then
 ask (InI (x5+(1:Int))) <|
 some (.inl (x5+(1:Int)))
 else
 some (.inr (.inl ()))
 else
 some (.inr (.inr ()))
def Qt (n0:Int) (op0:SOp):Int→St:=fun s=>[(5,A.val (Af s)),(3,A.val ((rP true (Bh false)) (op0))),(0,A.val (Af (n0)))]
def Ye (_n0:Int) (_op0:SOp):(Unit ⊕ Unit)→Tgt
 | (.inl _s)=>(Ex.ret,[4],[(4,A.val (V.bool (false)))])
 | (.inr _s)=>((Ex.exit 0),[],[])
theorem Ake {n0:Int} {op0:SOp} (x5:Int) (o:Int ⊕ (Unit ⊕ Unit)) (h:F8 n0 op0 x5=some o):vc Tryz.prog Yd (Dl [5,3,0] (Qt n0 op0) (Ye n0 op0) o) (Qt n0 op0 x5):=by
 unfold F8 at h
 try dsimp only at h
 refine Cells.lit rfl rfl<|Len.map<|Br.od h (fun p6 h=> ?_) (fun p6 h=> ?_)
 ·refine Cells.lit rfl rfl<|Len.map<|Ask.o h fun p7 h=>Elem.o (by first | omega | (simp [Ap] at * <;> omega))<|Ask.o h fun p8 h=>CallQ.o V.bool (by rfl) h (fun r h=>Yh h) (fun r9 h=> ?_)
  refine Br.flip<|Br.ob h (fun p10 h=> ?_) (fun p10 h=> ?_)
  ·refine Ask.o h fun p11 h=> ?_
   cases h;exact ⟨rfl,rfl⟩
  cases h;exact ⟨rfl,rfl⟩
 cases h;exact ⟨rfl,rfl⟩
noncomputable def N9 (n0:Int) (op0:SOp):Option Bool:=
 (((In (op0.Arity) ((0:Int)) ((3:Int))).bind fun r1=>
 if (r1)=true then
 (Hr (n0) (op0.Arity)).bind fun r3=>
 if (↑op0.Table.length:Int)≠r3 then
 some (.inl ())
 else
 some (.inr ())
 else
 some (.inl ()):Option (Unit ⊕ Unit))).bind fun t=>match t with
 | (.inl _)=>(some false)
 | (.inr _)=>((Al (F8 n0 op0) (0:Int)).bind fun t=>match t with
 | (.inl _)=>(some false)
 | (.inr _)=>(some true))
theorem Asl {n0:Int} {op0:SOp} {v:Bool} (h:N9 n0 op0=some v):Ret Tryz.prog Xz [Af n0,(Bh false) op0] (V.bool v):=by
 refine A5 Aq5 (Nat.le_of_ble_eq_true rfl) ?_
 unfold N9 at h
 refine CutQ.o (fun t:(Unit ⊕ Unit)=>match t with | (.inl s)=>(Ex.ret,[4],[(4,A.val (V.bool (false)))]) | (.inr s)=>(Ex.normal,[3,0],[(3,A.val ((rP true (Bh false)) (op0))),(0,A.val (Af (n0)))])) h ?_ ?_
 ·intro t h
  refine Cells.lit rfl rfl<|CallP.o V.bool (by rfl) h (fun r h=>Yh h) (fun r1 h=> ?_)
  refine Br.flip<|Br.ob h (fun p2 h=> ?_) (fun p2 h=> ?_)
  ·refine Br.no<|Cells.lit rfl rfl<|Br.no<|Len.map<|Br.no<|Br.no<|Br.no<|Cells.lit rfl rfl<|Br.no<|CallP.o Af (by rfl) h (fun r h=>Aci h) (fun r3 h=> ?_)
   refine Br.no<|Br.no<|Br.on h (fun p4 h=> ?_) (fun p4 h=> ?_)
   ·cases h;exact ⟨rfl,rfl⟩
   cases h;exact ⟨rfl,rfl⟩
  refine Br.yes<|Br.yes<|Br.yes<|Br.yes<|Br.yes<|Br.yes<|Br.yes<|Br.yes<|Br.yes ?_
  cases h;exact ⟨rfl,rfl⟩
 rintro (⟨⟩ | ⟨⟩) h
 ·try dsimp only at h
  cases h;exact (by rfl)
 try dsimp only at h
 refine LoopQ.o [5,3,0] (Qt n0 op0) (Ye n0 op0) h (fun s o h=>Ake s o h) (by rfl) (by rintro (_ | _)<;>rfl) ?_
 rintro (⟨⟩ | ⟨⟩) h
 ·try dsimp only at h
  cases h;exact (by rfl)
 try dsimp only at h
 cases h;exact (by rfl)
end Go.Proofs.YtjcekpmojnnmbaaGreat.Ax
