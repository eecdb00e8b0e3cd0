/-
 What the functions compute, as functions on plain data, and that the program does compute it; written by program.
-/
import Derived.Test.YtmkgjnphianalaaCode
import Derived.Test.YtmkgjnphianalaaG1
import Derived.Test.YtmkgjnphianalaaG2
namespace Go.Proofs.Ytmkgjnphianalaa.Ax
open Go
set_option maxRecDepth 100000
set_option maxHeartbeats 4000000
noncomputable def Fb (a0:SAlgebra) (b0:SAlgebra) (f0:List Int) (x15:Int):Int→Option (Int ⊕ (Int ⊕ Unit)):=fun x23=>
 if x23<(↑(nth a0.Ops x15.toNat).Table.length:Int) then
 ask ((0:Int)≤x23∧x23<(↑(nth a0.Ops x15.toNat).Table.length:Int)) <|
 ask ((0:Int)≤nth (nth a0.Ops x15.toNat).Table x23.toNat∧nth (nth a0.Ops x15.toNat).Table x23.toNat<(↑f0.length:Int)) <|
 ask ((0:Int)≤x15∧x15<(↑b0.Ops.length:Int)) <|
 (Dk (x23) ((nth a0.Ops x15.toNat).Arity) (a0) (b0) (f0)).bind fun r7=>
 ask ((0:Int)≤r7∧r7<(↑(nth b0.Ops x15.toNat).Table.length:Int)) <|
 if nth f0 (nth (nth a0.Ops x15.toNat).Table x23.toNat).toNat≠nth (nth b0.Ops x15.toNat).Table r7.toNat then
 some (.inr (.inl x23))
 else
 ask (InI (x23+(1:Int))) <|
 some (.inl (x23+(1:Int)))
 else
 some (.inr (.inr ()))
def Nf (a0:SAlgebra) (b0:SAlgebra) (f0:List Int) (x15:Int):Int→St:=fun s=>[(23,A.val (Ag s)),(22,A.val (Ag ((↑(nth a0.Ops x15.toNat).Table.length:Int)))),(21,A.val ((slr false 1 Ag) ((nth a0.Ops x15.toNat).Table))),(8,A.val (Ag (x15))),(9,A.val ((rP true (A9 false)) (nth a0.Ops x15.toNat))),(15,A.val (Ag (x15))),(14,A.val (Ag ((↑a0.Ops.length:Int)))),(13,A.val ((slr false 2 (A9 false)) (a0.Ops))),(4,A.val ((rP true (Ae false)) (b0))),(3,A.val ((rP true (Ae false)) (a0))),(2,A.val ((slr false 1 Ag) (f0)))]
def Tf (a0:SAlgebra) (b0:SAlgebra) (f0:List Int) (x15:Int):(Int ⊕ Unit)→Tgt
 | (.inl s)=>(Ex.ret,[7,6],[(7,A.val (Ag s)),(6,A.val (Ag (x15)))])
 | (.inr _s)=>((Ex.exit 2),[15,14,13,4,3,2],[(15,A.val (Ag (x15))),(14,A.val (Ag ((↑a0.Ops.length:Int)))),(13,A.val ((slr false 2 (A9 false)) (a0.Ops))),(4,A.val ((rP true (Ae false)) (b0))),(3,A.val ((rP true (Ae false)) (a0))),(2,A.val ((slr false 1 Ag) (f0)))])
theorem Ad1 {a0:SAlgebra} {b0:SAlgebra} {f0:List Int} {x15:Int} (x23:Int) (o:Int ⊕ (Int ⊕ Unit)) (h:Fb a0 b0 f0 x15 x23=some o):vc Try.prog S5 (C1 [23,22,21,8,9,15,14,13,4,3,2] (Nf a0 b0 f0 x15) (Tf a0 b0 f0 x15) o) (Nf a0 b0 f0 x15 x23):=by
 unfold Fb at h
 try dsimp only at h
 refine Br.od h (fun p3 h=> ?_) (fun p3 h=> ?_)
 ·refine Len.map ?_
  refine Ask.o h fun p4 h=> ?_
  refine Elem.o (by first | omega | (simp [Aw] at * <;> omega)) ?_
  refine Len.map ?_
  refine Ask.o h fun p5 h=> ?_
  refine Elem.o (by first | omega | (simp [Aw] at * <;> omega)) ?_
  refine Cells.lit rfl rfl ?_
  refine Len.map ?_
  refine Ask.o h fun p6 h=> ?_
  refine Elem.o (by first | omega | (simp [Aw] at * <;> omega)) ?_
  refine Cells.lit rfl rfl ?_
  refine Cells.lit rfl rfl ?_
  refine Cells.lit rfl rfl ?_
  refine CallP.o Ag (by rfl) h (fun r h=>Tj h) (fun r7 h=> ?_)
  refine Len.map ?_
  refine Ask.o h fun p8 h=> ?_
  refine Elem.o (by first | omega | (simp [Aw] at * <;> omega)) ?_
  refine Br.on h (fun p9 h=> ?_) (fun p9 h=> ?_)
  ·cases h;exact ⟨rfl,rfl⟩
  refine Ask.o h fun p10 h=> ?_
  cases h;exact ⟨rfl,rfl⟩
 cases h;exact ⟨rfl,rfl⟩
noncomputable def Fd (a0:SAlgebra) (b0:SAlgebra) (f0:List Int):Int→Option (Int ⊕ ((Int×Int) ⊕ Unit)):=fun x15=>
 if x15<(↑a0.Ops.length:Int) then
 ask ((0:Int)≤x15∧x15<(↑a0.Ops.length:Int)) <|
 (Al (Fb a0 b0 f0 x15) (0:Int)).bind fun t=>match t with
 | (.inl q11_7)=>(some (.inr (.inl (q11_7,x15))))
 | (.inr _)=>(ask (InI (x15+(1:Int))) <|
 some (.inl (x15+(1:Int))))
 else
 some (.inr (.inr ()))
def M4 (a0:SAlgebra) (b0:SAlgebra) (f0:List Int):Int→St:=fun s=>[(15,A.val (Ag s)),(14,A.val (Ag ((↑a0.Ops.length:Int)))),(13,A.val ((slr false 2 (A9 false)) (a0.Ops))),(4,A.val ((rP true (Ae false)) (b0))),(3,A.val ((rP true (Ae false)) (a0))),(2,A.val ((slr false 1 Ag) (f0)))]
def To (_a0:SAlgebra) (_b0:SAlgebra) (_f0:List Int):((Int×Int) ⊕ Unit)→Tgt
 | (.inl s)=>(Ex.ret,[7,6],[(7,A.val (Ag s.1)),(6,A.val (Ag s.2))])
 | (.inr _s)=>((Ex.exit 0),[],[])
theorem Ada {a0:SAlgebra} {b0:SAlgebra} {f0:List Int} (x15:Int) (o:Int ⊕ ((Int×Int) ⊕ Unit)) (h:Fd a0 b0 f0 x15=some o):vc Try.prog Ty (C1 [15,14,13,4,3,2] (M4 a0 b0 f0) (To a0 b0 f0) o) (M4 a0 b0 f0 x15):=by
 unfold Fd at h
 try dsimp only at h
 refine Br.od h (fun p1 h=> ?_) (fun p1 h=> ?_)
 ·refine Len.map ?_
  refine Ask.o h fun p2 h=> ?_
  refine Elem.o (by first | omega | (simp [Aw] at * <;> omega)) ?_
  refine SetKids.lit rfl ?_
  refine Cells.lit rfl rfl ?_
  refine Len.map ?_
  refine LoopQ.o [23,22,21,8,9,15,14,13,4,3,2] (Nf a0 b0 f0 x15) (Tf a0 b0 f0 x15) h (fun s o h=>Ad1 s o h) (by rfl) (by rintro (_ | _)<;>rfl) ?_
  rintro (q11_7 | ⟨⟩) h
  ·try dsimp only at h
   cases h;exact ⟨rfl,rfl⟩
  try dsimp only at h
  refine Ask.o h fun p12 h=> ?_
  cases h;exact ⟨rfl,rfl⟩
 cases h;exact ⟨rfl,rfl⟩
noncomputable def Hr (a0:SAlgebra) (b0:SAlgebra) (f0:(List Int)):Option (Int×Int):=
 (Al (Fd a0 b0 f0) (0:Int)).bind fun t=>match t with
 | (.inl (q13_7,q13_6))=>(some (q13_6,q13_7))
 | (.inr _)=>(some ((-1:Int),(0:Int)))
theorem Akm {a0:SAlgebra} {b0:SAlgebra} {f0:(List Int)} {v:(Int×Int)} (h:Hr a0 b0 f0=some v):Ret Try.prog Rj [(Ae false) a0,(Ae false) b0,(slr false 1 Ag) f0] ((fun r=>V.tup [Ag r.1,Ag r.2]) v):=by
 refine Bb Aju (Nat.le_of_ble_eq_true rfl) ?_
 unfold Hr at h
 refine Cells.lit rfl rfl ?_
 refine Len.map ?_
 refine LoopQ.o [15,14,13,4,3,2] (M4 a0 b0 f0) (To a0 b0 f0) h (fun s o h=>Ada s o h) (by rfl) (by rintro (_ | _)<;>rfl) ?_
 rintro (⟨q13_7,q13_6⟩ | ⟨⟩) h
 ·try dsimp only at h
  cases h;exact (by rfl)
 try dsimp only at h
 cases h;exact (by rfl)
noncomputable def Jn (k0:Int):Option SAlgebra:=
 if k0=(0:Int) then
 (Bh ({ data := #[(48:UInt8),(48:UInt8),(48:UInt8),(49:UInt8)] })).bind fun r2=>
 some ({ Size:=(2:Int),Ops:=[r2] })
 else
 if k0=(1:Int) then
 (Bh ({ data := #[(48:UInt8),(48:UInt8),(48:UInt8),(49:UInt8)] })).bind fun r4=>
 (Bh ({ data := #[(48:UInt8),(49:UInt8),(49:UInt8),(49:UInt8)] })).bind fun r5=>
 some ({ Size:=(2:Int),Ops:=[r4,r5] })
 else
 if k0=(2:Int) then
 (Bh ({ data := #[(48:UInt8),(48:UInt8),(48:UInt8),(49:UInt8)] })).bind fun r7=>
 (Bh ({ data := #[(48:UInt8),(49:UInt8),(49:UInt8),(49:UInt8)] })).bind fun r8=>
 some ({ Size:=(2:Int),Ops:=[r7,r8,{ Arity:=(1:Int),Table:=[(1:Int),(0:Int)] }] })
 else
 if k0=(3:Int) then
 (Gl ((2:Int))).bind fun r10=>
 some ({ Size:=(2:Int),Ops:=[r10] })
 else
 if k0=(4:Int) then
 (Bh ({ data := #[(48:UInt8),(49:UInt8),(50:UInt8),(49:UInt8),(50:UInt8),(48:UInt8),(50:UInt8),(48:UInt8),(49:UInt8)] })).bind fun r12=>
 some ({ Size:=(3:Int),Ops:=[r12] })
 else
 if k0=(5:Int) then
 (Bh ({ data := #[(48:UInt8),(49:UInt8),(48:UInt8),(49:UInt8),(49:UInt8),(50:UInt8),(48:UInt8),(50:UInt8),(50:UInt8)] })).bind fun r14=>
 some ({ Size:=(3:Int),Ops:=[r14] })
 else
 if k0=(6:Int) then
 (Bh ({ data := #[(48:UInt8),(49:UInt8),(50:UInt8),(51:UInt8),(49:UInt8),(48:UInt8),(51:UInt8),(50:UInt8),(50:UInt8),(51:UInt8),(48:UInt8),(49:UInt8),(51:UInt8),(50:UInt8),(49:UInt8),(48:UInt8)] })).bind fun r16=>
 some ({ Size:=(4:Int),Ops:=[r16] })
 else
 if k0=(7:Int) then
 (Bh ({ data := #[(48:UInt8),(48:UInt8),(48:UInt8),(48:UInt8),(49:UInt8),(49:UInt8),(48:UInt8),(49:UInt8),(50:UInt8)] })).bind fun r18=>
 (Bh ({ data := #[(48:UInt8),(49:UInt8),(50:UInt8),(49:UInt8),(49:UInt8),(50:UInt8),(50:UInt8),(50:UInt8),(50:UInt8)] })).bind fun r19=>
 some ({ Size:=(3:Int),Ops:=[r18,r19] })
 else
 if k0=(8:Int) then
 some ({ Size:=(4:Int),Ops:=[{ Arity:=(1:Int),Table:=[(1:Int),(2:Int),(3:Int),(0:Int)] }] })
 else
 if k0=(9:Int) then
 some ({ Size:=(2:Int),Ops:=[{ Arity:=(3:Int),Table:=[(0:Int),(0:Int),(0:Int),(1:Int),(0:Int),(1:Int),(1:Int),(1:Int)] }] })
 else
 if k0=(10:Int) then
 (Bh ({ data := #[(48:UInt8),(48:UInt8),(48:UInt8),(49:UInt8),(49:UInt8),(49:UInt8),(50:UInt8),(50:UInt8),(50:UInt8)] })).bind fun r23=>
 some ({ Size:=(3:Int),Ops:=[r23] })
 else
 if k0=(11:Int) then
 (Bh ({ data := #[(48:UInt8),(48:UInt8),(48:UInt8),(48:UInt8),(48:UInt8),(48:UInt8),(49:UInt8),(48:UInt8),(48:UInt8),(49:UInt8),(48:UInt8),(48:UInt8),(50:UInt8),(48:UInt8),(50:UInt8),(48:UInt8),(48:UInt8),(48:UInt8),(51:UInt8),(51:UInt8),(48:UInt8),(49:UInt8),(50:UInt8),(51:UInt8),(52:UInt8)] })).bind fun r25=>
 (Bh ({ data := #[(48:UInt8),(49:UInt8),(50:UInt8),(51:UInt8),(52:UInt8),(49:UInt8),(49:UInt8),(52:UInt8),(52:UInt8),(52:UInt8),(50:UInt8),(52:UInt8),(50:UInt8),(52:UInt8),(52:UInt8),(51:UInt8),(52:UInt8),(52:UInt8),(51:UInt8),(52:UInt8),(52:UInt8),(52:UInt8),(52:UInt8),(52:UInt8),(52:UInt8)] })).bind fun r26=>
 some ({ Size:=(5:Int),Ops:=[r25,r26] })
 else
 if k0=(12:Int) then
 (Bh ({ data := #[(48:UInt8),(49:UInt8),(50:UInt8),(51:UInt8),(49:UInt8),(50:UInt8),(51:UInt8),(48:UInt8),(50:UInt8),(51:UInt8),(48:UInt8),(49:UInt8),(51:UInt8),(48:UInt8),(49:UInt8),(50:UInt8)] })).bind fun r28=>
 some ({ Size:=(4:Int),Ops:=[r28] })
 else
 if k0=(13:Int) then
 some ({ Size:=(3:Int),Ops:=[{ Arity:=(1:Int),Table:=[(0:Int),(0:Int),(1:Int)] },{ Arity:=(0:Int),Table:=[(2:Int)] }] })
 else
 if k0=(14:Int) then
 (Bh ({ data := #[(48:UInt8)] })).bind fun r31=>
 some ({ Size:=(1:Int),Ops:=[r31] })
 else
 if k0=(15:Int) then
 (Gl ((3:Int))).bind fun r33=>
 some ({ Size:=(3:Int),Ops:=[r33] })
 else
 some ({ Size:=(2:Int),Ops:=Ao SOp })
theorem Aj9 {k0:Int} {v:SAlgebra} (h:Jn k0=some v):Ret Try.prog R2 [Ag k0] ((Ae true) v):=by
 refine Bb Aj1 (Nat.le_of_ble_eq_true rfl) ?_
 unfold Jn at h
 refine Br.oe h (fun p1 h=> ?_) (fun p1 h=> ?_)
 ·refine CallQ.o (A9 true) (by rfl) h (fun r h=>Bx h) (fun r2 h=> ?_)
  refine BslQ.o (A9 true) [r2] (by exact fun _=>⟨rfl,rfl⟩) (by first | rfl | (simp only [Aa,V.fz,fzL,V.up,upL,Ab,Ac,Ad,slr,List.cons_append,List.nil_append];done) | simp [Aa,V.fz,fzL,V.up,upL,Ab,Ac,Ad,slr]) ?_
  refine SetKids.lit rfl ?_
  cases h;exact (by rfl)
 refine Br.oe h (fun p3 h=> ?_) (fun p3 h=> ?_)
 ·refine CallQ.o (A9 true) (by rfl) h (fun r h=>Bx h) (fun r4 h=> ?_)
  refine CallQ.o (A9 true) (by rfl) h (fun r h=>Bx h) (fun r5 h=> ?_)
  refine BslQ.o (A9 true) ([r4,r5]) (by exact fun _=>⟨rfl,rfl⟩) (by first | rfl | (simp only [Aa,V.fz,fzL,V.up,upL,Ab,Ac,Ad,slr,List.cons_append,List.nil_append];done) | simp [Aa,V.fz,fzL,V.up,upL,Ab,Ac,Ad,slr]) ?_
  refine SetKids.lit rfl ?_
  cases h;exact (by rfl)
 refine Br.oe h (fun p6 h=> ?_) (fun p6 h=> ?_)
 ·refine CallQ.o (A9 true) (by rfl) h (fun r h=>Bx h) (fun r7 h=> ?_)
  refine CallQ.o (A9 true) (by rfl) h (fun r h=>Bx h) (fun r8 h=> ?_)
  refine BslQ.o Ag ([(1:Int),(0:Int)]) (by exact fun _=>⟨rfl,rfl⟩) (by first | rfl | (simp only [Aa,V.fz,fzL,V.up,upL,Ab,Ac,Ad,slr,List.cons_append,List.nil_append];done) | simp [Aa,V.fz,fzL,V.up,upL,Ab,Ac,Ad,slr]) ?_
  refine BslQ.o (A9 true) ([r7,r8,{ Arity:=(1:Int),Table:=[(1:Int),(0:Int)] }]) (by exact fun _=>⟨rfl,rfl⟩) (by first | rfl | (simp only [Aa,V.fz,fzL,V.up,upL,Ab,Ac,Ad,slr,List.cons_append,List.nil_append];done) | simp [Aa,V.fz,fzL,V.up,upL,Ab,Ac,Ad,slr]) ?_
  refine SetKids.lit rfl ?_
  cases h;exact (by rfl)
 refine Br.oe h (fun p9 h=> ?_) (fun p9 h=> ?_)
 ·refine CallQ.o (A9 true) (by rfl) h (fun r h=>Yg h) (fun r10 h=> ?_)
  refine BslQ.o (A9 true) [r10] (by exact fun _=>⟨rfl,rfl⟩) (by first | rfl | (simp only [Aa,V.fz,fzL,V.up,upL,Ab,Ac,Ad,slr,List.cons_append,List.nil_append];done) | simp [Aa,V.fz,fzL,V.up,upL,Ab,Ac,Ad,slr]) ?_
  refine SetKids.lit rfl ?_
  cases h;exact (by rfl)
 refine Br.oe h (fun p11 h=> ?_) (fun p11 h=> ?_)
 ·refine CallQ.o (A9 true) (by rfl) h (fun r h=>Bx h) (fun r12 h=> ?_)
  refine BslQ.o (A9 true) [r12] (by exact fun _=>⟨rfl,rfl⟩) (by first | rfl | (simp only [Aa,V.fz,fzL,V.up,upL,Ab,Ac,Ad,slr,List.cons_append,List.nil_append];done) | simp [Aa,V.fz,fzL,V.up,upL,Ab,Ac,Ad,slr]) ?_
  refine SetKids.lit rfl ?_
  cases h;exact (by rfl)
 refine Br.oe h (fun p13 h=> ?_) (fun p13 h=> ?_)
 ·refine CallQ.o (A9 true) (by rfl) h (fun r h=>Bx h) (fun r14 h=> ?_)
  refine BslQ.o (A9 true) [r14] (by exact fun _=>⟨rfl,rfl⟩) (by first | rfl | (simp only [Aa,V.fz,fzL,V.up,upL,Ab,Ac,Ad,slr,List.cons_append,List.nil_append];done) | simp [Aa,V.fz,fzL,V.up,upL,Ab,Ac,Ad,slr]) ?_
  refine SetKids.lit rfl ?_
  cases h;exact (by rfl)
 refine Br.oe h (fun p15 h=> ?_) (fun p15 h=> ?_)
 ·refine CallQ.o (A9 true) (by rfl) h (fun r h=>Bx h) (fun r16 h=> ?_)
  refine BslQ.o (A9 true) [r16] (by exact fun _=>⟨rfl,rfl⟩) (by first | rfl | (simp only [Aa,V.fz,fzL,V.up,upL,Ab,Ac,Ad,slr,List.cons_append,List.nil_append];done) | simp [Aa,V.fz,fzL,V.up,upL,Ab,Ac,Ad,slr]) ?_
  refine SetKids.lit rfl ?_
  cases h;exact (by rfl)
 refine Br.oe h (fun p17 h=> ?_) (fun p17 h=> ?_)
 ·refine CallQ.o (A9 true) (by rfl) h (fun r h=>Bx h) (fun r18 h=> ?_)
  refine CallQ.o (A9 true) (by rfl) h (fun r h=>Bx h) (fun r19 h=> ?_)
  refine BslQ.o (A9 true) ([r18,r19]) (by exact fun _=>⟨rfl,rfl⟩) (by first | rfl | (simp only [Aa,V.fz,fzL,V.up,upL,Ab,Ac,Ad,slr,List.cons_append,List.nil_append];done) | simp [Aa,V.fz,fzL,V.up,upL,Ab,Ac,Ad,slr]) ?_
  refine SetKids.lit rfl ?_
  cases h;exact (by rfl)
 refine Br.oe h (fun p20 h=> ?_) (fun p20 h=> ?_)
 ·refine BslQ.o Ag ([(1:Int),(2:Int),(3:Int),(0:Int)]) (by exact fun _=>⟨rfl,rfl⟩) (by first | rfl | (simp only [Aa,V.fz,fzL,V.up,upL,Ab,Ac,Ad,slr,List.cons_append,List.nil_append];done) | simp [Aa,V.fz,fzL,V.up,upL,Ab,Ac,Ad,slr]) ?_
  refine BslQ.o (A9 true) ([{ Arity:=(1:Int),Table:=[(1:Int),(2:Int),(3:Int),(0:Int)] }]) (by exact fun _=>⟨rfl,rfl⟩) (by first | rfl | (simp only [Aa,V.fz,fzL,V.up,upL,Ab,Ac,Ad,slr,List.cons_append,List.nil_append];done) | simp [Aa,V.fz,fzL,V.up,upL,Ab,Ac,Ad,slr]) ?_
  refine SetKids.lit rfl ?_
  cases h;exact (by rfl)
 refine Br.oe h (fun p21 h=> ?_) (fun p21 h=> ?_)
 ·refine BslQ.o Ag ([(0:Int),(0:Int),(0:Int),(1:Int),(0:Int),(1:Int),(1:Int),(1:Int)]) (by exact fun _=>⟨rfl,rfl⟩) (by first | rfl | (simp only [Aa,V.fz,fzL,V.up,upL,Ab,Ac,Ad,slr,List.cons_append,List.nil_append];done) | simp [Aa,V.fz,fzL,V.up,upL,Ab,Ac,Ad,slr]) ?_
  refine BslQ.o (A9 true) ([{ Arity:=(3:Int),Table:=[(0:Int),(0:Int),(0:Int),(1:Int),(0:Int),(1:Int),(1:Int),(1:Int)] }]) (by exact fun _=>⟨rfl,rfl⟩) (by first | rfl | (simp only [Aa,V.fz,fzL,V.up,upL,Ab,Ac,Ad,slr,List.cons_append,List.nil_append];done) | simp [Aa,V.fz,fzL,V.up,upL,Ab,Ac,Ad,slr]) ?_
  refine SetKids.lit rfl ?_
  cases h;exact (by rfl)
 refine Br.oe h (fun p22 h=> ?_) (fun p22 h=> ?_)
 ·refine CallQ.o (A9 true) (by rfl) h (fun r h=>Bx h) (fun r23 h=> ?_)
  refine BslQ.o (A9 true) [r23] (by exact fun _=>⟨rfl,rfl⟩) (by first | rfl | (simp only [Aa,V.fz,fzL,V.up,upL,Ab,Ac,Ad,slr,List.cons_append,List.nil_append];done) | simp [Aa,V.fz,fzL,V.up,upL,Ab,Ac,Ad,slr]) ?_
  refine SetKids.lit rfl ?_
  cases h;exact (by rfl)
 refine Br.oe h (fun p24 h=> ?_) (fun p24 h=> ?_)
 ·refine CallQ.o (A9 true) (by rfl) h (fun r h=>Bx h) (fun r25 h=> ?_)
  refine CallQ.o (A9 true) (by rfl) h (fun r h=>Bx h) (fun r26 h=> ?_)
  refine BslQ.o (A9 true) ([r25,r26]) (by exact fun _=>⟨rfl,rfl⟩) (by first | rfl | (simp only [Aa,V.fz,fzL,V.up,upL,Ab,Ac,Ad,slr,List.cons_append,List.nil_append];done) | simp [Aa,V.fz,fzL,V.up,upL,Ab,Ac,Ad,slr]) ?_
  refine SetKids.lit rfl ?_
  cases h;exact (by rfl)
 refine Br.oe h (fun p27 h=> ?_) (fun p27 h=> ?_)
 ·refine CallQ.o (A9 true) (by rfl) h (fun r h=>Bx h) (fun r28 h=> ?_)
  refine BslQ.o (A9 true) [r28] (by exact fun _=>⟨rfl,rfl⟩) (by first | rfl | (simp only [Aa,V.fz,fzL,V.up,upL,Ab,Ac,Ad,slr,List.cons_append,List.nil_append];done) | simp [Aa,V.fz,fzL,V.up,upL,Ab,Ac,Ad,slr]) ?_
  refine SetKids.lit rfl ?_
  cases h;exact (by rfl)
 refine Br.oe h (fun p29 h=> ?_) (fun p29 h=> ?_)
 ·refine BslQ.o Ag ([(0:Int),(0:Int),(1:Int)]) (by exact fun _=>⟨rfl,rfl⟩) (by first | rfl | (simp only [Aa,V.fz,fzL,V.up,upL,Ab,Ac,Ad,slr,List.cons_append,List.nil_append];done) | simp [Aa,V.fz,fzL,V.up,upL,Ab,Ac,Ad,slr]) ?_
  refine BslQ.o Ag ([(2:Int)]) (by exact fun _=>⟨rfl,rfl⟩) (by first | rfl | (simp only [Aa,V.fz,fzL,V.up,upL,Ab,Ac,Ad,slr,List.cons_append,List.nil_append];done) | simp [Aa,V.fz,fzL,V.up,upL,Ab,Ac,Ad,slr]) ?_
  refine BslQ.o (A9 true) ([{ Arity:=(1:Int),Table:=[(0:Int),(0:Int),(1:Int)] },{ Arity:=(0:Int),Table:=[(2:Int)] }]) (by exact fun _=>⟨rfl,rfl⟩) (by first | rfl | (simp only [Aa,V.fz,fzL,V.up,upL,Ab,Ac,Ad,slr,List.cons_append,List.nil_append];done) | simp [Aa,V.fz,fzL,V.up,upL,Ab,Ac,Ad,slr]) ?_
  refine SetKids.lit rfl ?_
  cases h;exact (by rfl)
 refine Br.oe h (fun p30 h=> ?_) (fun p30 h=> ?_)
 ·refine CallQ.o (A9 true) (by rfl) h (fun r h=>Bx h) (fun r31 h=> ?_)
  refine BslQ.o (A9 true) [r31] (by exact fun _=>⟨rfl,rfl⟩) (by first | rfl | (simp only [Aa,V.fz,fzL,V.up,upL,Ab,Ac,Ad,slr,List.cons_append,List.nil_append];done) | simp [Aa,V.fz,fzL,V.up,upL,Ab,Ac,Ad,slr]) ?_
  refine SetKids.lit rfl ?_
  cases h;exact (by rfl)
 refine Br.oe h (fun p32 h=> ?_) (fun p32 h=> ?_)
 ·refine CallQ.o (A9 true) (by rfl) h (fun r h=>Yg h) (fun r33 h=> ?_)
  refine BslQ.o (A9 true) [r33] (by exact fun _=>⟨rfl,rfl⟩) (by first | rfl | (simp only [Aa,V.fz,fzL,V.up,upL,Ab,Ac,Ad,slr,List.cons_append,List.nil_append];done) | simp [Aa,V.fz,fzL,V.up,upL,Ab,Ac,Ad,slr]) ?_
  refine SetKids.lit rfl ?_
  cases h;exact (by rfl)
 refine SetKids.lit rfl ?_
 cases h;exact (by rfl)
noncomputable def Gd (n0:Int) (op0:SOp):Int→Option (Int ⊕ (Unit ⊕ Unit)):=fun x5=>
 if x5<(↑op0.Table.length:Int) then
 ask ((0:Int)≤x5∧x5<(↑op0.Table.length:Int)) <|
 ask (InI (n0-(1:Int))) <|
 (Eg (nth op0.Table x5.toNat) ((0:Int)) (n0-(1:Int))).bind fun r9=>
 if (r9)=true then
 ask (InI (x5+(1:Int))) <|
 some (.inl (x5+(1:Int)))
 else
 some (.inr (.inl ()))
 else
 some (.inr (.inr ()))
def Sm (n0:Int) (op0:SOp):Int→St:=fun s=>[(5,A.val (Ag s)),(3,A.val ((rP true (A9 false)) (op0))),(0,A.val (Ag (n0)))]
def Z5 (_n0:Int) (_op0:SOp):(Unit ⊕ Unit)→Tgt
 | (.inl _s)=>(Ex.ret,[4],[(4,A.val (V.bool (false)))])
 | (.inr _s)=>((Ex.exit 0),[],[])
theorem Al1 {n0:Int} {op0:SOp} (x5:Int) (o:Int ⊕ (Unit ⊕ Unit)) (h:Gd n0 op0 x5=some o):vc Try.prog Z6 (C1 [5,3,0] (Sm n0 op0) (Z5 n0 op0) o) (Sm n0 op0 x5):=by
 unfold Gd at h
 try dsimp only at h
 refine Cells.lit rfl rfl ?_
 refine Len.map ?_
 refine Br.od h (fun p6 h=> ?_) (fun p6 h=> ?_)
 ·refine Cells.lit rfl rfl ?_
  refine Len.map ?_
  refine Ask.o h fun p7 h=> ?_
  refine Elem.o (by first | omega | (simp [Aw] at * <;> omega)) ?_
  refine Ask.o h fun p8 h=> ?_
  refine CallQ.o V.bool (by rfl) h (fun r h=>L6 h) (fun r9 h=> ?_)
  refine Br.flip ?_
  refine Br.ob h (fun p10 h=> ?_) (fun p10 h=> ?_)
  ·refine Ask.o h fun p11 h=> ?_
   cases h;exact ⟨rfl,rfl⟩
  cases h;exact ⟨rfl,rfl⟩
 cases h;exact ⟨rfl,rfl⟩
noncomputable def P0 (n0:Int) (op0:SOp):Option Bool:=
 (((Eg (op0.Arity) ((0:Int)) ((3:Int))).bind fun r1=>
 if (r1)=true then
 (Gy (n0) (op0.Arity)).bind fun r3=>
 if (↑op0.Table.length:Int)≠r3 then
 some (.inl ())
 else
 some (.inr ())
 else
 some (.inl ()):Option (Unit ⊕ Unit))).bind fun t=>match t with
 | (.inl _)=>(some false)
 | (.inr _)=>((Al (Gd n0 op0) (0:Int)).bind fun t=>match t with
 | (.inl _)=>(some false)
 | (.inr _)=>(some true))
theorem Au4 {n0:Int} {op0:SOp} {v:Bool} (h:P0 n0 op0=some v):Ret Try.prog Zv [Ag n0,(A9 false) op0] (V.bool v):=by
 refine Bb At2 (Nat.le_of_ble_eq_true rfl) ?_
 unfold P0 at h
 refine CutQ.o (fun t:(Unit ⊕ Unit)=>match t with | (.inl s)=>(Ex.ret,[4],[(4,A.val (V.bool (false)))]) | (.inr s)=>(Ex.normal,[3,0],[(3,A.val ((rP true (A9 false)) (op0))),(0,A.val (Ag (n0)))])) h ?_ ?_
 ·intro t h
  refine Cells.lit rfl rfl ?_
  refine CallP.o V.bool (by rfl) h (fun r h=>L6 h) (fun r1 h=> ?_)
  refine Br.flip ?_
  refine Br.ob h (fun p2 h=> ?_) (fun p2 h=> ?_)
  ·refine Br.no ?_
   refine Cells.lit rfl rfl ?_
   refine Br.no ?_
   refine Len.map ?_
   refine Br.no ?_
   refine Br.no ?_
   refine Br.no ?_
   refine Cells.lit rfl rfl ?_
   refine Br.no ?_
   refine CallP.o Ag (by rfl) h (fun r h=>W3 h) (fun r3 h=> ?_)
   refine Br.no ?_
   refine Br.no ?_
   refine Br.on h (fun p4 h=> ?_) (fun p4 h=> ?_)
   ·cases h;exact ⟨rfl,rfl⟩
   cases h;exact ⟨rfl,rfl⟩
  refine Br.yes ?_
  refine Br.yes ?_
  refine Br.yes ?_
  refine Br.yes ?_
  refine Br.yes ?_
  refine Br.yes ?_
  refine Br.yes ?_
  refine Br.yes ?_
  refine Br.yes ?_
  cases h;exact ⟨rfl,rfl⟩
 rintro (⟨⟩ | ⟨⟩) h
 ·try dsimp only at h
  cases h;exact (by rfl)
 try dsimp only at h
 refine LoopQ.o [5,3,0] (Sm n0 op0) (Z5 n0 op0) h (fun s o h=>Al1 s o h) (by rfl) (by rintro (_ | _)<;>rfl) ?_
 rintro (⟨⟩ | ⟨⟩) h
 ·try dsimp only at h
  cases h;exact (by rfl)
 try dsimp only at h
 cases h;exact (by rfl)
noncomputable def Pa (op0:SOp):Option SOp:=
 (Ft (op0.Table)).bind fun r1=>
 some ({ Arity:=op0.Arity,Table:=r1 })
theorem Anz {op0:SOp} {v:SOp} (h:Pa op0=some v):Ret Try.prog Um [(A9 false) op0] ((A9 true) v):=by
 refine Bb An7 (Nat.le_of_ble_eq_true rfl) ?_
 unfold Pa at h
 refine Cells.lit rfl rfl ?_
 refine Cells.lit rfl rfl ?_
 refine CallP.o (slr true 1 Ag) (by rfl) h (fun r h=>Q4 h) (fun r1 h=> ?_)
 refine SetKids.lit rfl ?_
 cases h;exact (by rfl)
noncomputable def C8 (n0:Int) (list0:List Int):Int→Option (Int ⊕ (Unit ⊕ Unit)):=fun x5=>
 if x5<(↑list0.length:Int) then
 ask ((0:Int)≤x5∧x5<(↑list0.length:Int)) <|
 ask (InI (n0-(1:Int))) <|
 (Eg (nth list0 x5.toNat) ((0:Int)) (n0-(1:Int))).bind fun r4=>
 if (r4)=true then
 ask (InI (x5+(1:Int))) <|
 some (.inl (x5+(1:Int)))
 else
 some (.inr (.inl ()))
 else
 some (.inr (.inr ()))
def Jj (n0:Int) (list0:List Int):Int→St:=fun s=>[(5,A.val (Ag s)),(0,A.val (Ag (n0))),(1,A.val ((slr false 1 Ag) (list0)))]
def Pn (_n0:Int) (_list0:List Int):(Unit ⊕ Unit)→Tgt
 | (.inl _s)=>(Ex.ret,[4],[(4,A.val (V.bool (false)))])
 | (.inr _s)=>((Ex.exit 0),[],[])
theorem Aao {n0:Int} {list0:List Int} (x5:Int) (o:Int ⊕ (Unit ⊕ Unit)) (h:C8 n0 list0 x5=some o):vc Try.prog Pt (C1 [5,0,1] (Jj n0 list0) (Pn n0 list0) o) (Jj n0 list0 x5):=by
 unfold C8 at h
 try dsimp only at h
 refine Len.map ?_
 refine Br.od h (fun p1 h=> ?_) (fun p1 h=> ?_)
 ·refine Len.map ?_
  refine Ask.o h fun p2 h=> ?_
  refine Elem.o (by first | omega | (simp [Aw] at * <;> omega)) ?_
  refine Ask.o h fun p3 h=> ?_
  refine CallQ.o V.bool (by rfl) h (fun r h=>L6 h) (fun r4 h=> ?_)
  refine Br.flip ?_
  refine Br.ob h (fun p5 h=> ?_) (fun p5 h=> ?_)
  ·refine Ask.o h fun p6 h=> ?_
   cases h;exact ⟨rfl,rfl⟩
  cases h;exact ⟨rfl,rfl⟩
 cases h;exact ⟨rfl,rfl⟩
noncomputable def Gp (n0:Int) (list0:(List Int)):Option Bool:=
 (Al (C8 n0 list0) (0:Int)).bind fun t=>match t with
 | (.inl _)=>(some false)
 | (.inr _)=>(some true)
theorem Ads {n0:Int} {list0:(List Int)} {v:Bool} (h:Gp n0 list0=some v):Ret Try.prog Ni [Ag n0,(slr false 1 Ag) list0] (V.bool v):=by
 refine Bb Ae6 (Nat.le_of_ble_eq_true rfl) ?_
 unfold Gp at h
 refine LoopQ.o [5,0,1] (Jj n0 list0) (Pn n0 list0) h (fun s o h=>Aao s o h) (by rfl) (by rintro (_ | _)<;>rfl) ?_
 rintro (⟨⟩ | ⟨⟩) h
 ·try dsimp only at h
  cases h;exact (by rfl)
 try dsimp only at h
 cases h;exact (by rfl)
end Go.Proofs.Ytmkgjnphianalaa.Ax
