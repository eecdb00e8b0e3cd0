/-
 What the functions compute, as functions on plain data, and that the program does compute it; written by program.
-/
import Derived.Test.YtmcbocbcpijgeaaCode
import Derived.Test.YtmcbocbcpijgeaaG1
import Derived.Test.YtmcbocbcpijgeaaG2
import Derived.Test.YtmcbocbcpijgeaaG3
namespace Go.Proofs.Ytmcbocbcpijgeaa.Ax
open Go
set_option maxRecDepth 100000
set_option maxHeartbeats 4000000
noncomputable def Cg (terms0:List (List Int)) (x11:Int):(Int×(List Bool))→Option ((Int×(List Bool)) ⊕ (List Bool)):=fun (x17,x3')=>
 if x17<(↑(nth terms0 x11.toNat).length:Int) then
 ask ((0:Int)≤x17∧x17<(↑(nth terms0 x11.toNat).length:Int)) <|
 if nth (nth terms0 x11.toNat) x17.toNat≥(0:Int) then
 ask ((0:Int)≤nth (nth terms0 x11.toNat) x17.toNat∧nth (nth terms0 x11.toNat) x17.toNat<(↑x3'.length:Int)) <|
 ask (InI (x17+(1:Int))) <|
 some (.inl (x17+(1:Int),x3'.set (nth (nth terms0 x11.toNat) x17.toNat).toNat true))
 else
 ask (InI (x17+(1:Int))) <|
 some (.inl (x17+(1:Int),x3'))
 else
 some (.inr x3')
def Kw (terms0:List (List Int)) (x11:Int):(Int×(List Bool))→St:=fun s=>[(17,A.val (Af s.1)),(16,A.val (Af ((↑(nth terms0 x11.toNat).length:Int)))),(15,A.val ((slr false 1 Af) (nth terms0 x11.toNat))),(11,A.val (Af (x11))),(10,A.val (Af ((↑terms0.length:Int)))),(9,A.val ((slr false 1 (slr false 1 Af)) (terms0))),(3,A.val ((slr true 1 V.bool) s.2))]
def Pn (terms0:List (List Int)) (x11:Int):(List Bool)→Tgt
 | s=>((Ex.exit 2),[11,10,9,3],[(11,A.val (Af (x11))),(10,A.val (Af ((↑terms0.length:Int)))),(9,A.val ((slr false 1 (slr false 1 Af)) (terms0))),(3,A.val ((slr true 1 V.bool) s))])
theorem Y9 {terms0:List (List Int)} {x11:Int} (s:(Int×(List Bool))) (o:(Int×(List Bool)) ⊕ (List Bool)) (h:Cg terms0 x11 s=some o):vc Try.prog P8 (Eu [17,16,15,11,10,9,3] (Kw terms0 x11) (Pn terms0 x11) o) (Kw terms0 x11 s):=by
 obtain ⟨x17,x3'⟩:=s
 unfold Cg at h
 try dsimp only at h
 conv=>whnf
 refine Br.od h (fun p3 h=> ?_) (fun p3 h=> ?_)
 ·conv=>whnf
  refine Len.map ?_
  conv=>whnf
  refine Ask.o h fun p4 h=> ?_
  conv=>whnf
  refine Elem.o (by first | omega | (simp [Ba] at * <;> omega)) ?_
  conv=>whnf
  refine Br.od h (fun p5 h=> ?_) (fun p5 h=> ?_)
  ·conv=>whnf
   refine Len.map ?_
   conv=>whnf
   refine Ask.o h fun p6 h=> ?_
   conv=>whnf
   refine SetKids.one (fun _=>⟨rfl,rfl⟩) (true) (by first | rfl | simp only [Aa,V.fz,fzL,V.up,upL,Ab,Ac,Ad,slr,List.cons_append,List.nil_append] | simp [Aa,V.fz,fzL,V.up,upL,Ab,Ac,Ad,slr]) (by first | omega | (simp [Ba] at * <;> omega)) ?_
   conv=>whnf
   refine Ask.o h fun p7 h=> ?_
   conv=>whnf
   cases h;exact ⟨rfl,rfl⟩
  conv=>whnf
  refine Ask.o h fun p8 h=> ?_
  conv=>whnf
  cases h;exact ⟨rfl,rfl⟩
 conv=>whnf
 cases h;exact ⟨rfl,rfl⟩
noncomputable def Cv (terms0:List (List Int)):(Int×(List Bool))→Option ((Int×(List Bool)) ⊕ (List Bool)):=fun (x11,x3)=>
 if x11<(↑terms0.length:Int) then
 ask ((0:Int)≤x11∧x11<(↑terms0.length:Int)) <|
 (Ay (Cg terms0 x11) ((0:Int),x3)).bind fun q9_3=>
 ask (InI (x11+(1:Int))) <|
 some (.inl (x11+(1:Int),q9_3))
 else
 some (.inr x3)
def Kf (terms0:List (List Int)):(Int×(List Bool))→St:=fun s=>[(11,A.val (Af s.1)),(10,A.val (Af ((↑terms0.length:Int)))),(9,A.val ((slr false 1 (slr false 1 Af)) (terms0))),(3,A.val ((slr true 1 V.bool) s.2))]
def Ph (_terms0:List (List Int)):(List Bool)→Tgt
 | s=>((Ex.exit 0),[3],[(3,A.val ((slr true 1 V.bool) s))])
theorem Y4 {terms0:List (List Int)} (s:(Int×(List Bool))) (o:(Int×(List Bool)) ⊕ (List Bool)) (h:Cv terms0 s=some o):vc Try.prog Qc (Eu [11,10,9,3] (Kf terms0) (Ph terms0) o) (Kf terms0 s):=by
 obtain ⟨x11,x3⟩:=s
 unfold Cv at h
 try dsimp only at h
 conv=>whnf
 refine Br.od h (fun p1 h=> ?_) (fun p1 h=> ?_)
 ·conv=>whnf
  refine Len.map ?_
  conv=>whnf
  refine Ask.o h fun p2 h=> ?_
  conv=>whnf
  refine Elem.o (by first | omega | (simp [Ba] at * <;> omega)) ?_
  conv=>whnf
  refine Len.map ?_
  conv=>whnf
  refine LoopQ.o [17,16,15,11,10,9,3] (Kw terms0 x11) (Pn terms0 x11) h (fun s o h=>Y9 s o h) (by first | rfl | simp [restrict,look,Aa,V.fz,fzL,V.up,upL,Ab,Ac,Ad,slr]) (fun _=>rfl) ?_
  rintro q9_3 h
  try dsimp only at h
  conv=>whnf
  refine Ask.o h fun p10 h=> ?_
  conv=>whnf
  cases h;exact ⟨rfl,rfl⟩
 conv=>whnf
 cases h;exact ⟨rfl,rfl⟩
noncomputable def Gb (terms0:(List (List Int))):Option (List Int):=
 (Ay (Cv terms0) ((0:Int),List.replicate (Int.toNat (6:Int)) false)).bind fun q11_3=>
 (Ib (q11_3)).bind fun r12=>
 some r12
theorem Ads {terms0:(List (List Int))} {v:(List Int)} (h:Gb terms0=some v):Ret Try.prog O7 [(slr false 1 (slr false 1 Af)) terms0] ((slr true 1 Af) v):=by
 refine Bp Aeg (Nat.le_of_ble_eq_true rfl) ?_
 unfold Gb at h
 conv=>whnf
 refine Ask.mk (by decide) ?_
 conv=>whnf
 refine MkQ.o V.bool (false) rfl ?_
 conv=>whnf
 refine Len.map ?_
 conv=>whnf
 refine LoopQ.o [11,10,9,3] (Kf terms0) (Ph terms0) h (fun s o h=>Y4 s o h) (by first | rfl | simp [restrict,look,Aa,V.fz,fzL,V.up,upL,Ab,Ac,Ad,slr]) (fun _=>rfl) ?_
 rintro q11_3 h
 try dsimp only at h
 conv=>whnf
 refine CallQ.rd (slr true 1 Af) (by first | rfl | simp only [V.fz,Ab,slr] | simp [Aa,V.fz,fzL,V.up,upL,Ab,Ac,Ad,slr]) (fun _=>by simp [V.noFz,D1]) h (fun r h=>Aea h) (fun r12 h=> ?_)
 conv=>whnf
 cases h;exact (by first | rfl | simp only [Ah,Aa,V.fz,fzL,V.up,upL,Ab,Ac,Ad,slr] | simp [Ah,Aa,V.fz,fzL,V.up,upL,Ab,Ac,Ad,slr])
noncomputable def E7 (n0:Int) (op0:SOp):Int→Option (Int ⊕ (Unit ⊕ Unit)):=fun x5=>
 if x5<(↑op0.Table.length:Int) then
 ask ((0:Int)≤x5∧x5<(↑op0.Table.length:Int)) <|
 ask (InI (n0-(1:Int))) <|
 (Ds (nth op0.Table x5.toNat) ((0:Int)) (n0-(1:Int))).bind fun r9=>
 if (r9)=true then
 ask (InI (x5+(1:Int))) <|
 some (.inl (x5+(1:Int)))
 else
 some (.inr (.inl ()))
 else
 some (.inr (.inr ()))
def Mz (n0:Int) (op0:SOp):Int→St:=fun s=>[(5,A.val (Af s)),(3,A.val ((rP true (Bb false)) (op0))),(0,A.val (Af (n0)))]
def Tb (_n0:Int) (_op0:SOp):(Unit ⊕ Unit)→Tgt
 | (.inl _s)=>(Ex.ret,[4],[(4,A.val (V.bool (false)))])
 | (.inr _s)=>((Ex.exit 0),[],[])
theorem Acr {n0:Int} {op0:SOp} (x5:Int) (o:Int ⊕ (Unit ⊕ Unit)) (h:E7 n0 op0 x5=some o):vc Try.prog Sk (Eu [5,3,0] (Mz n0 op0) (Tb n0 op0) o) (Mz n0 op0 x5):=by
 unfold E7 at h
 try dsimp only at h
 conv=>whnf
 refine Cells.lit rfl rfl ?_
 conv=>whnf
 refine Len.map ?_
 conv=>whnf
 refine Br.od h (fun p6 h=> ?_) (fun p6 h=> ?_)
 ·conv=>whnf
  refine Cells.lit rfl rfl ?_
  conv=>whnf
  refine Len.map ?_
  conv=>whnf
  refine Ask.o h fun p7 h=> ?_
  conv=>whnf
  refine Elem.o (by first | omega | (simp [Ba] at * <;> omega)) ?_
  conv=>whnf
  refine Ask.o h fun p8 h=> ?_
  conv=>whnf
  refine CallQ.o V.bool (by first | rfl | simp only [Aa,V.fz,fzL,V.up,upL,Ab,Ac,Ad,slr,List.cons_append,List.nil_append] | simp [Aa,V.fz,fzL,V.up,upL,Ab,Ac,Ad,slr]) h (fun r h=>Lj h) (fun r9 h=> ?_)
  conv=>whnf
  refine Br.flip ?_
  conv=>whnf
  refine Br.ob h (fun p10 h=> ?_) (fun p10 h=> ?_)
  ·conv=>whnf
   refine Ask.o h fun p11 h=> ?_
   conv=>whnf
   cases h;exact ⟨rfl,rfl⟩
  conv=>whnf
  cases h;exact ⟨rfl,rfl⟩
 conv=>whnf
 cases h;exact ⟨rfl,rfl⟩
noncomputable def Lk (n0:Int) (op0:SOp):Option Bool:=
 (((Ds (op0.Arity) ((0:Int)) ((3:Int))).bind fun r1=>
 if (r1)=true then
 (Cb (n0) (op0.Arity)).bind fun r3=>
 if (↑op0.Table.length:Int)≠r3 then
 some (.inl ())
 else
 some (.inr ())
 else
 some (.inl ()):Option (Unit ⊕ Unit))).bind fun t=>match t with
 | (.inl _)=>(some false)
 | (.inr _)=>((Ay (E7 n0 op0) (0:Int)).bind fun t=>match t with
 | (.inl _)=>(some false)
 | (.inr _)=>(some true))
theorem Aj8 {n0:Int} {op0:SOp} {v:Bool} (h:Lk n0 op0=some v):Ret Try.prog Sz [Af n0,(Bb false) op0] (V.bool v):=by
 refine Bp Ah8 (Nat.le_of_ble_eq_true rfl) ?_
 unfold Lk at h
 conv=>whnf
 refine CutQ.o (fun t:(Unit ⊕ Unit)=>match t with | (.inl s)=>(Ex.ret,[4],[(4,A.val (V.bool (false)))]) | (.inr s)=>(Ex.normal,[3,0],[(3,A.val ((rP true (Bb false)) (op0))),(0,A.val (Af (n0)))])) h ?_ ?_
 ·intro t h
  conv=>whnf
  refine Cells.lit rfl rfl ?_
  conv=>whnf
  refine CallP.o V.bool (by first | rfl | simp only [Aa,V.fz,fzL,V.up,upL,Ab,Ac,Ad,slr,List.cons_append,List.nil_append] | simp [Aa,V.fz,fzL,V.up,upL,Ab,Ac,Ad,slr]) h (fun r h=>Lj h) (fun r1 h=> ?_)
  conv=>whnf
  refine Br.flip ?_
  conv=>whnf
  refine Br.ob h (fun p2 h=> ?_) (fun p2 h=> ?_)
  ·conv=>whnf
   refine Br.no ?_
   conv=>whnf
   refine Cells.lit rfl rfl ?_
   conv=>whnf
   refine Br.no ?_
   conv=>whnf
   refine Len.map ?_
   conv=>whnf
   refine Br.no ?_
   conv=>whnf
   refine Br.no ?_
   conv=>whnf
   refine Br.no ?_
   conv=>whnf
   refine Cells.lit rfl rfl ?_
   conv=>whnf
   refine Br.no ?_
   conv=>whnf
   refine CallP.o Af (by first | rfl | simp only [Aa,V.fz,fzL,V.up,upL,Ab,Ac,Ad,slr,List.cons_append,List.nil_append] | simp [Aa,V.fz,fzL,V.up,upL,Ab,Ac,Ad,slr]) h (fun r h=>Mk h) (fun r3 h=> ?_)
   conv=>whnf
   refine Br.no ?_
   conv=>whnf
   refine Br.no ?_
   conv=>whnf
   refine Br.on h (fun p4 h=> ?_) (fun p4 h=> ?_)
   ·conv=>whnf
    cases h;exact ⟨rfl,rfl⟩
   conv=>whnf
   cases h;exact ⟨rfl,rfl⟩
  conv=>whnf
  refine Br.yes ?_
  conv=>whnf
  refine Br.yes ?_
  conv=>whnf
  refine Br.yes ?_
  conv=>whnf
  refine Br.yes ?_
  conv=>whnf
  refine Br.yes ?_
  conv=>whnf
  refine Br.yes ?_
  conv=>whnf
  refine Br.yes ?_
  conv=>whnf
  refine Br.yes ?_
  conv=>whnf
  refine Br.yes ?_
  conv=>whnf
  cases h;exact ⟨rfl,rfl⟩
 rintro (⟨⟩ | ⟨⟩) h
 ·try dsimp only at h
  conv=>whnf
  cases h;exact (by first | rfl | simp only [Ah,Aa,V.fz,fzL,V.up,upL,Ab,Ac,Ad,slr] | simp [Ah,Aa,V.fz,fzL,V.up,upL,Ab,Ac,Ad,slr])
 try dsimp only at h
 conv=>whnf
 refine LoopQ.o [5,3,0] (Mz n0 op0) (Tb n0 op0) h (fun s o h=>Acr s o h) (by first | rfl | simp [restrict,look,Aa,V.fz,fzL,V.up,upL,Ab,Ac,Ad,slr]) (by rintro (_ | _)<;>rfl) ?_
 rintro (⟨⟩ | ⟨⟩) h
 ·try dsimp only at h
  conv=>whnf
  cases h;exact (by first | rfl | simp only [Ah,Aa,V.fz,fzL,V.up,upL,Ab,Ac,Ad,slr] | simp [Ah,Aa,V.fz,fzL,V.up,upL,Ab,Ac,Ad,slr])
 try dsimp only at h
 conv=>whnf
 cases h;exact (by first | rfl | simp only [Ah,Aa,V.fz,fzL,V.up,upL,Ab,Ac,Ad,slr] | simp [Ah,Aa,V.fz,fzL,V.up,upL,Ab,Ac,Ad,slr])
noncomputable def Ev (t0:List Int):(Int×(List Int))→Option ((Int×(List Int)) ⊕ (List Int)):=fun (x4,x3)=>
 if x4<(↑t0.length:Int) then
 ask ((0:Int)≤x4∧x4<(↑t0.length:Int)) <|
 if nth t0 x4.toNat≥(0:Int) then
 ask ((0:Int)≤x4∧x4<(↑t0.length:Int)) <|
 (Hj (x3) (nth t0 x4.toNat)).bind fun r5=>
 ask (InI (x4+(1:Int))) <|
 some (.inl (x4+(1:Int),r5))
 else
 ask (InI (x4+(1:Int))) <|
 some (.inl (x4+(1:Int),x3))
 else
 some (.inr x3)
def Kr (t0:List Int):(Int×(List Int))→St:=fun s=>[(4,A.val (Af s.1)),(3,A.val ((slr false 1 Af) s.2)),(0,A.val ((slr false 1 Af) (t0)))]
def Qb (_t0:List Int):(List Int)→Tgt
 | s=>((Ex.exit 0),[3],[(3,A.val ((slr false 1 Af) s))])
theorem Yd {t0:List Int} (s:(Int×(List Int))) (o:(Int×(List Int)) ⊕ (List Int)) (h:Ev t0 s=some o):vc Try.prog Kq (Eu [4,3,0] (Kr t0) (Qb t0) o) (Kr t0 s):=by
 obtain ⟨x4,x3⟩:=s
 unfold Ev at h
 try dsimp only at h
 conv=>whnf
 refine Len.map ?_
 conv=>whnf
 refine Br.od h (fun p1 h=> ?_) (fun p1 h=> ?_)
 ·conv=>whnf
  refine Len.map ?_
  conv=>whnf
  refine Ask.o h fun p2 h=> ?_
  conv=>whnf
  refine Elem.o (by first | omega | (simp [Ba] at * <;> omega)) ?_
  conv=>whnf
  refine Br.od h (fun p3 h=> ?_) (fun p3 h=> ?_)
  ·conv=>whnf
   refine Len.map ?_
   conv=>whnf
   refine Ask.o h fun p4 h=> ?_
   conv=>whnf
   refine Elem.o (by first | omega | (simp [Ba] at * <;> omega)) ?_
   conv=>whnf
   refine CallQ.o (slr false 1 Af) (by first | rfl | simp only [Aa,V.fz,fzL,V.up,upL,Ab,Ac,Ad,slr,List.cons_append,List.nil_append] | simp [Aa,V.fz,fzL,V.up,upL,Ab,Ac,Ad,slr]) h (fun r h=>Wu h) (fun r5 h=> ?_)
   conv=>whnf
   refine Ask.o h fun p6 h=> ?_
   conv=>whnf
   cases h;exact ⟨rfl,rfl⟩
  conv=>whnf
  refine Ask.o h fun p7 h=> ?_
  conv=>whnf
  cases h;exact ⟨rfl,rfl⟩
 conv=>whnf
 cases h;exact ⟨rfl,rfl⟩
noncomputable def H9 (t0:(List Int)):Option (List Int):=
 (Ay (Ev t0) ((0:Int),A8 Int)).bind fun q8_3=>
 some q8_3
theorem Aqz {t0:(List Int)} {v:(List Int)} (h:H9 t0=some v):Ret Try.prog Ic [(slr false 1 Af) t0] ((slr false 1 Af) v):=by
 refine Bp U4 (Nat.le_of_ble_eq_true rfl) ?_
 unfold H9 at h
 conv=>whnf
 refine BslQ.o Af (A8 Int) (by exact fun _=>⟨rfl,rfl⟩) (by first | rfl | (simp only [Aa,V.fz,fzL,V.up,upL,Ab,Ac,Ad,slr,List.cons_append,List.nil_append];done) | simp [Aa,V.fz,fzL,V.up,upL,Ab,Ac,Ad,slr]) ?_
 conv=>whnf
 refine LoopQ.o [4,3,0] (Kr t0) (Qb t0) h (fun s o h=>Yd s o h) (by first | rfl | simp [restrict,look,Aa,V.fz,fzL,V.up,upL,Ab,Ac,Ad,slr]) (fun _=>rfl) ?_
 rintro q8_3 h
 try dsimp only at h
 conv=>whnf
 cases h;exact (by first | rfl | simp only [Ah,Aa,V.fz,fzL,V.up,upL,Ab,Ac,Ad,slr] | simp [Ah,Aa,V.fz,fzL,V.up,upL,Ab,Ac,Ad,slr])
noncomputable def Dn (a0:SAlgebra) (t0:List Int) (_values0:List Int) (x8:Int) (x7:List Int):(Int×(List Int))→Option ((Int×(List Int)) ⊕ (List Int)):=fun (x11,x10)=>
 ask ((0:Int)≤(-1:Int)-nth t0 x8.toNat∧(-1:Int)-nth t0 x8.toNat<(↑a0.Ops.length:Int)) <|
 if x11<(nth a0.Ops ((-1:Int)-nth t0 x8.toNat).toNat).Arity then
 ask (InI ((↑x7.length:Int)-(1:Int))) <|
 ask (InI ((↑x7.length:Int)-(1:Int)-x11)) <|
 ask ((0:Int)≤(↑x7.length:Int)-(1:Int)-x11∧(↑x7.length:Int)-(1:Int)-x11<(↑x7.length:Int)) <|
 ask ((x10).length+([nth x7 ((↑x7.length:Int)-(1:Int)-x11).toNat]).length≤LIM) <|
 ask (InI (x11+(1:Int))) <|
 some (.inl (x11+(1:Int),x10++[nth x7 ((↑x7.length:Int)-(1:Int)-x11).toNat]))
 else
 some (.inr x10)
def Ji (a0:SAlgebra) (t0:List Int) (values0:List Int) (x8:Int) (x7:List Int):(Int×(List Int))→St:=fun s=>[(11,A.val (Af s.1)),(10,A.val ((slr true 1 Af) s.2)),(9,A.val (Af ((-1:Int)-nth t0 x8.toNat))),(8,A.val (Af (x8))),(7,A.val ((slr true 1 Af) (x7))),(3,A.val ((rP true (Ag false)) (a0))),(1,A.val ((slr false 1 Af) (t0))),(2,A.val ((slr false 1 Af) (values0)))]
def Ot (a0:SAlgebra) (t0:List Int) (values0:List Int) (x8:Int) (x7:List Int):(List Int)→Tgt
 | s=>((Ex.exit 2),[10,9,8,7,3,1,2],[(10,A.val ((slr true 1 Af) s)),(9,A.val (Af ((-1:Int)-nth t0 x8.toNat))),(8,A.val (Af (x8))),(7,A.val ((slr true 1 Af) (x7))),(3,A.val ((rP true (Ag false)) (a0))),(1,A.val ((slr false 1 Af) (t0))),(2,A.val ((slr false 1 Af) (values0)))])
theorem W9 {a0:SAlgebra} {t0:List Int} {values0:List Int} {x8:Int} {x7:List Int} (s:(Int×(List Int))) (o:(Int×(List Int)) ⊕ (List Int)) (h:Dn a0 t0 values0 x8 x7 s=some o):vc Try.prog Od (Eu [11,10,9,8,7,3,1,2] (Ji a0 t0 values0 x8 x7) (Ot a0 t0 values0 x8 x7) o) (Ji a0 t0 values0 x8 x7 s):=by
 obtain ⟨x11,x10⟩:=s
 unfold Dn at h
 try dsimp only at h
 conv=>whnf
 refine Cells.lit rfl rfl ?_
 conv=>whnf
 refine Len.map ?_
 conv=>whnf
 refine Ask.o h fun p10 h=> ?_
 conv=>whnf
 refine Elem.o (by first | omega | (simp [Ba] at * <;> omega)) ?_
 conv=>whnf
 refine Br.od h (fun p11 h=> ?_) (fun p11 h=> ?_)
 ·conv=>whnf
  refine Len.map ?_
  conv=>whnf
  refine Ask.o h fun p12 h=> ?_
  conv=>whnf
  refine Ask.o h fun p13 h=> ?_
  conv=>whnf
  refine Len.map ?_
  conv=>whnf
  refine Ask.o h fun p14 h=> ?_
  conv=>whnf
  refine Cells.one (fun _=>⟨rfl,rfl⟩) (by first | omega | (simp [Ba] at * <;> omega)) ?_
  conv=>whnf
  refine BslQ.o Af ([nth x7 ((↑x7.length:Int)-(1:Int)-x11).toNat]) (by exact fun _=>⟨rfl,rfl⟩) (by first | rfl | (simp only [Aa,V.fz,fzL,V.up,upL,Ab,Ac,Ad,slr,List.cons_append,List.nil_append];done) | simp [Aa,V.fz,fzL,V.up,upL,Ab,Ac,Ad,slr]) ?_
  conv=>whnf
  refine NoOwn.o (fun _=>rfl) ?_
  conv=>whnf
  refine AppQ.o (m:=1) Af (by exact fun _=>⟨rfl,rfl⟩) (x10) ([nth x7 ((↑x7.length:Int)-(1:Int)-x11).toNat]) (by first | rfl | simp only [Aa,V.fz,fzL,V.up,upL,Ab,Ac,Ad,slr,List.cons_append,List.nil_append] | simp [Aa,V.fz,fzL,V.up,upL,Ab,Ac,Ad,slr]) (by first | rfl | simp only [Aa,V.fz,fzL,V.up,upL,Ab,Ac,Ad,slr,List.cons_append,List.nil_append] | simp [Aa,V.fz,fzL,V.up,upL,Ab,Ac,Ad,slr]) h fun h=> ?_
  conv=>whnf
  refine Ask.o h fun p15 h=> ?_
  conv=>whnf
  cases h;exact ⟨rfl,rfl⟩
 conv=>whnf
 cases h;exact ⟨rfl,rfl⟩
noncomputable def Eh (a0:SAlgebra) (t0:List Int) (values0:List Int):(Int×(List Int))→Option ((Int×(List Int)) ⊕ (List Int)):=fun (x8,x7)=>
 if x8≥(0:Int) then
 ask ((0:Int)≤x8∧x8<(↑t0.length:Int)) <|
 if nth t0 x8.toNat≥(0:Int) then
 ask ((0:Int)≤x8∧x8<(↑t0.length:Int)) <|
 ask ((0:Int)≤nth t0 x8.toNat∧nth t0 x8.toNat<(↑values0.length:Int)) <|
 ask ((x7).length+([nth values0 (nth t0 x8.toNat).toNat]).length≤LIM) <|
 ask (InI (x8-(1:Int))) <|
 some (.inl (x8-(1:Int),x7++[nth values0 (nth t0 x8.toNat).toNat]))
 else
 ask ((0:Int)≤x8∧x8<(↑t0.length:Int)) <|
 ask (InI ((-1:Int)-nth t0 x8.toNat)) <|
 (Ay (Dn a0 t0 values0 x8 x7) ((0:Int),A8 Int)).bind fun q16_10=>
 ask (InI ((↑x7.length:Int)-(↑q16_10.length:Int))) <|
 ask (0≤(0:Int)∧(0:Int)≤(↑x7.length:Int)-(↑q16_10.length:Int)∧(↑x7.length:Int)-(↑q16_10.length:Int)≤((x7.length:Nat):Int)) <|
 (F6 (List.take (((↑x7.length:Int)-(↑q16_10.length:Int)).toNat-Int.toNat (0:Int)) (List.drop (Int.toNat (0:Int)) x7))).bind fun r18=>
 (G9 (a0) ((-1:Int)-nth t0 x8.toNat) (q16_10)).bind fun r19=>
 ask ((r18).length+([r19]).length≤LIM) <|
 ask (InI (x8-(1:Int))) <|
 some (.inl (x8-(1:Int),r18++[r19]))
 else
 some (.inr x7)
def Jq (a0:SAlgebra) (t0:List Int) (values0:List Int):(Int×(List Int))→St:=fun s=>[(8,A.val (Af s.1)),(7,A.val ((slr true 1 Af) s.2)),(3,A.val ((rP true (Ag false)) (a0))),(1,A.val ((slr false 1 Af) (t0))),(2,A.val ((slr false 1 Af) (values0)))]
def Nv (_a0:SAlgebra) (_t0:List Int) (_values0:List Int):(List Int)→Tgt
 | s=>((Ex.exit 0),[7],[(7,A.val ((slr true 1 Af) s))])
theorem Xo {a0:SAlgebra} {t0:List Int} {values0:List Int} (s:(Int×(List Int))) (o:(Int×(List Int)) ⊕ (List Int)) (h:Eh a0 t0 values0 s=some o):vc Try.prog N6 (Eu [8,7,3,1,2] (Jq a0 t0 values0) (Nv a0 t0 values0) o) (Jq a0 t0 values0 s):=by
 obtain ⟨x8,x7⟩:=s
 unfold Eh at h
 try dsimp only at h
 conv=>whnf
 refine Br.od h (fun p2 h=> ?_) (fun p2 h=> ?_)
 ·conv=>whnf
  refine Len.map ?_
  conv=>whnf
  refine Ask.o h fun p3 h=> ?_
  conv=>whnf
  refine Elem.o (by first | omega | (simp [Ba] at * <;> omega)) ?_
  conv=>whnf
  refine Br.od h (fun p4 h=> ?_) (fun p4 h=> ?_)
  ·conv=>whnf
   refine Len.map ?_
   conv=>whnf
   refine Ask.o h fun p5 h=> ?_
   conv=>whnf
   refine Elem.o (by first | omega | (simp [Ba] at * <;> omega)) ?_
   conv=>whnf
   refine Len.map ?_
   conv=>whnf
   refine Ask.o h fun p6 h=> ?_
   conv=>whnf
   refine Elem.o (by first | omega | (simp [Ba] at * <;> omega)) ?_
   conv=>whnf
   refine BslQ.o Af ([nth values0 (nth t0 x8.toNat).toNat]) (by exact fun _=>⟨rfl,rfl⟩) (by first | rfl | (simp only [Aa,V.fz,fzL,V.up,upL,Ab,Ac,Ad,slr,List.cons_append,List.nil_append];done) | simp [Aa,V.fz,fzL,V.up,upL,Ab,Ac,Ad,slr]) ?_
   conv=>whnf
   refine NoOwn.o (fun _=>rfl) ?_
   conv=>whnf
   refine AppQ.o (m:=1) Af (by exact fun _=>⟨rfl,rfl⟩) (x7) ([nth values0 (nth t0 x8.toNat).toNat]) (by first | rfl | simp only [Aa,V.fz,fzL,V.up,upL,Ab,Ac,Ad,slr,List.cons_append,List.nil_append] | simp [Aa,V.fz,fzL,V.up,upL,Ab,Ac,Ad,slr]) (by first | rfl | simp only [Aa,V.fz,fzL,V.up,upL,Ab,Ac,Ad,slr,List.cons_append,List.nil_append] | simp [Aa,V.fz,fzL,V.up,upL,Ab,Ac,Ad,slr]) h fun h=> ?_
   conv=>whnf
   refine Ask.o h fun p7 h=> ?_
   conv=>whnf
   cases h;exact ⟨rfl,rfl⟩
  conv=>whnf
  refine Len.map ?_
  conv=>whnf
  refine Ask.o h fun p8 h=> ?_
  conv=>whnf
  refine Elem.o (by first | omega | (simp [Ba] at * <;> omega)) ?_
  conv=>whnf
  refine Ask.o h fun p9 h=> ?_
  conv=>whnf
  refine BslQ.o Af (A8 Int) (by exact fun _=>⟨rfl,rfl⟩) (by first | rfl | (simp only [Aa,V.fz,fzL,V.up,upL,Ab,Ac,Ad,slr,List.cons_append,List.nil_append];done) | simp [Aa,V.fz,fzL,V.up,upL,Ab,Ac,Ad,slr]) ?_
  conv=>whnf
  refine LoopQ.o [11,10,9,8,7,3,1,2] (Ji a0 t0 values0 x8 x7) (Ot a0 t0 values0 x8 x7) h (fun s o h=>W9 s o h) (by first | rfl | simp [restrict,look,Aa,V.fz,fzL,V.up,upL,Ab,Ac,Ad,slr]) (fun _=>rfl) ?_
  rintro q16_10 h
  try dsimp only at h
  conv=>whnf
  refine FrzQ.d (V.sl false (1:Nat) (List.map Af x7)) (by first | (simp only [slr];done) | (simp [Ao,V.fz,Ab,slr];done) | (simp [Ao,V.fz,fzL,Ab,slr];done)) ?_
  conv=>whnf
  refine Len.map ?_
  conv=>whnf
  refine Len.map ?_
  conv=>whnf
  refine Ask.o h fun p17 h=> ?_
  conv=>whnf
  refine SlcQ.o Af h fun h=> ?_
  conv=>whnf
  refine CallP.o (slr true 1 Af) (by first | rfl | simp only [Aa,V.fz,fzL,V.up,upL,Ab,Ac,Ad,slr,List.cons_append,List.nil_append] | simp [Aa,V.fz,fzL,V.up,upL,Ab,Ac,Ad,slr]) h (fun r h=>Q8 h) (fun r18 h=> ?_)
  conv=>whnf
  refine Cells.lit rfl rfl ?_
  conv=>whnf
  refine CallQ.rd Af (by first | rfl | simp only [V.fz,fzL,V.up,Ab,Ad,slr] | simp [Aa,V.fz,fzL,V.up,upL,Ab,Ac,Ad,slr]) (fun _=>rfl) h (fun r h=>Ace h) (fun r19 h=> ?_)
  conv=>whnf
  refine BslQ.o Af [r19] (by exact fun _=>⟨rfl,rfl⟩) (by first | rfl | (simp only [Aa,V.fz,fzL,V.up,upL,Ab,Ac,Ad,slr,List.cons_append,List.nil_append];done) | simp [Aa,V.fz,fzL,V.up,upL,Ab,Ac,Ad,slr]) ?_
  conv=>whnf
  refine NoOwn.o (fun _=>rfl) ?_
  conv=>whnf
  refine AppQ.o (m:=1) Af (by exact fun _=>⟨rfl,rfl⟩) (r18) ([r19]) (by first | rfl | simp only [Aa,V.fz,fzL,V.up,upL,Ab,Ac,Ad,slr,List.cons_append,List.nil_append] | simp [Aa,V.fz,fzL,V.up,upL,Ab,Ac,Ad,slr]) (by first | rfl | simp only [Aa,V.fz,fzL,V.up,upL,Ab,Ac,Ad,slr,List.cons_append,List.nil_append] | simp [Aa,V.fz,fzL,V.up,upL,Ab,Ac,Ad,slr]) h fun h=> ?_
  conv=>whnf
  refine Ask.o h fun p20 h=> ?_
  conv=>whnf
  cases h;exact ⟨rfl,rfl⟩
 conv=>whnf
 cases h;exact ⟨rfl,rfl⟩
noncomputable def E3 (a0:SAlgebra) (t0:(List Int)) (values0:(List Int)):Option Int:=
 ask (InI ((↑t0.length:Int)-(1:Int))) <|
 (Ay (Eh a0 t0 values0) ((↑t0.length:Int)-(1:Int),A8 Int)).bind fun q21_7=>
 ask ((0:Int)≤(0:Int)∧(0:Int)<(↑q21_7.length:Int)) <|
 some (nth q21_7 (Int.toNat (0:Int)))
theorem Nm {a0:SAlgebra} {t0:(List Int)} {values0:(List Int)} {v:Int} (h:E3 a0 t0 values0=some v):Ret Try.prog Gx [(Ag false) a0,(slr false 1 Af) t0,(slr false 1 Af) values0] (Af v):=by
 refine Bp Ac9 (Nat.le_of_ble_eq_true rfl) ?_
 unfold E3 at h
 conv=>whnf
 refine BslQ.o Af (A8 Int) (by exact fun _=>⟨rfl,rfl⟩) (by first | rfl | (simp only [Aa,V.fz,fzL,V.up,upL,Ab,Ac,Ad,slr,List.cons_append,List.nil_append];done) | simp [Aa,V.fz,fzL,V.up,upL,Ab,Ac,Ad,slr]) ?_
 conv=>whnf
 refine Len.map ?_
 conv=>whnf
 refine Ask.o h fun p1 h=> ?_
 conv=>whnf
 refine LoopQ.o [8,7,3,1,2] (Jq a0 t0 values0) (Nv a0 t0 values0) h (fun s o h=>Xo s o h) (by first | rfl | simp [restrict,look,Aa,V.fz,fzL,V.up,upL,Ab,Ac,Ad,slr]) (fun _=>rfl) ?_
 rintro q21_7 h
 try dsimp only at h
 conv=>whnf
 refine Len.map ?_
 conv=>whnf
 refine Ask.o h fun p22 h=> ?_
 conv=>whnf
 refine Cells.one (fun _=>⟨rfl,rfl⟩) (by first | omega | (simp [Ba] at * <;> omega)) ?_
 conv=>whnf
 cases h;exact (by first | rfl | simp only [Ah,Aa,V.fz,fzL,V.up,upL,Ab,Ac,Ad,slr] | simp [Ah,Aa,V.fz,fzL,V.up,upL,Ab,Ac,Ad,slr])
noncomputable def Bt (a0:SAlgebra) (t0:List Int):(Int×Int)→Option ((Int×Int) ⊕ (Int ⊕ Unit)):=fun (x8,x7)=>
 if x8<(↑t0.length:Int) then
 ask (InI (x7-(1:Int))) <|
 ask ((0:Int)≤x8∧x8<(↑t0.length:Int)) <|
 if nth t0 x8.toNat<(0:Int) then
 ask ((0:Int)≤x8∧x8<(↑t0.length:Int)) <|
 (Ds (nth t0 x8.toNat) (IntKind.i64.wrap ((0:Int)-(↑a0.Ops.length:Int))) ((-1:Int))).bind fun r6=>
 if (r6)=true then
 ask ((0:Int)≤x8∧x8<(↑t0.length:Int)) <|
 ask (InI ((-1:Int)-nth t0 x8.toNat)) <|
 ask ((0:Int)≤(-1:Int)-nth t0 x8.toNat∧(-1:Int)-nth t0 x8.toNat<(↑a0.Ops.length:Int)) <|
 ask (InI (x7-(1:Int)+(nth a0.Ops ((-1:Int)-nth t0 x8.toNat).toNat).Arity)) <|
 if x7-(1:Int)+(nth a0.Ops ((-1:Int)-nth t0 x8.toNat).toNat).Arity=(0:Int) then
 ask (InI (x8+(1:Int))) <|
 some (.inr (.inl (x8+(1:Int))))
 else
 ask (InI (x8+(1:Int))) <|
 some (.inl (x8+(1:Int),x7-(1:Int)+(nth a0.Ops ((-1:Int)-nth t0 x8.toNat).toNat).Arity))
 else
 some (.inr (.inl (-1:Int)))
 else
 ask ((0:Int)≤x8∧x8<(↑t0.length:Int)) <|
 if nth t0 x8.toNat≥(6:Int) then
 some (.inr (.inl (-1:Int)))
 else
 if x7-(1:Int)=(0:Int) then
 ask (InI (x8+(1:Int))) <|
 some (.inr (.inl (x8+(1:Int))))
 else
 ask (InI (x8+(1:Int))) <|
 some (.inl (x8+(1:Int),x7-(1:Int)))
 else
 some (.inr (.inr ()))
def L1 (a0:SAlgebra) (t0:List Int):(Int×Int)→St:=fun s=>[(8,A.val (Af s.1)),(7,A.val (Af s.2)),(3,A.val ((rP true (Ag false)) (a0))),(1,A.val ((slr false 1 Af) (t0)))]
def Rs (_a0:SAlgebra) (_t0:List Int):(Int ⊕ Unit)→Tgt
 | (.inl s)=>(Ex.ret,[6],[(6,A.val (Af s))])
 | (.inr _s)=>((Ex.exit 0),[],[])
theorem Z7 {a0:SAlgebra} {t0:List Int} (s:(Int×Int)) (o:(Int×Int) ⊕ (Int ⊕ Unit)) (h:Bt a0 t0 s=some o):vc Try.prog Rq (Eu [8,7,3,1] (L1 a0 t0) (Rs a0 t0) o) (L1 a0 t0 s):=by
 obtain ⟨x8,x7⟩:=s
 unfold Bt at h
 try dsimp only at h
 conv=>whnf
 refine Len.map ?_
 conv=>whnf
 refine Br.od h (fun p1 h=> ?_) (fun p1 h=> ?_)
 ·conv=>whnf
  refine Ask.o h fun p2 h=> ?_
  conv=>whnf
  refine Len.map ?_
  conv=>whnf
  refine Ask.o h fun p3 h=> ?_
  conv=>whnf
  refine Elem.o (by first | omega | (simp [Ba] at * <;> omega)) ?_
  conv=>whnf
  refine Br.od h (fun p4 h=> ?_) (fun p4 h=> ?_)
  ·conv=>whnf
   refine Len.map ?_
   conv=>whnf
   refine Ask.o h fun p5 h=> ?_
   conv=>whnf
   refine Elem.o (by first | omega | (simp [Ba] at * <;> omega)) ?_
   conv=>whnf
   refine Cells.lit rfl rfl ?_
   conv=>whnf
   refine Len.map ?_
   conv=>whnf
   refine CallQ.o V.bool (by first | rfl | simp only [Aa,V.fz,fzL,V.up,upL,Ab,Ac,Ad,slr,List.cons_append,List.nil_append] | simp [Aa,V.fz,fzL,V.up,upL,Ab,Ac,Ad,slr]) h (fun r h=>Lj h) (fun r6 h=> ?_)
   conv=>whnf
   refine Br.flip ?_
   conv=>whnf
   refine Br.ob h (fun p7 h=> ?_) (fun p7 h=> ?_)
   ·conv=>whnf
    refine Cells.lit rfl rfl ?_
    conv=>whnf
    refine Len.map ?_
    conv=>whnf
    refine Ask.o h fun p8 h=> ?_
    conv=>whnf
    refine Elem.o (by first | omega | (simp [Ba] at * <;> omega)) ?_
    conv=>whnf
    refine Ask.o h fun p9 h=> ?_
    conv=>whnf
    refine Len.map ?_
    conv=>whnf
    refine Ask.o h fun p10 h=> ?_
    conv=>whnf
    refine Elem.o (by first | omega | (simp [Ba] at * <;> omega)) ?_
    conv=>whnf
    refine Ask.o h fun p11 h=> ?_
    conv=>whnf
    refine Br.oe h (fun p12 h=> ?_) (fun p12 h=> ?_)
    ·conv=>whnf
     refine Ask.o h fun p13 h=> ?_
     conv=>whnf
     cases h;exact ⟨rfl,rfl⟩
    conv=>whnf
    refine Ask.o h fun p14 h=> ?_
    conv=>whnf
    cases h;exact ⟨rfl,rfl⟩
   conv=>whnf
   cases h;exact ⟨rfl,rfl⟩
  conv=>whnf
  refine Len.map ?_
  conv=>whnf
  refine Ask.o h fun p15 h=> ?_
  conv=>whnf
  refine Elem.o (by first | omega | (simp [Ba] at * <;> omega)) ?_
  conv=>whnf
  refine Br.od h (fun p16 h=> ?_) (fun p16 h=> ?_)
  ·conv=>whnf
   cases h;exact ⟨rfl,rfl⟩
  conv=>whnf
  refine Br.oe h (fun p17 h=> ?_) (fun p17 h=> ?_)
  ·conv=>whnf
   refine Ask.o h fun p18 h=> ?_
   conv=>whnf
   cases h;exact ⟨rfl,rfl⟩
  conv=>whnf
  refine Ask.o h fun p19 h=> ?_
  conv=>whnf
  cases h;exact ⟨rfl,rfl⟩
 conv=>whnf
 cases h;exact ⟨rfl,rfl⟩
noncomputable def Hc (a0:SAlgebra) (t0:(List Int)) (at0:Int):Option Int:=
 (Ay (Bt a0 t0) (at0,(1:Int))).bind fun t=>match t with
 | (.inl q20_6)=>(some q20_6)
 | (.inr _)=>(some (-1:Int))
theorem Ahk {a0:SAlgebra} {t0:(List Int)} {at0:Int} {v:Int} (h:Hc a0 t0 at0=some v):Ret Try.prog Qy [(Ag false) a0,(slr false 1 Af) t0,Af at0] (Af v):=by
 refine Bp Agw (Nat.le_of_ble_eq_true rfl) ?_
 unfold Hc at h
 conv=>whnf
 refine LoopQ.o [8,7,3,1] (L1 a0 t0) (Rs a0 t0) h (fun s o h=>Z7 s o h) (by first | rfl | simp [restrict,look,Aa,V.fz,fzL,V.up,upL,Ab,Ac,Ad,slr]) (by rintro (_ | _)<;>rfl) ?_
 rintro (q20_6 | ⟨⟩) h
 ·try dsimp only at h
  conv=>whnf
  cases h;exact (by first | rfl | simp only [Ah,Aa,V.fz,fzL,V.up,upL,Ab,Ac,Ad,slr] | simp [Ah,Aa,V.fz,fzL,V.up,upL,Ab,Ac,Ad,slr])
 try dsimp only at h
 conv=>whnf
 cases h;exact (by first | rfl | simp only [Ah,Aa,V.fz,fzL,V.up,upL,Ab,Ac,Ad,slr] | simp [Ah,Aa,V.fz,fzL,V.up,upL,Ab,Ac,Ad,slr])
noncomputable def C2 (a0:SAlgebra):Int→Option (Int ⊕ (Unit ⊕ Unit)):=fun x22=>
 if x22<(↑a0.Ops.length:Int) then
 ask ((0:Int)≤x22∧x22<(↑a0.Ops.length:Int)) <|
 (Ln (nth a0.Ops x22.toNat) (a0.Size)).bind fun r7=>
 if (r7)=true then
 ask (InI (x22+(1:Int))) <|
 some (.inl (x22+(1:Int)))
 else
 some (.inr (.inl ()))
 else
 some (.inr (.inr ()))
def Hv (a0:SAlgebra):Int→St:=fun s=>[(22,A.val (Af s)),(21,A.val (Af ((↑a0.Ops.length:Int)))),(20,A.val ((slr false 2 (Bb false)) (a0.Ops))),(1,A.val ((rP true (Ag false)) (a0)))]
def L9 (_a0:SAlgebra):(Unit ⊕ Unit)→Tgt
 | (.inl _s)=>(Ex.ret,[2],[(2,A.val (V.bool (false)))])
 | (.inr _s)=>((Ex.exit 0),[],[])
theorem Uo {a0:SAlgebra} (x22:Int) (o:Int ⊕ (Unit ⊕ Unit)) (h:C2 a0 x22=some o):vc Try.prog Ma (Eu [22,21,20,1] (Hv a0) (L9 a0) o) (Hv a0 x22):=by
 unfold C2 at h
 try dsimp only at h
 conv=>whnf
 refine Br.od h (fun p5 h=> ?_) (fun p5 h=> ?_)
 ·conv=>whnf
  refine Len.map ?_
  conv=>whnf
  refine Ask.o h fun p6 h=> ?_
  conv=>whnf
  refine Elem.o (by first | omega | (simp [Ba] at * <;> omega)) ?_
  conv=>whnf
  refine SetKids.lit rfl ?_
  conv=>whnf
  refine Cells.lit rfl rfl ?_
  conv=>whnf
  refine Cells.lit rfl rfl ?_
  conv=>whnf
  refine CallQ.o V.bool (by first | rfl | simp only [Aa,V.fz,fzL,V.up,upL,Ab,Ac,Ad,slr,List.cons_append,List.nil_append] | simp [Aa,V.fz,fzL,V.up,upL,Ab,Ac,Ad,slr]) h (fun r h=>Ah0 h) (fun r7 h=> ?_)
  conv=>whnf
  refine Br.flip ?_
  conv=>whnf
  refine Br.ob h (fun p8 h=> ?_) (fun p8 h=> ?_)
  ·conv=>whnf
   refine Ask.o h fun p9 h=> ?_
   conv=>whnf
   cases h;exact ⟨rfl,rfl⟩
  conv=>whnf
  cases h;exact ⟨rfl,rfl⟩
 conv=>whnf
 cases h;exact ⟨rfl,rfl⟩
noncomputable def Dc (a0:SAlgebra):Option Bool:=
 ((if a0.Size<(1:Int) then
 some (.inl ())
 else
 if a0.Size>(8:Int) then
 some (.inl ())
 else
 if (↑a0.Ops.length:Int)>(4:Int) then
 some (.inl ())
 else
 some (.inr ()):Option (Unit ⊕ Unit))).bind fun t=>match t with
 | (.inl _)=>(some false)
 | (.inr _)=>((Ay (C2 a0) (0:Int)).bind fun t=>match t with
 | (.inl _)=>(some false)
 | (.inr _)=>(some true))
theorem Hg {a0:SAlgebra} {v:Bool} (h:Dc a0=some v):Ret Try.prog Ew [(Ag false) a0] (V.bool v):=by
 refine Bp Yj (Nat.le_of_ble_eq_true rfl) ?_
 unfold Dc at h
 conv=>whnf
 refine CutQ.o (fun t:(Unit ⊕ Unit)=>match t with | (.inl s)=>(Ex.ret,[2],[(2,A.val (V.bool (false)))]) | (.inr s)=>(Ex.normal,[1],[(1,A.val ((rP true (Ag false)) (a0)))])) h ?_ ?_
 ·intro t h
  conv=>whnf
  refine Cells.lit rfl rfl ?_
  conv=>whnf
  refine Br.od h (fun p1 h=> ?_) (fun p1 h=> ?_)
  ·conv=>whnf
   refine Br.yes ?_
   conv=>whnf
   refine Br.yes ?_
   conv=>whnf
   refine Br.yes ?_
   conv=>whnf
   refine Br.yes ?_
   conv=>whnf
   refine Br.yes ?_
   conv=>whnf
   refine Br.yes ?_
   conv=>whnf
   refine Br.yes ?_
   conv=>whnf
   refine Br.yes ?_
   conv=>whnf
   refine Br.yes ?_
   conv=>whnf
   cases h;exact ⟨rfl,rfl⟩
  conv=>whnf
  refine Br.no ?_
  conv=>whnf
  refine Cells.lit rfl rfl ?_
  conv=>whnf
  refine Br.no ?_
  conv=>whnf
  refine Br.no ?_
  conv=>whnf
  refine Br.od h (fun p2 h=> ?_) (fun p2 h=> ?_)
  ·conv=>whnf
   refine Br.yes ?_
   conv=>whnf
   refine Br.yes ?_
   conv=>whnf
   refine Br.yes ?_
   conv=>whnf
   refine Br.yes ?_
   conv=>whnf
   refine Br.yes ?_
   conv=>whnf
   cases h;exact ⟨rfl,rfl⟩
  conv=>whnf
  refine Br.no ?_
  conv=>whnf
  refine Cells.lit rfl rfl ?_
  conv=>whnf
  refine Br.no ?_
  conv=>whnf
  refine Len.map ?_
  conv=>whnf
  refine Br.no ?_
  conv=>whnf
  refine Br.no ?_
  conv=>whnf
  refine Br.od h (fun p3 h=> ?_) (fun p3 h=> ?_)
  ·conv=>whnf
   cases h;exact ⟨rfl,rfl⟩
  conv=>whnf
  cases h;exact ⟨rfl,rfl⟩
 rintro (⟨⟩ | ⟨⟩) h
 ·try dsimp only at h
  conv=>whnf
  cases h;exact (by first | rfl | simp only [Ah,Aa,V.fz,fzL,V.up,upL,Ab,Ac,Ad,slr] | simp [Ah,Aa,V.fz,fzL,V.up,upL,Ab,Ac,Ad,slr])
 try dsimp only at h
 conv=>whnf
 refine Cells.lit rfl rfl ?_
 conv=>whnf
 refine Len.map ?_
 conv=>whnf
 refine LoopQ.o [22,21,20,1] (Hv a0) (L9 a0) h (fun s o h=>Uo s o h) (by first | rfl | simp [restrict,look,Aa,V.fz,fzL,V.up,upL,Ab,Ac,Ad,slr]) (by rintro (_ | _)<;>rfl) ?_
 rintro (⟨⟩ | ⟨⟩) h
 ·try dsimp only at h
  conv=>whnf
  cases h;exact (by first | rfl | simp only [Ah,Aa,V.fz,fzL,V.up,upL,Ab,Ac,Ad,slr] | simp [Ah,Aa,V.fz,fzL,V.up,upL,Ab,Ac,Ad,slr])
 try dsimp only at h
 conv=>whnf
 cases h;exact (by first | rfl | simp only [Ah,Aa,V.fz,fzL,V.up,upL,Ab,Ac,Ad,slr] | simp [Ah,Aa,V.fz,fzL,V.up,upL,Ab,Ac,Ad,slr])
noncomputable def Ef (a0:SAlgebra) (e0:SIdentity):Option Bool:=
 (Fm (a0) (e0.Left)).bind fun r1=>
 if (r1)=true then
 (Fm (a0) (e0.Right)).bind fun r3=>
 some r3
 else
 some false
theorem Oq {a0:SAlgebra} {e0:SIdentity} {v:Bool} (h:Ef a0 e0=some v):Ret Try.prog Gn [(Ag false) a0,(Ak false) e0] (V.bool v):=by
 refine Bp Ww (Nat.le_of_ble_eq_true rfl) ?_
 unfold Ef at h
 conv=>whnf
 refine Cells.lit rfl rfl ?_
 conv=>whnf
 refine Cells.lit rfl rfl ?_
 conv=>whnf
 refine CallQ.o V.bool (by first | rfl | simp only [Aa,V.fz,fzL,V.up,upL,Ab,Ac,Ad,slr,List.cons_append,List.nil_append] | simp [Aa,V.fz,fzL,V.up,upL,Ab,Ac,Ad,slr]) h (fun r h=>Pc h) (fun r1 h=> ?_)
 conv=>whnf
 refine Br.ob h (fun p2 h=> ?_) (fun p2 h=> ?_)
 ·conv=>whnf
  refine Cells.lit rfl rfl ?_
  conv=>whnf
  refine Br.yes ?_
  conv=>whnf
  refine Br.yes ?_
  conv=>whnf
  refine Cells.lit rfl rfl ?_
  conv=>whnf
  refine Br.yes ?_
  conv=>whnf
  refine CallQ.o V.bool (by first | rfl | simp only [Aa,V.fz,fzL,V.up,upL,Ab,Ac,Ad,slr,List.cons_append,List.nil_append] | simp [Aa,V.fz,fzL,V.up,upL,Ab,Ac,Ad,slr]) h (fun r h=>Pc h) (fun r3 h=> ?_)
  conv=>whnf
  refine Br.yes ?_
  conv=>whnf
  cases h;exact (by first | rfl | simp only [Ah,Aa,V.fz,fzL,V.up,upL,Ab,Ac,Ad,slr] | simp [Ah,Aa,V.fz,fzL,V.up,upL,Ab,Ac,Ad,slr])
 conv=>whnf
 refine Br.no ?_
 conv=>whnf
 refine Br.no ?_
 conv=>whnf
 refine Br.no ?_
 conv=>whnf
 refine Br.no ?_
 conv=>whnf
 cases h;exact (by first | rfl | simp only [Ah,Aa,V.fz,fzL,V.up,upL,Ab,Ac,Ad,slr] | simp [Ah,Aa,V.fz,fzL,V.up,upL,Ab,Ac,Ad,slr])
end Go.Proofs.Ytmcbocbcpijgeaa.Ax
