/-
 What the functions compute, as functions on plain data, and that the program does compute it; written by program.
-/
import Derived.Test.YtmcbocbcpijgeaaCode
namespace Go.Proofs.Ytmcbocbcpijgeaa.Ax
open Go
set_option maxRecDepth 100000
set_option maxHeartbeats 4000000
noncomputable def Nu (code0:(List Int)):Option Bool:=
 some (decide ((↑code0.length:Int)>(65536:Int)))
theorem Ah6 {code0:(List Int)} {v:Bool} (h:Nu code0=some v):Ret Try.prog Sp [(slr false 1 (V.int IntKind.u8)) code0] (V.bool v):=by
 refine Bp Ajn (Nat.le_of_ble_eq_true rfl) ?_
 unfold Nu at h
 conv=>whnf
 refine Len.map ?_
 conv=>whnf
 cases h;exact (by first | rfl | simp only [Ah,Aa,V.fz,fzL,V.up,upL,Ab,Ac,Ad,slr] | simp [Ah,Aa,V.fz,fzL,V.up,upL,Ab,Ac,Ad,slr])
noncomputable def Cd (a0:List Int) (b0:List Int):Int→Option (Int ⊕ (Unit ⊕ Unit)):=fun x5=>
 if x5<(↑a0.length:Int) then
 ask ((0:Int)≤x5∧x5<(↑a0.length:Int)) <|
 ask ((0:Int)≤x5∧x5<(↑b0.length:Int)) <|
 if nth a0 x5.toNat≠nth b0 x5.toNat then
 some (.inr (.inl ()))
 else
 ask (InI (x5+(1:Int))) <|
 some (.inl (x5+(1:Int)))
 else
 some (.inr (.inr ()))
def Lp (a0:List Int) (b0:List Int):Int→St:=fun s=>[(5,A.val (Af s)),(0,A.val ((slr false 1 Af) (a0))),(1,A.val ((slr false 1 Af) (b0)))]
def Rv (_a0:List Int) (_b0:List Int):(Unit ⊕ Unit)→Tgt
 | (.inl _s)=>(Ex.ret,[4],[(4,A.val (V.bool (false)))])
 | (.inr _s)=>((Ex.exit 0),[],[])
theorem Aag {a0:List Int} {b0:List Int} (x5:Int) (o:Int ⊕ (Unit ⊕ Unit)) (h:Cd a0 b0 x5=some o):vc Try.prog R1 (Eu [5,0,1] (Lp a0 b0) (Rv a0 b0) o) (Lp a0 b0 x5):=by
 unfold Cd at h
 try dsimp only at h
 conv=>whnf
 refine Len.map ?_
 conv=>whnf
 refine Br.od h (fun p2 h=> ?_) (fun p2 h=> ?_)
 ·conv=>whnf
  refine Len.map ?_
  conv=>whnf
  refine Ask.o h fun p3 h=> ?_
  conv=>whnf
  refine Elem.o (by first | omega | (simp [Ba] at * <;> omega)) ?_
  conv=>whnf
  refine Len.map ?_
  conv=>whnf
  refine Ask.o h fun p4 h=> ?_
  conv=>whnf
  refine Elem.o (by first | omega | (simp [Ba] at * <;> omega)) ?_
  conv=>whnf
  refine Br.on h (fun p5 h=> ?_) (fun p5 h=> ?_)
  ·conv=>whnf
   cases h;exact ⟨rfl,rfl⟩
  conv=>whnf
  refine Ask.o h fun p6 h=> ?_
  conv=>whnf
  cases h;exact ⟨rfl,rfl⟩
 conv=>whnf
 cases h;exact ⟨rfl,rfl⟩
noncomputable def F5 (a0:(List Int)) (b0:(List Int)):Option Bool:=
 if (↑a0.length:Int)≠(↑b0.length:Int) then
 some false
 else
 (Ay (Cd a0 b0) (0:Int)).bind fun t=>match t with
 | (.inl _)=>(some false)
 | (.inr _)=>(some true)
theorem Wk {a0:(List Int)} {b0:(List Int)} {v:Bool} (h:F5 a0 b0=some v):Ret Try.prog Mq [(slr false 1 Af) a0,(slr false 1 Af) b0] (V.bool v):=by
 refine Bp Agv (Nat.le_of_ble_eq_true rfl) ?_
 unfold F5 at h
 conv=>whnf
 refine Len.map ?_
 conv=>whnf
 refine Len.map ?_
 conv=>whnf
 refine Br.on h (fun p1 h=> ?_) (fun p1 h=> ?_)
 ·conv=>whnf
  cases h;exact (by first | rfl | simp only [Ah,Aa,V.fz,fzL,V.up,upL,Ab,Ac,Ad,slr] | simp [Ah,Aa,V.fz,fzL,V.up,upL,Ab,Ac,Ad,slr])
 conv=>whnf
 refine LoopQ.o [5,0,1] (Lp a0 b0) (Rv a0 b0) h (fun s o h=>Aag s o h) (by first | rfl | simp [restrict,look,Aa,V.fz,fzL,V.up,upL,Ab,Ac,Ad,slr]) (by rintro (_ | _)<;>rfl) ?_
 rintro (⟨⟩ | ⟨⟩) h
 ·try dsimp only at h
  conv=>whnf
  cases h;exact (by first | rfl | simp only [Ah,Aa,V.fz,fzL,V.up,upL,Ab,Ac,Ad,slr] | simp [Ah,Aa,V.fz,fzL,V.up,upL,Ab,Ac,Ad,slr])
 try dsimp only at h
 conv=>whnf
 cases h;exact (by first | rfl | simp only [Ah,Aa,V.fz,fzL,V.up,upL,Ab,Ac,Ad,slr] | simp [Ah,Aa,V.fz,fzL,V.up,upL,Ab,Ac,Ad,slr])
noncomputable def D6 (list0:List Int) (n0:Int):Int→Option (Int ⊕ (Unit ⊕ Unit)):=fun x9=>
 if x9<(↑list0.length:Int) then
 ask ((0:Int)≤x9∧x9<(↑list0.length:Int)) <|
 if nth list0 x9.toNat<(0:Int) then
 some (.inr (.inl ()))
 else
 if nth list0 x9.toNat≥n0 then
 some (.inr (.inl ()))
 else
 ask (InI (x9+(1:Int))) <|
 some (.inl (x9+(1:Int)))
 else
 some (.inr (.inr ()))
def Kv (list0:List Int) (n0:Int):Int→St:=fun s=>[(9,A.val (Af s)),(8,A.val (Af ((↑list0.length:Int)))),(7,A.val ((slr false 1 Af) (list0))),(1,A.val (Af (n0)))]
def Pg (_list0:List Int) (_n0:Int):(Unit ⊕ Unit)→Tgt
 | (.inl _s)=>(Ex.ret,[4],[(4,A.val (V.bool (false)))])
 | (.inr _s)=>((Ex.exit 0),[],[])
theorem Yz {list0:List Int} {n0:Int} (x9:Int) (o:Int ⊕ (Unit ⊕ Unit)) (h:D6 list0 n0 x9=some o):vc Try.prog Px (Eu [9,8,7,1] (Kv list0 n0) (Pg list0 n0) o) (Kv list0 n0 x9):=by
 unfold D6 at h
 try dsimp only at h
 conv=>whnf
 refine Br.od h (fun p1 h=> ?_) (fun p1 h=> ?_)
 ·conv=>whnf
  refine Len.map ?_
  conv=>whnf
  refine Ask.o h fun p2 h=> ?_
  conv=>whnf
  refine Elem.o (by first | omega | (simp [Ba] at * <;> omega)) ?_
  conv=>whnf
  refine Br.od h (fun p3 h=> ?_) (fun p3 h=> ?_)
  ·conv=>whnf
   refine Br.yes ?_
   conv=>whnf
   refine Br.yes ?_
   conv=>whnf
   refine Br.yes ?_
   conv=>whnf
   refine Br.yes ?_
   conv=>whnf
   cases h;exact ⟨rfl,rfl⟩
  conv=>whnf
  refine Br.no ?_
  conv=>whnf
  refine Br.no ?_
  conv=>whnf
  refine Br.no ?_
  conv=>whnf
  refine Br.od h (fun p4 h=> ?_) (fun p4 h=> ?_)
  ·conv=>whnf
   cases h;exact ⟨rfl,rfl⟩
  conv=>whnf
  refine Ask.o h fun p5 h=> ?_
  conv=>whnf
  cases h;exact ⟨rfl,rfl⟩
 conv=>whnf
 cases h;exact ⟨rfl,rfl⟩
noncomputable def F9 (list0:(List Int)) (n0:Int):Option Bool:=
 (Ay (D6 list0 n0) (0:Int)).bind fun t=>match t with
 | (.inl _)=>(some false)
 | (.inr _)=>(some true)
theorem Vb {list0:(List Int)} {n0:Int} {v:Bool} (h:F9 list0 n0=some v):Ret Try.prog K0 [(slr false 1 Af) list0,Af n0] (V.bool v):=by
 refine Bp Adt (Nat.le_of_ble_eq_true rfl) ?_
 unfold F9 at h
 conv=>whnf
 refine Len.map ?_
 conv=>whnf
 refine LoopQ.o [9,8,7,1] (Kv list0 n0) (Pg list0 n0) h (fun s o h=>Yz s o h) (by first | rfl | simp [restrict,look,Aa,V.fz,fzL,V.up,upL,Ab,Ac,Ad,slr]) (by rintro (_ | _)<;>rfl) ?_
 rintro (⟨⟩ | ⟨⟩) h
 ·try dsimp only at h
  conv=>whnf
  cases h;exact (by first | rfl | simp only [Ah,Aa,V.fz,fzL,V.up,upL,Ab,Ac,Ad,slr] | simp [Ah,Aa,V.fz,fzL,V.up,upL,Ab,Ac,Ad,slr])
 try dsimp only at h
 conv=>whnf
 cases h;exact (by first | rfl | simp only [Ah,Aa,V.fz,fzL,V.up,upL,Ab,Ac,Ad,slr] | simp [Ah,Aa,V.fz,fzL,V.up,upL,Ab,Ac,Ad,slr])
noncomputable def C1 (t0:List Int) (n0:Int):Int→Option (Int ⊕ (Unit ⊕ Unit)):=fun x9=>
 if x9<(↑t0.length:Int) then
 ask ((0:Int)≤x9∧x9<(↑t0.length:Int)) <|
 if nth t0 x9.toNat≥n0 then
 some (.inr (.inl ()))
 else
 ask (InI (x9+(1:Int))) <|
 some (.inl (x9+(1:Int)))
 else
 some (.inr (.inr ()))
def H6 (t0:List Int) (n0:Int):Int→St:=fun s=>[(9,A.val (Af s)),(8,A.val (Af ((↑t0.length:Int)))),(7,A.val ((slr false 1 Af) (t0))),(1,A.val (Af (n0)))]
def Mg (_t0:List Int) (_n0:Int):(Unit ⊕ Unit)→Tgt
 | (.inl _s)=>(Ex.ret,[4],[(4,A.val (V.bool (false)))])
 | (.inr _s)=>((Ex.exit 0),[],[])
theorem T6 {t0:List Int} {n0:Int} (x9:Int) (o:Int ⊕ (Unit ⊕ Unit)) (h:C1 t0 n0 x9=some o):vc Try.prog Mh (Eu [9,8,7,1] (H6 t0 n0) (Mg t0 n0) o) (H6 t0 n0 x9):=by
 unfold C1 at h
 try dsimp only at h
 conv=>whnf
 refine Br.od h (fun p1 h=> ?_) (fun p1 h=> ?_)
 ·conv=>whnf
  refine Len.map ?_
  conv=>whnf
  refine Ask.o h fun p2 h=> ?_
  conv=>whnf
  refine Elem.o (by first | omega | (simp [Ba] at * <;> omega)) ?_
  conv=>whnf
  refine Br.od h (fun p3 h=> ?_) (fun p3 h=> ?_)
  ·conv=>whnf
   cases h;exact ⟨rfl,rfl⟩
  conv=>whnf
  refine Ask.o h fun p4 h=> ?_
  conv=>whnf
  cases h;exact ⟨rfl,rfl⟩
 conv=>whnf
 cases h;exact ⟨rfl,rfl⟩
noncomputable def D4 (t0:(List Int)) (n0:Int):Option Bool:=
 (Ay (C1 t0 n0) (0:Int)).bind fun t=>match t with
 | (.inl _)=>(some false)
 | (.inr _)=>(some true)
theorem P5 {t0:(List Int)} {n0:Int} {v:Bool} (h:D4 t0 n0=some v):Ret Try.prog Hl [(slr false 1 Af) t0,Af n0] (V.bool v):=by
 refine Bp Yl (Nat.le_of_ble_eq_true rfl) ?_
 unfold D4 at h
 conv=>whnf
 refine Len.map ?_
 conv=>whnf
 refine LoopQ.o [9,8,7,1] (H6 t0 n0) (Mg t0 n0) h (fun s o h=>T6 s o h) (by first | rfl | simp [restrict,look,Aa,V.fz,fzL,V.up,upL,Ab,Ac,Ad,slr]) (by rintro (_ | _)<;>rfl) ?_
 rintro (⟨⟩ | ⟨⟩) h
 ·try dsimp only at h
  conv=>whnf
  cases h;exact (by first | rfl | simp only [Ah,Aa,V.fz,fzL,V.up,upL,Ab,Ac,Ad,slr] | simp [Ah,Aa,V.fz,fzL,V.up,upL,Ab,Ac,Ad,slr])
 try dsimp only at h
 conv=>whnf
 cases h;exact (by first | rfl | simp only [Ah,Aa,V.fz,fzL,V.up,upL,Ab,Ac,Ad,slr] | simp [Ah,Aa,V.fz,fzL,V.up,upL,Ab,Ac,Ad,slr])
noncomputable def E2 (a0:SAlgebra) (t0:List Int) (_values0:List Int) (x8:Int) (x7:List Int):(Int×Int)→Option ((Int×Int) ⊕ Int):=fun (x12,x11)=>
 if x12<(nth a0.Ops ((-1:Int)-nth t0 x8.toNat).toNat).Arity then
 ask (InI (x11*a0.Size)) <|
 ask (InI ((↑x7.length:Int)-(1:Int))) <|
 ask (InI ((↑x7.length:Int)-(1:Int)-x12)) <|
 ask ((0:Int)≤(↑x7.length:Int)-(1:Int)-x12∧(↑x7.length:Int)-(1:Int)-x12<(↑x7.length:Int)) <|
 ask (InI (x11*a0.Size+nth x7 ((↑x7.length:Int)-(1:Int)-x12).toNat)) <|
 ask (InI (x12+(1:Int))) <|
 some (.inl (x12+(1:Int),x11*a0.Size+nth x7 ((↑x7.length:Int)-(1:Int)-x12).toNat))
 else
 some (.inr x11)
def Mx (a0:SAlgebra) (t0:List Int) (values0:List Int) (x8:Int) (x7:List Int):(Int×Int)→St:=fun s=>[(12,A.val (Af s.1)),(11,A.val (Af s.2)),(10,A.val ((rP true (Bb false)) (nth a0.Ops ((-1:Int)-nth t0 x8.toNat).toNat))),(8,A.val (Af (x8))),(7,A.val ((slr true 1 Af) (x7))),(3,A.val ((rP true (Ag false)) (a0))),(1,A.val ((slr false 1 Af) (t0))),(2,A.val ((slr false 1 Af) (values0)))]
def S3 (a0:SAlgebra) (t0:List Int) (values0:List Int) (x8:Int) (x7:List Int):Int→Tgt
 | s=>((Ex.exit 2),[11,10,8,7,3,1,2],[(11,A.val (Af s)),(10,A.val ((rP true (Bb false)) (nth a0.Ops ((-1:Int)-nth t0 x8.toNat).toNat))),(8,A.val (Af (x8))),(7,A.val ((slr true 1 Af) (x7))),(3,A.val ((rP true (Ag false)) (a0))),(1,A.val ((slr false 1 Af) (t0))),(2,A.val ((slr false 1 Af) (values0)))])
theorem Acg {a0:SAlgebra} {t0:List Int} {values0:List Int} {x8:Int} {x7:List Int} (s:(Int×Int)) (o:(Int×Int) ⊕ Int) (h:E2 a0 t0 values0 x8 x7 s=some o):vc Try.prog Sn (Eu [12,11,10,8,7,3,1,2] (Mx a0 t0 values0 x8 x7) (S3 a0 t0 values0 x8 x7) o) (Mx a0 t0 values0 x8 x7 s):=by
 obtain ⟨x12,x11⟩:=s
 unfold E2 at h
 try dsimp only at h
 conv=>whnf
 refine Cells.lit rfl rfl ?_
 conv=>whnf
 refine Br.od h (fun p10 h=> ?_) (fun p10 h=> ?_)
 ·conv=>whnf
  refine Cells.lit rfl rfl ?_
  conv=>whnf
  refine Ask.o h fun p11 h=> ?_
  conv=>whnf
  refine Len.map ?_
  conv=>whnf
  refine Ask.o h fun p12 h=> ?_
  conv=>whnf
  refine Ask.o h fun p13 h=> ?_
  conv=>whnf
  refine Len.map ?_
  conv=>whnf
  refine Ask.o h fun p14 h=> ?_
  conv=>whnf
  refine Cells.one (fun _=>⟨rfl,rfl⟩) (by first | omega | (simp [Ba] at * <;> omega)) ?_
  conv=>whnf
  refine Ask.o h fun p15 h=> ?_
  conv=>whnf
  refine Ask.o h fun p16 h=> ?_
  conv=>whnf
  cases h;exact ⟨rfl,rfl⟩
 conv=>whnf
 cases h;exact ⟨rfl,rfl⟩
noncomputable def Fr (a0:SAlgebra) (t0:List Int) (values0:List Int):(Int×(List Int))→Option ((Int×(List Int)) ⊕ (List Int)):=fun (x8,x7)=>
 if x8≥(0:Int) then
 ask ((0:Int)≤x8∧x8<(↑t0.length:Int)) <|
 if nth t0 x8.toNat≥(0:Int) then
 ask ((0:Int)≤nth t0 x8.toNat∧nth t0 x8.toNat<(↑values0.length:Int)) <|
 ask ((x7).length+([nth values0 (nth t0 x8.toNat).toNat]).length≤LIM) <|
 ask (InI (x8-(1:Int))) <|
 some (.inl (x8-(1:Int),x7++[nth values0 (nth t0 x8.toNat).toNat]))
 else
 ask (InI ((-1:Int)-nth t0 x8.toNat)) <|
 ask ((0:Int)≤(-1:Int)-nth t0 x8.toNat∧(-1:Int)-nth t0 x8.toNat<(↑a0.Ops.length:Int)) <|
 (Ay (E2 a0 t0 values0 x8 x7) ((0:Int),(0:Int))).bind fun q17_11=>
 ask ((0:Int)≤q17_11∧q17_11<(↑(nth a0.Ops ((-1:Int)-nth t0 x8.toNat).toNat).Table.length:Int)) <|
 ask (InI ((↑x7.length:Int)-(nth a0.Ops ((-1:Int)-nth t0 x8.toNat).toNat).Arity)) <|
 ask (0≤(0:Int)∧(0:Int)≤(↑x7.length:Int)-(nth a0.Ops ((-1:Int)-nth t0 x8.toNat).toNat).Arity∧(↑x7.length:Int)-(nth a0.Ops ((-1:Int)-nth t0 x8.toNat).toNat).Arity≤((x7.length:Nat):Int)) <|
 ask ((List.take (((↑x7.length:Int)-(nth a0.Ops ((-1:Int)-nth t0 x8.toNat).toNat).Arity).toNat-Int.toNat (0:Int)) (List.drop (Int.toNat (0:Int)) x7)).length+([nth (nth a0.Ops ((-1:Int)-nth t0 x8.toNat).toNat).Table q17_11.toNat]).length≤LIM) <|
 ask (InI (x8-(1:Int))) <|
 some (.inl (x8-(1:Int),List.take (((↑x7.length:Int)-(nth a0.Ops ((-1:Int)-nth t0 x8.toNat).toNat).Arity).toNat-Int.toNat (0:Int)) (List.drop (Int.toNat (0:Int)) x7)++[nth (nth a0.Ops ((-1:Int)-nth t0 x8.toNat).toNat).Table q17_11.toNat]))
 else
 some (.inr x7)
def Ni (a0:SAlgebra) (t0:List Int) (values0:List Int):(Int×(List Int))→St:=fun s=>[(8,A.val (Af s.1)),(7,A.val ((slr true 1 Af) s.2)),(3,A.val ((rP true (Ag false)) (a0))),(1,A.val ((slr false 1 Af) (t0))),(2,A.val ((slr false 1 Af) (values0)))]
def Ss (_a0:SAlgebra) (_t0:List Int) (_values0:List Int):(List Int)→Tgt
 | s=>((Ex.exit 0),[7],[(7,A.val ((slr true 1 Af) s))])
theorem Acu {a0:SAlgebra} {t0:List Int} {values0:List Int} (s:(Int×(List Int))) (o:(Int×(List Int)) ⊕ (List Int)) (h:Fr a0 t0 values0 s=some o):vc Try.prog Tf (Eu [8,7,3,1,2] (Ni a0 t0 values0) (Ss a0 t0 values0) o) (Ni a0 t0 values0 s):=by
 obtain ⟨x8,x7⟩:=s
 unfold Fr at h
 try dsimp only at h
 conv=>whnf
 refine Br.od h (fun p3 h=> ?_) (fun p3 h=> ?_)
 ·conv=>whnf
  refine Len.map ?_
  conv=>whnf
  refine Ask.o h fun p4 h=> ?_
  conv=>whnf
  refine Elem.o (by first | omega | (simp [Ba] at * <;> omega)) ?_
  conv=>whnf
  refine Br.od h (fun p5 h=> ?_) (fun p5 h=> ?_)
  ·conv=>whnf
   refine Len.map ?_
   conv=>whnf
   refine Ask.o h fun p6 h=> ?_
   conv=>whnf
   refine Elem.o (by first | omega | (simp [Ba] at * <;> omega)) ?_
   conv=>whnf
   refine BslQ.o Af ([nth values0 (nth t0 x8.toNat).toNat]) (by exact fun _=>⟨rfl,rfl⟩) (by first | rfl | (simp only [Aa,V.fz,fzL,V.up,upL,Ab,Ac,Ad,slr,List.cons_append,List.nil_append];done) | simp [Aa,V.fz,fzL,V.up,upL,Ab,Ac,Ad,slr]) ?_
   conv=>whnf
   refine NoOwn.o (fun _=>rfl) ?_
   conv=>whnf
   refine AppQ.o (m:=1) Af (by exact fun _=>⟨rfl,rfl⟩) (x7) ([nth values0 (nth t0 x8.toNat).toNat]) (by first | rfl | simp only [Aa,V.fz,fzL,V.up,upL,Ab,Ac,Ad,slr,List.cons_append,List.nil_append] | simp [Aa,V.fz,fzL,V.up,upL,Ab,Ac,Ad,slr]) (by first | rfl | simp only [Aa,V.fz,fzL,V.up,upL,Ab,Ac,Ad,slr,List.cons_append,List.nil_append] | simp [Aa,V.fz,fzL,V.up,upL,Ab,Ac,Ad,slr]) h fun h=> ?_
   conv=>whnf
   refine Ask.o h fun p7 h=> ?_
   conv=>whnf
   cases h;exact ⟨rfl,rfl⟩
  conv=>whnf
  refine Cells.lit rfl rfl ?_
  conv=>whnf
  refine Ask.o h fun p8 h=> ?_
  conv=>whnf
  refine Len.map ?_
  conv=>whnf
  refine Ask.o h fun p9 h=> ?_
  conv=>whnf
  refine Elem.o (by first | omega | (simp [Ba] at * <;> omega)) ?_
  conv=>whnf
  refine SetKids.lit rfl ?_
  conv=>whnf
  refine LoopQ.o [12,11,10,8,7,3,1,2] (Mx a0 t0 values0 x8 x7) (S3 a0 t0 values0 x8 x7) h (fun s o h=>Acg s o h) (by first | rfl | simp [restrict,look,Aa,V.fz,fzL,V.up,upL,Ab,Ac,Ad,slr]) (fun _=>rfl) ?_
  rintro q17_11 h
  try dsimp only at h
  conv=>whnf
  refine Cells.lit rfl rfl ?_
  conv=>whnf
  refine Cells.lit rfl rfl ?_
  conv=>whnf
  refine Len.map ?_
  conv=>whnf
  refine Ask.o h fun p18 h=> ?_
  conv=>whnf
  refine Elem.o (by first | omega | (simp [Ba] at * <;> omega)) ?_
  conv=>whnf
  obtain ⟨p21,h⟩:=C7.1 h
  obtain ⟨p22,h⟩:=C7.1 h
  obtain ⟨p23,h⟩:=C7.1 h
  obtain ⟨p24,h⟩:=C7.1 h
  refine Two.mk ⟨?_,?_⟩
  ·conv=>whnf
   refine SameQ.mk ⟨rfl,?_⟩
   conv=>whnf
   refine SameQ.mk ⟨rfl,?_⟩
   conv=>whnf
   refine SameQ.mk ⟨rfl,?_⟩
   conv=>whnf
   refine Cells.lit rfl rfl ?_
   conv=>whnf
   refine SameQ.mk ⟨rfl,?_⟩
   conv=>whnf
   refine SameQ.mk ⟨rfl,?_⟩
   conv=>whnf
   refine Cells.lit rfl rfl ?_
   conv=>whnf
   refine SameQ.mk ⟨rfl,?_⟩
   conv=>whnf
   refine SameQ.mk ⟨rfl,?_⟩
   conv=>whnf
   refine Len.map ?_
   conv=>whnf
   refine Ask.mk p18 ?_
   conv=>whnf
   refine Elem.o (by first | omega | (simp [Ba] at * <;> omega)) ?_
   conv=>whnf
   refine SameQ.mk ⟨rfl,?_⟩
   conv=>whnf
   refine SameQ.mk ⟨rfl,?_⟩
   conv=>whnf
   refine Len.map ?_
   conv=>whnf
   refine Two.mk ⟨?_,?_⟩
   ·conv=>whnf
    refine SameQ.mk ⟨rfl,?_⟩
    conv=>whnf
    refine SameQ.mk ⟨rfl,?_⟩
    conv=>whnf
    refine Cells.lit rfl rfl ?_
    conv=>whnf
    refine SameQ.mk ⟨rfl,?_⟩
    conv=>whnf
    refine SameQ.mk ⟨rfl,?_⟩
    conv=>whnf
    refine Cells.lit rfl rfl ?_
    conv=>whnf
    refine SameQ.mk ⟨rfl,?_⟩
    conv=>whnf
    refine SameQ.mk ⟨rfl,?_⟩
    conv=>whnf
    refine Len.map ?_
    conv=>whnf
    refine Ask.mk p18 ?_
    conv=>whnf
    refine Elem.o (by first | omega | (simp [Ba] at * <;> omega)) ?_
    conv=>whnf
    refine SameQ.mk ⟨rfl,?_⟩
    conv=>whnf
    refine SameQ.mk ⟨rfl,?_⟩
    conv=>whnf
    refine Ask.mk p21 ?_
    conv=>whnf
    refine Two.mk ⟨?_,?_⟩
    ·conv=>whnf
     refine SameQ.mk ⟨rfl,?_⟩
     conv=>whnf
     refine SameQ.mk ⟨rfl,?_⟩
     conv=>whnf
     refine Cells.lit rfl rfl ?_
     conv=>whnf
     refine SameQ.mk ⟨rfl,?_⟩
     conv=>whnf
     refine SameQ.mk ⟨rfl,?_⟩
     conv=>whnf
     refine Len.map ?_
     conv=>whnf
     refine Ask.mk p18 ?_
     conv=>whnf
     refine Elem.o (by first | omega | (simp [Ba] at * <;> omega)) ?_
     conv=>whnf
     refine SameQ.mk ⟨rfl,?_⟩
     conv=>whnf
     refine SameQ.mk ⟨rfl,?_⟩
     conv=>whnf
     refine SlcQ.o Af (C7.2 ⟨p22,h⟩) fun h=> ?_
     conv=>whnf
     refine SameQ.mk ⟨rfl,?_⟩
     conv=>whnf
     refine Cells.lit rfl rfl ?_
     conv=>whnf
     refine SameQ.mk ⟨rfl,?_⟩
     conv=>whnf
     refine SameQ.mk ⟨rfl,?_⟩
     conv=>whnf
     refine Len.map ?_
     conv=>whnf
     refine Ask.mk p18 ?_
     conv=>whnf
     refine Elem.o (by first | omega | (simp [Ba] at * <;> omega)) ?_
     conv=>whnf
     refine SameQ.mk ⟨rfl,?_⟩
     conv=>whnf
     refine SameQ.mk ⟨rfl,?_⟩
     conv=>whnf
     refine BslQ.o Af ([nth (nth a0.Ops ((-1:Int)-nth t0 x8.toNat).toNat).Table q17_11.toNat]) (by exact fun _=>⟨rfl,rfl⟩) (by first | rfl | (simp only [Aa,V.fz,fzL,V.up,upL,Ab,Ac,Ad,slr,List.cons_append,List.nil_append];done) | simp [Aa,V.fz,fzL,V.up,upL,Ab,Ac,Ad,slr]) ?_
     conv=>whnf
     refine NoOwn.o (fun _=>rfl) ?_
     conv=>whnf
     refine AppQ.o (m:=1) Af (by exact fun _=>⟨rfl,rfl⟩) (List.take (((↑x7.length:Int)-(nth a0.Ops ((-1:Int)-nth t0 x8.toNat).toNat).Arity).toNat-Int.toNat (0:Int)) (List.drop (Int.toNat (0:Int)) x7)) ([nth (nth a0.Ops ((-1:Int)-nth t0 x8.toNat).toNat).Table q17_11.toNat]) (by first | rfl | simp only [Aa,V.fz,fzL,V.up,upL,Ab,Ac,Ad,slr,List.cons_append,List.nil_append] | simp [Aa,V.fz,fzL,V.up,upL,Ab,Ac,Ad,slr]) (by first | rfl | simp only [Aa,V.fz,fzL,V.up,upL,Ab,Ac,Ad,slr,List.cons_append,List.nil_append] | simp [Aa,V.fz,fzL,V.up,upL,Ab,Ac,Ad,slr]) (C7.2 ⟨p23,h⟩) fun h=> ?_
     conv=>whnf
     refine Ask.mk p24 ?_
     conv=>whnf
     cases h;exact ⟨rfl,rfl⟩
    conv=>whnf
    refine SameQ.mk ⟨rfl,?_⟩
    conv=>whnf
    refine SameQ.mk ⟨rfl,?_⟩
    conv=>whnf
    refine Cells.lit rfl rfl ?_
    conv=>whnf
    refine SameQ.mk ⟨rfl,?_⟩
    conv=>whnf
    refine SameQ.mk ⟨rfl,?_⟩
    conv=>whnf
    refine Len.map ?_
    conv=>whnf
    refine Ask.mk p18 ?_
    conv=>whnf
    refine Elem.o (by first | omega | (simp [Ba] at * <;> omega)) ?_
    conv=>whnf
    refine SameQ.mk ⟨rfl,?_⟩
    conv=>whnf
    refine SameQ.mk ⟨rfl,?_⟩
    conv=>whnf
    refine BslQ.o Af ([nth (nth a0.Ops ((-1:Int)-nth t0 x8.toNat).toNat).Table q17_11.toNat]) (by exact fun _=>⟨rfl,rfl⟩) (by first | rfl | (simp only [Aa,V.fz,fzL,V.up,upL,Ab,Ac,Ad,slr,List.cons_append,List.nil_append];done) | simp [Aa,V.fz,fzL,V.up,upL,Ab,Ac,Ad,slr]) ?_
    conv=>whnf
    refine SameQ.mk ⟨rfl,?_⟩
    conv=>whnf
    refine SlcQ.o Af (C7.2 ⟨p22,h⟩) fun h=> ?_
    conv=>whnf
    refine NoOwn.o (fun _=>rfl) ?_
    conv=>whnf
    refine AppQ.o (m:=1) Af (by exact fun _=>⟨rfl,rfl⟩) (List.take (((↑x7.length:Int)-(nth a0.Ops ((-1:Int)-nth t0 x8.toNat).toNat).Arity).toNat-Int.toNat (0:Int)) (List.drop (Int.toNat (0:Int)) x7)) ([nth (nth a0.Ops ((-1:Int)-nth t0 x8.toNat).toNat).Table q17_11.toNat]) (by first | rfl | simp only [Aa,V.fz,fzL,V.up,upL,Ab,Ac,Ad,slr,List.cons_append,List.nil_append] | simp [Aa,V.fz,fzL,V.up,upL,Ab,Ac,Ad,slr]) (by first | rfl | simp only [Aa,V.fz,fzL,V.up,upL,Ab,Ac,Ad,slr,List.cons_append,List.nil_append] | simp [Aa,V.fz,fzL,V.up,upL,Ab,Ac,Ad,slr]) (C7.2 ⟨p23,h⟩) fun h=> ?_
    conv=>whnf
    refine Ask.mk p24 ?_
    conv=>whnf
    cases h;exact ⟨rfl,rfl⟩
   conv=>whnf
   refine SameQ.mk ⟨rfl,?_⟩
   conv=>whnf
   refine SameQ.mk ⟨rfl,?_⟩
   conv=>whnf
   refine Cells.lit rfl rfl ?_
   conv=>whnf
   refine SameQ.mk ⟨rfl,?_⟩
   conv=>whnf
   refine SameQ.mk ⟨rfl,?_⟩
   conv=>whnf
   refine Cells.lit rfl rfl ?_
   conv=>whnf
   refine SameQ.mk ⟨rfl,?_⟩
   conv=>whnf
   refine SameQ.mk ⟨rfl,?_⟩
   conv=>whnf
   refine Len.map ?_
   conv=>whnf
   refine Ask.mk p18 ?_
   conv=>whnf
   refine Elem.o (by first | omega | (simp [Ba] at * <;> omega)) ?_
   conv=>whnf
   refine SameQ.mk ⟨rfl,?_⟩
   conv=>whnf
   refine SameQ.mk ⟨rfl,?_⟩
   conv=>whnf
   refine BslQ.o Af ([nth (nth a0.Ops ((-1:Int)-nth t0 x8.toNat).toNat).Table q17_11.toNat]) (by exact fun _=>⟨rfl,rfl⟩) (by first | rfl | (simp only [Aa,V.fz,fzL,V.up,upL,Ab,Ac,Ad,slr,List.cons_append,List.nil_append];done) | simp [Aa,V.fz,fzL,V.up,upL,Ab,Ac,Ad,slr]) ?_
   conv=>whnf
   refine SameQ.mk ⟨rfl,?_⟩
   conv=>whnf
   refine SameQ.mk ⟨rfl,?_⟩
   conv=>whnf
   refine Cells.lit rfl rfl ?_
   conv=>whnf
   refine SameQ.mk ⟨rfl,?_⟩
   conv=>whnf
   refine Ask.mk p21 ?_
   conv=>whnf
   refine SameQ.mk ⟨rfl,?_⟩
   conv=>whnf
   refine SlcQ.o Af (C7.2 ⟨p22,h⟩) fun h=> ?_
   conv=>whnf
   refine NoOwn.o (fun _=>rfl) ?_
   conv=>whnf
   refine AppQ.o (m:=1) Af (by exact fun _=>⟨rfl,rfl⟩) (List.take (((↑x7.length:Int)-(nth a0.Ops ((-1:Int)-nth t0 x8.toNat).toNat).Arity).toNat-Int.toNat (0:Int)) (List.drop (Int.toNat (0:Int)) x7)) ([nth (nth a0.Ops ((-1:Int)-nth t0 x8.toNat).toNat).Table q17_11.toNat]) (by first | rfl | simp only [Aa,V.fz,fzL,V.up,upL,Ab,Ac,Ad,slr,List.cons_append,List.nil_append] | simp [Aa,V.fz,fzL,V.up,upL,Ab,Ac,Ad,slr]) (by first | rfl | simp only [Aa,V.fz,fzL,V.up,upL,Ab,Ac,Ad,slr,List.cons_append,List.nil_append] | simp [Aa,V.fz,fzL,V.up,upL,Ab,Ac,Ad,slr]) (C7.2 ⟨p23,h⟩) fun h=> ?_
   conv=>whnf
   refine Ask.mk p24 ?_
   conv=>whnf
   cases h;exact ⟨rfl,rfl⟩
  conv=>whnf
  refine SameQ.mk ⟨rfl,?_⟩
  conv=>whnf
  refine SameQ.mk ⟨rfl,?_⟩
  conv=>whnf
  refine SameQ.mk ⟨rfl,?_⟩
  conv=>whnf
  refine Cells.lit rfl rfl ?_
  conv=>whnf
  refine SameQ.mk ⟨rfl,?_⟩
  conv=>whnf
  refine SameQ.mk ⟨rfl,?_⟩
  conv=>whnf
  refine Cells.lit rfl rfl ?_
  conv=>whnf
  refine SameQ.mk ⟨rfl,?_⟩
  conv=>whnf
  refine SameQ.mk ⟨rfl,?_⟩
  conv=>whnf
  refine Len.map ?_
  conv=>whnf
  refine Ask.mk p18 ?_
  conv=>whnf
  refine Elem.o (by first | omega | (simp [Ba] at * <;> omega)) ?_
  conv=>whnf
  refine SameQ.mk ⟨rfl,?_⟩
  conv=>whnf
  refine SameQ.mk ⟨rfl,?_⟩
  conv=>whnf
  refine BslQ.o Af ([nth (nth a0.Ops ((-1:Int)-nth t0 x8.toNat).toNat).Table q17_11.toNat]) (by exact fun _=>⟨rfl,rfl⟩) (by first | rfl | (simp only [Aa,V.fz,fzL,V.up,upL,Ab,Ac,Ad,slr,List.cons_append,List.nil_append];done) | simp [Aa,V.fz,fzL,V.up,upL,Ab,Ac,Ad,slr]) ?_
  conv=>whnf
  refine SameQ.mk ⟨rfl,?_⟩
  conv=>whnf
  refine SameQ.mk ⟨rfl,?_⟩
  conv=>whnf
  refine SameQ.mk ⟨rfl,?_⟩
  conv=>whnf
  refine Cells.lit rfl rfl ?_
  conv=>whnf
  refine SameQ.mk ⟨rfl,?_⟩
  conv=>whnf
  refine Len.map ?_
  conv=>whnf
  refine SameQ.mk ⟨rfl,?_⟩
  conv=>whnf
  refine SameQ.mk ⟨rfl,?_⟩
  conv=>whnf
  refine Cells.lit rfl rfl ?_
  conv=>whnf
  refine SameQ.mk ⟨rfl,?_⟩
  conv=>whnf
  refine Ask.mk p21 ?_
  conv=>whnf
  refine SameQ.mk ⟨rfl,?_⟩
  conv=>whnf
  refine SlcQ.o Af (C7.2 ⟨p22,h⟩) fun h=> ?_
  conv=>whnf
  refine NoOwn.o (fun _=>rfl) ?_
  conv=>whnf
  refine AppQ.o (m:=1) Af (by exact fun _=>⟨rfl,rfl⟩) (List.take (((↑x7.length:Int)-(nth a0.Ops ((-1:Int)-nth t0 x8.toNat).toNat).Arity).toNat-Int.toNat (0:Int)) (List.drop (Int.toNat (0:Int)) x7)) ([nth (nth a0.Ops ((-1:Int)-nth t0 x8.toNat).toNat).Table q17_11.toNat]) (by first | rfl | simp only [Aa,V.fz,fzL,V.up,upL,Ab,Ac,Ad,slr,List.cons_append,List.nil_append] | simp [Aa,V.fz,fzL,V.up,upL,Ab,Ac,Ad,slr]) (by first | rfl | simp only [Aa,V.fz,fzL,V.up,upL,Ab,Ac,Ad,slr,List.cons_append,List.nil_append] | simp [Aa,V.fz,fzL,V.up,upL,Ab,Ac,Ad,slr]) (C7.2 ⟨p23,h⟩) fun h=> ?_
  conv=>whnf
  refine Ask.mk p24 ?_
  conv=>whnf
  cases h;exact ⟨rfl,rfl⟩
 conv=>whnf
 cases h;exact ⟨rfl,rfl⟩
noncomputable def Et (a0:SAlgebra) (t0:(List Int)) (values0:(List Int)):Option Int:=
 ask ((0:Int)≤(↑t0.length:Int)∧(↑t0.length:Int)≤(↑LIM:Int)) <|
 ask (InI ((↑t0.length:Int)-(1:Int))) <|
 (Ay (Fr a0 t0 values0) ((↑t0.length:Int)-(1:Int),A8 Int)).bind fun q25_7=>
 ask ((0:Int)≤(0:Int)∧(0:Int)<(↑q25_7.length:Int)) <|
 some (nth q25_7 (Int.toNat (0:Int)))
theorem I2 {a0:SAlgebra} {t0:(List Int)} {values0:(List Int)} {v:Int} (h:Et a0 t0 values0=some v):Ret Try.prog I4 [(Ag false) a0,(slr false 1 Af) t0,(slr false 1 Af) values0] (Af v):=by
 refine Bp Aj3 (Nat.le_of_ble_eq_true rfl) ?_
 unfold Et at h
 conv=>whnf
 refine Len.map ?_
 conv=>whnf
 refine Ask.o h fun p1 h=> ?_
 conv=>whnf
 refine Len.map ?_
 conv=>whnf
 refine Ask.o h fun p2 h=> ?_
 conv=>whnf
 refine LoopQ.o [8,7,3,1,2] (Ni a0 t0 values0) (Ss a0 t0 values0) h (fun s o h=>Acu s o h) (by first | rfl | simp [restrict,look,Aa,V.fz,fzL,V.up,upL,Ab,Ac,Ad,slr]) (fun _=>rfl) ?_
 rintro q25_7 h
 try dsimp only at h
 conv=>whnf
 refine Len.map ?_
 conv=>whnf
 refine Ask.o h fun p26 h=> ?_
 conv=>whnf
 refine Cells.one (fun _=>⟨rfl,rfl⟩) (by first | omega | (simp [Ba] at * <;> omega)) ?_
 conv=>whnf
 cases h;exact (by first | rfl | simp only [Ah,Aa,V.fz,fzL,V.up,upL,Ab,Ac,Ad,slr] | simp [Ah,Aa,V.fz,fzL,V.up,upL,Ab,Ac,Ad,slr])
noncomputable def Ds (x0:Int) (a0:Int) (b0:Int):Option Bool:=
 if x0≥a0 then
 some (decide (x0≤b0))
 else
 some false
theorem Lj {x0:Int} {a0:Int} {b0:Int} {v:Bool} (h:Ds x0 a0 b0=some v):Ret Try.prog Gv [Af x0,Af a0,Af b0] (V.bool v):=by
 refine Bp Aj5 (Nat.le_of_ble_eq_true rfl) ?_
 unfold Ds at h
 conv=>whnf
 refine Br.od h (fun p1 h=> ?_) (fun p1 h=> ?_)
 ·conv=>whnf
  refine Br.yes ?_
  conv=>whnf
  refine Br.yes ?_
  conv=>whnf
  refine Br.yes ?_
  conv=>whnf
  cases h;exact (by first | rfl | simp only [Ah,Aa,V.fz,fzL,V.up,upL,Ab,Ac,Ad,slr] | simp [Ah,Aa,V.fz,fzL,V.up,upL,Ab,Ac,Ad,slr])
 conv=>whnf
 refine Br.no ?_
 conv=>whnf
 refine Br.no ?_
 conv=>whnf
 refine Br.no ?_
 conv=>whnf
 cases h;exact (by first | rfl | simp only [Ah,Aa,V.fz,fzL,V.up,upL,Ab,Ac,Ad,slr] | simp [Ah,Aa,V.fz,fzL,V.up,upL,Ab,Ac,Ad,slr])
noncomputable def Dz (t0:List Int) (n0:Int):Int→Option (Int ⊕ (Unit ⊕ Unit)):=fun x5=>
 if x5<(↑t0.length:Int) then
 ask ((0:Int)≤x5∧x5<(↑t0.length:Int)) <|
 if nth t0 x5.toNat≥n0 then
 some (.inr (.inl ()))
 else
 ask (InI (x5+(1:Int))) <|
 some (.inl (x5+(1:Int)))
 else
 some (.inr (.inr ()))
def Kh (t0:List Int) (n0:Int):Int→St:=fun s=>[(5,A.val (Af s)),(0,A.val ((slr false 1 Af) (t0))),(1,A.val (Af (n0)))]
def Pz (_t0:List Int) (_n0:Int):(Unit ⊕ Unit)→Tgt
 | (.inl _s)=>(Ex.ret,[4],[(4,A.val (V.bool (false)))])
 | (.inr _s)=>((Ex.exit 0),[],[])
theorem Yo {t0:List Int} {n0:Int} (x5:Int) (o:Int ⊕ (Unit ⊕ Unit)) (h:Dz t0 n0 x5=some o):vc Try.prog Pp (Eu [5,0,1] (Kh t0 n0) (Pz t0 n0) o) (Kh t0 n0 x5):=by
 unfold Dz at h
 try dsimp only at h
 conv=>whnf
 refine Len.map ?_
 conv=>whnf
 refine Br.od h (fun p1 h=> ?_) (fun p1 h=> ?_)
 ·conv=>whnf
  refine Len.map ?_
  conv=>whnf
  refine Ask.o h fun p2 h=> ?_
  conv=>whnf
  refine Elem.o (by first | omega | (simp [Ba] at * <;> omega)) ?_
  conv=>whnf
  refine Br.od h (fun p3 h=> ?_) (fun p3 h=> ?_)
  ·conv=>whnf
   cases h;exact ⟨rfl,rfl⟩
  conv=>whnf
  refine Ask.o h fun p4 h=> ?_
  conv=>whnf
  cases h;exact ⟨rfl,rfl⟩
 conv=>whnf
 cases h;exact ⟨rfl,rfl⟩
noncomputable def Gc (t0:(List Int)) (n0:Int):Option Bool:=
 (Ay (Dz t0 n0) (0:Int)).bind fun t=>match t with
 | (.inl _)=>(some false)
 | (.inr _)=>(some true)
theorem Aef {t0:(List Int)} {n0:Int} {v:Bool} (h:Gc t0 n0=some v):Ret Try.prog Ov [(slr false 1 Af) t0,Af n0] (V.bool v):=by
 refine Bp Ad1 (Nat.le_of_ble_eq_true rfl) ?_
 unfold Gc at h
 conv=>whnf
 refine LoopQ.o [5,0,1] (Kh t0 n0) (Pz t0 n0) h (fun s o h=>Yo s o h) (by first | rfl | simp [restrict,look,Aa,V.fz,fzL,V.up,upL,Ab,Ac,Ad,slr]) (by rintro (_ | _)<;>rfl) ?_
 rintro (⟨⟩ | ⟨⟩) h
 ·try dsimp only at h
  conv=>whnf
  cases h;exact (by first | rfl | simp only [Ah,Aa,V.fz,fzL,V.up,upL,Ab,Ac,Ad,slr] | simp [Ah,Aa,V.fz,fzL,V.up,upL,Ab,Ac,Ad,slr])
 try dsimp only at h
 conv=>whnf
 cases h;exact (by first | rfl | simp only [Ah,Aa,V.fz,fzL,V.up,upL,Ab,Ac,Ad,slr] | simp [Ah,Aa,V.fz,fzL,V.up,upL,Ab,Ac,Ad,slr])
noncomputable def Cc (n0:Int):(Int×Int)→Option ((Int×Int) ⊕ Int):=fun (x5,x1)=>
 if x1>(0:Int) then
 ask (InI (x5*n0)) <|
 ask (InI (x1-(1:Int))) <|
 some (.inl (x5*n0,x1-(1:Int)))
 else
 some (.inr x5)
def L2 (n0:Int):(Int×Int)→St:=fun s=>[(5,A.val (Af s.1)),(0,A.val (Af (n0))),(1,A.val (Af s.2))]
def Ru (_n0:Int):Int→Tgt
 | s=>((Ex.exit 0),[5],[(5,A.val (Af s))])
theorem Aaa {n0:Int} (s:(Int×Int)) (o:(Int×Int) ⊕ Int) (h:Cc n0 s=some o):vc Try.prog Ry (Eu [5,0,1] (L2 n0) (Ru n0) o) (L2 n0 s):=by
 obtain ⟨x5,x1⟩:=s
 unfold Cc at h
 try dsimp only at h
 conv=>whnf
 refine Br.od h (fun p1 h=> ?_) (fun p1 h=> ?_)
 ·conv=>whnf
  refine Ask.o h fun p2 h=> ?_
  conv=>whnf
  refine Ask.o h fun p3 h=> ?_
  conv=>whnf
  cases h;exact ⟨rfl,rfl⟩
 conv=>whnf
 cases h;exact ⟨rfl,rfl⟩
noncomputable def Ct (n0:Int) (k0:Int):Option Int:=
 (Ay (Cc n0) ((1:Int),k0)).bind fun q4_5=>
 some q4_5
theorem Rh {n0:Int} {k0:Int} {v:Int} (h:Ct n0 k0=some v):Ret Try.prog Jm [Af n0,Af k0] (Af v):=by
 refine Bp Agd (Nat.le_of_ble_eq_true rfl) ?_
 unfold Ct at h
 conv=>whnf
 refine LoopQ.o [5,0,1] (L2 n0) (Ru n0) h (fun s o h=>Aaa s o h) (by first | rfl | simp [restrict,look,Aa,V.fz,fzL,V.up,upL,Ab,Ac,Ad,slr]) (fun _=>rfl) ?_
 rintro q4_5 h
 try dsimp only at h
 conv=>whnf
 cases h;exact (by first | rfl | simp only [Ah,Aa,V.fz,fzL,V.up,upL,Ab,Ac,Ad,slr] | simp [Ah,Aa,V.fz,fzL,V.up,upL,Ab,Ac,Ad,slr])
noncomputable def Kj (n0:Int):(Int×(List Int)×Int)→Option ((Int×(List Int)×Int) ⊕ (List Int)):=fun (x8,x7,x0)=>
 if x8≥(0:Int) then
 ask (n0≠(0:Int)) <|
 ask ((0:Int)≤x8∧x8<(↑x7.length:Int)) <|
 ask (n0≠(0:Int)∧InI (x0.tdiv n0)) <|
 ask (InI (x8-(1:Int))) <|
 some (.inl (x8-(1:Int),x7.set x8.toNat (x0.tmod n0),x0.tdiv n0))
 else
 some (.inr x7)
def Ku (n0:Int):(Int×(List Int)×Int)→St:=fun s=>[(8,A.val (Af s.1)),(7,A.val ((slr true 1 Af) s.2.1)),(0,A.val (Af s.2.2)),(2,A.val (Af (n0)))]
def Qa (_n0:Int):(List Int)→Tgt
 | s=>((Ex.exit 0),[7],[(7,A.val ((slr true 1 Af) s))])
theorem Yc {n0:Int} (s:(Int×(List Int)×Int)) (o:(Int×(List Int)×Int) ⊕ (List Int)) (h:Kj n0 s=some o):vc Try.prog Pv (Eu [8,7,0,2] (Ku n0) (Qa n0) o) (Ku n0 s):=by
 obtain ⟨x8,x7,x0⟩:=s
 unfold Kj at h
 try dsimp only at h
 conv=>whnf
 refine Br.od h (fun p3 h=> ?_) (fun p3 h=> ?_)
 ·conv=>whnf
  refine Ask.o h fun p4 h=> ?_
  conv=>whnf
  refine Len.map ?_
  conv=>whnf
  refine Ask.o h fun p5 h=> ?_
  conv=>whnf
  refine SetKids.one (fun _=>⟨rfl,rfl⟩) (x0.tmod n0) (by first | rfl | simp only [Aa,V.fz,fzL,V.up,upL,Ab,Ac,Ad,slr,List.cons_append,List.nil_append] | simp [Aa,V.fz,fzL,V.up,upL,Ab,Ac,Ad,slr]) (by first | omega | (simp [Ba] at * <;> omega)) ?_
  conv=>whnf
  refine Ask.o h fun p6 h=> ?_
  conv=>whnf
  refine Ask.o h fun p7 h=> ?_
  conv=>whnf
  cases h;exact ⟨rfl,rfl⟩
 conv=>whnf
 cases h;exact ⟨rfl,rfl⟩
noncomputable def Cn (i0:Int) (k0:Int) (n0:Int):Option (List Int):=
 ask ((0:Int)≤k0∧k0≤(↑LIM:Int)) <|
 ask (InI (k0-(1:Int))) <|
 (Ay (Kj n0) (k0-(1:Int),List.replicate k0.toNat (0:Int),i0)).bind fun q8_7=>
 some q8_7
theorem O8 {i0:Int} {k0:Int} {n0:Int} {v:(List Int)} (h:Cn i0 k0 n0=some v):Ret Try.prog K7 [Af i0,Af k0,Af n0] ((slr true 1 Af) v):=by
 refine Bp Aew (Nat.le_of_ble_eq_true rfl) ?_
 unfold Cn at h
 conv=>whnf
 refine Ask.o h fun p1 h=> ?_
 conv=>whnf
 refine MkQ.o Af ((0:Int)) rfl ?_
 conv=>whnf
 refine Ask.o h fun p2 h=> ?_
 conv=>whnf
 refine LoopQ.o [8,7,0,2] (Ku n0) (Qa n0) h (fun s o h=>Yc s o h) (by first | rfl | simp [restrict,look,Aa,V.fz,fzL,V.up,upL,Ab,Ac,Ad,slr]) (fun _=>rfl) ?_
 rintro q8_7 h
 try dsimp only at h
 conv=>whnf
 cases h;exact (by first | rfl | simp only [Ah,Aa,V.fz,fzL,V.up,upL,Ab,Ac,Ad,slr] | simp [Ah,Aa,V.fz,fzL,V.up,upL,Ab,Ac,Ad,slr])
end Go.Proofs.Ytmcbocbcpijgeaa.Ax
