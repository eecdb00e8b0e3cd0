/-
 What the functions compute, as functions on plain data, and that the program does compute it; written by program.
-/
import Derived.Test.YtjcekpmojnnmbaaGreatCode
import Derived.Test.YtjcekpmojnnmbaaGreatG1
import Derived.Test.YtjcekpmojnnmbaaGreatG2
namespace Go.Proofs.YtjcekpmojnnmbaaGreat.Ax
open Go
set_option maxRecDepth 100000
set_option maxHeartbeats 4000000
noncomputable def Cf (s0:List Int) (t0:List Int):Int→Option (Int ⊕ (Int ⊕ Unit)):=fun x5=>
 ((if x5<(↑s0.length:Int) then
 if x5<(↑t0.length:Int) then
 some (.inl ())
 else
 some (.inr ())
 else
 some (.inr ()):Option (Unit ⊕ Unit))).bind fun t=>match t with
 | (.inl _)=>(ask ((0:Int)≤x5∧x5<(↑s0.length:Int)) <|
 ask ((0:Int)≤x5∧x5<(↑t0.length:Int)) <|
 if nth s0 x5.toNat≠nth t0 x5.toNat then
 ask ((0:Int)≤x5∧x5<(↑s0.length:Int)) <|
 ask ((0:Int)≤x5∧x5<(↑t0.length:Int)) <|
 if nth s0 x5.toNat<nth t0 x5.toNat then
 some (.inr (.inl (-1:Int)))
 else
 some (.inr (.inl (1:Int)))
 else
 ask (InI (x5+(1:Int))) <|
 some (.inl (x5+(1:Int))))
 | (.inr _)=>(some (.inr (.inr ())))
def Hi (s0:List Int) (t0:List Int):Int→St:=fun s=>[(5,A.val (Ae s)),(0,A.val ((slr false 1 Ae) (s0))),(1,A.val ((slr false 1 Ae) (t0)))]
def Lo (s0:List Int) (t0:List Int):(Int ⊕ Unit)→Tgt
 | (.inl s)=>(Ex.ret,[4],[(4,A.val (Ae s))])
 | (.inr _s)=>((Ex.exit 0),[0,1],[(0,A.val ((slr false 1 Ae) (s0))),(1,A.val ((slr false 1 Ae) (t0)))])
theorem Vf {s0:List Int} {t0:List Int} (x5:Int) (o:Int ⊕ (Int ⊕ Unit)) (h:Cf s0 t0 x5=some o):vc Tryz.prog Mg (Dc [5,0,1] (Hi s0 t0) (Lo s0 t0) o) (Hi s0 t0 x5):=by
 unfold Cf at h
 try dsimp only at h
 conv=>whnf
 refine CutQ.o (fun t:(Unit ⊕ Unit)=>match t with | (.inl s)=>(Ex.normal,[5,0,1],[(5,A.val (Ae (x5))),(0,A.val ((slr false 1 Ae) (s0))),(1,A.val ((slr false 1 Ae) (t0)))]) | (.inr s)=>((Ex.exit 0),[0,1],[(0,A.val ((slr false 1 Ae) (s0))),(1,A.val ((slr false 1 Ae) (t0)))])) h ?_ ?_
 ·intro t h
  conv=>whnf
  refine Len.map ?_
  conv=>whnf
  refine Br.od h (fun p1 h=> ?_) (fun p1 h=> ?_)
  ·conv=>whnf
   refine Br.yes ?_
   conv=>whnf
   refine Br.yes ?_
   conv=>whnf
   refine Len.map ?_
   conv=>whnf
   refine Br.yes ?_
   conv=>whnf
   refine Br.yes ?_
   conv=>whnf
   refine Br.od h (fun p2 h=> ?_) (fun p2 h=> ?_)
   ·conv=>whnf
    cases h;exact ⟨rfl,rfl⟩
   conv=>whnf
   cases h;exact ⟨rfl,rfl⟩
  conv=>whnf
  refine Br.no ?_
  conv=>whnf
  refine Br.no ?_
  conv=>whnf
  refine Br.no ?_
  conv=>whnf
  refine Br.no ?_
  conv=>whnf
  refine Br.no ?_
  conv=>whnf
  cases h;exact ⟨rfl,rfl⟩
 rintro (⟨⟩ | ⟨⟩) h
 ·try dsimp only at h
  conv=>whnf
  refine Len.map ?_
  conv=>whnf
  refine Ask.o h fun p4 h=> ?_
  conv=>whnf
  refine Elem.o (by first | omega | (simp [Be] at * <;> omega)) ?_
  conv=>whnf
  refine Len.map ?_
  conv=>whnf
  refine Ask.o h fun p5 h=> ?_
  conv=>whnf
  refine Elem.o (by first | omega | (simp [Be] at * <;> omega)) ?_
  conv=>whnf
  refine Br.on h (fun p6 h=> ?_) (fun p6 h=> ?_)
  ·conv=>whnf
   refine Len.map ?_
   conv=>whnf
   refine Ask.o h fun p7 h=> ?_
   conv=>whnf
   refine Elem.o (by first | omega | (simp [Be] at * <;> omega)) ?_
   conv=>whnf
   refine Len.map ?_
   conv=>whnf
   refine Ask.o h fun p8 h=> ?_
   conv=>whnf
   refine Elem.o (by first | omega | (simp [Be] at * <;> omega)) ?_
   conv=>whnf
   refine Br.od h (fun p9 h=> ?_) (fun p9 h=> ?_)
   ·conv=>whnf
    cases h;exact ⟨rfl,rfl⟩
   conv=>whnf
   cases h;exact ⟨rfl,rfl⟩
  conv=>whnf
  refine Ask.o h fun p10 h=> ?_
  conv=>whnf
  cases h;exact ⟨rfl,rfl⟩
 try dsimp only at h
 conv=>whnf
 cases h;exact ⟨rfl,rfl⟩
noncomputable def C1 (s0:(List Int)) (t0:(List Int)):Option Int:=
 (Ao (Cf s0 t0) (0:Int)).bind fun t=>match t with
 | (.inl q11_4)=>(some q11_4)
 | (.inr _)=>(if (↑s0.length:Int)<(↑t0.length:Int) then
 some (-1:Int)
 else
 if (↑s0.length:Int)>(↑t0.length:Int) then
 some (1:Int)
 else
 some (0:Int))
theorem Pf {s0:(List Int)} {t0:(List Int)} {v:Int} (h:C1 s0 t0=some v):Ret Tryz.prog E5 [(slr false 1 Ae) s0,(slr false 1 Ae) t0] (Ae v):=by
 refine A5 Zx (Nat.le_of_ble_eq_true rfl) ?_
 unfold C1 at h
 conv=>whnf
 refine LoopQ.o [5,0,1] (Hi s0 t0) (Lo s0 t0) h (fun s o h=>Vf s o h) (by first | rfl | simp [restrict,look,Aa,V.fz,fzL,V.up,upL,Ab,Ac,Ad,slr]) (by rintro (_ | _)<;>rfl) ?_
 rintro (q11_4 | ⟨⟩) h
 ·try dsimp only at h
  conv=>whnf
  cases h;exact (by first | rfl | simp only [Ah,Aa,V.fz,fzL,V.up,upL,Ab,Ac,Ad,slr] | simp [Ah,Aa,V.fz,fzL,V.up,upL,Ab,Ac,Ad,slr])
 try dsimp only at h
 conv=>whnf
 refine Len.map ?_
 conv=>whnf
 refine Len.map ?_
 conv=>whnf
 refine Br.od h (fun p12 h=> ?_) (fun p12 h=> ?_)
 ·conv=>whnf
  cases h;exact (by first | rfl | simp only [Ah,Aa,V.fz,fzL,V.up,upL,Ab,Ac,Ad,slr] | simp [Ah,Aa,V.fz,fzL,V.up,upL,Ab,Ac,Ad,slr])
 conv=>whnf
 refine Len.map ?_
 conv=>whnf
 refine Len.map ?_
 conv=>whnf
 refine Br.od h (fun p13 h=> ?_) (fun p13 h=> ?_)
 ·conv=>whnf
  cases h;exact (by first | rfl | simp only [Ah,Aa,V.fz,fzL,V.up,upL,Ab,Ac,Ad,slr] | simp [Ah,Aa,V.fz,fzL,V.up,upL,Ab,Ac,Ad,slr])
 conv=>whnf
 cases h;exact (by first | rfl | simp only [Ah,Aa,V.fz,fzL,V.up,upL,Ab,Ac,Ad,slr] | simp [Ah,Aa,V.fz,fzL,V.up,upL,Ab,Ac,Ad,slr])
noncomputable def J6 (a0:Int) (b0:Int):Option Int:=
 if a0>b0 then
 some a0
 else
 some b0
theorem Amf {a0:Int} {b0:Int} {v:Int} (h:J6 a0 b0=some v):Ret Tryz.prog Tm [Ae a0,Ae b0] (Ae v):=by
 refine A5 Amh (Nat.le_of_ble_eq_true rfl) ?_
 unfold J6 at h
 conv=>whnf
 refine Br.od h (fun p1 h=> ?_) (fun p1 h=> ?_)
 ·conv=>whnf
  cases h;exact (by first | rfl | simp only [Ah,Aa,V.fz,fzL,V.up,upL,Ab,Ac,Ad,slr] | simp [Ah,Aa,V.fz,fzL,V.up,upL,Ab,Ac,Ad,slr])
 conv=>whnf
 cases h;exact (by first | rfl | simp only [Ah,Aa,V.fz,fzL,V.up,upL,Ab,Ac,Ad,slr] | simp [Ah,Aa,V.fz,fzL,V.up,upL,Ab,Ac,Ad,slr])
noncomputable def Bn (c0:Sl1Cur) (n0:Int):Option (Int×Sl1Cur):=
 if n0≤(1:Int) then
 some ((0:Int),c0)
 else
 (Em (c0)).bind fun (r2,u3)=>
 if n0>(200:Int) then
 ask (InI (r2*(256:Int))) <|
 (Em (u3)).bind fun (r6,u7)=>
 ask (InI (r2*(256:Int)+r6)) <|
 ask (n0≠(0:Int)) <|
 some ((r2*(256:Int)+r6).tmod n0,u7)
 else
 ask (n0≠(0:Int)) <|
 some (r2.tmod n0,u3)
theorem C6 {c0:Sl1Cur} {n0:Int} {v:(Int×Sl1Cur)} (h:Bn c0 n0=some v):Rc Tryz.prog Ca [(rP true (Ak false)) c0,Ae n0] (Ae v.1) 0 ((rP true (Ak false)) v.2):=by
 refine Y7 Acn (Nat.le_of_ble_eq_true rfl) ?_
 unfold Bn at h
 conv=>whnf
 refine Br.od h (fun p1 h=> ?_) (fun p1 h=> ?_)
 ·conv=>whnf
  cases h;exact ⟨(by first | rfl | simp only [Ah,Aa,V.fz,fzL,V.up,upL,Ab,Ac,Ad,slr] | simp [Ah,Aa,V.fz,fzL,V.up,upL,Ab,Ac,Ad,slr]),(by first | rfl | simp only [Ah,Aa,V.fz,fzL,V.up,upL,Ab,Ac,Ad,slr] | simp [Ah,Aa,V.fz,fzL,V.up,upL,Ab,Ac,Ad,slr])⟩
 conv=>whnf
 refine CallQ.io Ae (rP true (Ak false)) (by first | rfl | simp only [Aa,V.fz,fzL,V.up,upL,Ab,Ac,Ad,slr,List.cons_append,List.nil_append] | simp [Aa,V.fz,fzL,V.up,upL,Ab,Ac,Ad,slr]) rfl (fun _=>rfl) (fun _=>⟨rfl,rfl⟩) rfl h (fun r h=>Su h) (fun r2 u3 h=> ?_)
 conv=>whnf
 refine Br.od h (fun p4 h=> ?_) (fun p4 h=> ?_)
 ·conv=>whnf
  refine Ask.o h fun p5 h=> ?_
  conv=>whnf
  refine CallQ.io Ae (rP true (Ak false)) (by first | rfl | simp only [Aa,V.fz,fzL,V.up,upL,Ab,Ac,Ad,slr,List.cons_append,List.nil_append] | simp [Aa,V.fz,fzL,V.up,upL,Ab,Ac,Ad,slr]) rfl (fun _=>rfl) (fun _=>⟨rfl,rfl⟩) rfl h (fun r h=>Su h) (fun r6 u7 h=> ?_)
  conv=>whnf
  refine Ask.o h fun p8 h=> ?_
  conv=>whnf
  refine Ask.o h fun p9 h=> ?_
  conv=>whnf
  cases h;exact ⟨(by first | rfl | simp only [Ah,Aa,V.fz,fzL,V.up,upL,Ab,Ac,Ad,slr] | simp [Ah,Aa,V.fz,fzL,V.up,upL,Ab,Ac,Ad,slr]),(by first | rfl | simp only [Ah,Aa,V.fz,fzL,V.up,upL,Ab,Ac,Ad,slr] | simp [Ah,Aa,V.fz,fzL,V.up,upL,Ab,Ac,Ad,slr])⟩
 conv=>whnf
 refine Ask.o h fun p10 h=> ?_
 conv=>whnf
 cases h;exact ⟨(by first | rfl | simp only [Ah,Aa,V.fz,fzL,V.up,upL,Ab,Ac,Ad,slr] | simp [Ah,Aa,V.fz,fzL,V.up,upL,Ab,Ac,Ad,slr]),(by first | rfl | simp only [Ah,Aa,V.fz,fzL,V.up,upL,Ab,Ac,Ad,slr] | simp [Ah,Aa,V.fz,fzL,V.up,upL,Ab,Ac,Ad,slr])⟩
noncomputable def Dm (r0:SRelation) (t0:List Int):Int→Option (Int ⊕ (Unit ⊕ Unit)):=fun x10=>
 if x10<(↑r0.Tuples.length:Int) then
 ask ((0:Int)≤x10∧x10<(↑r0.Tuples.length:Int)) <|
 (Fy (t0) (nth r0.Tuples x10.toNat)).bind fun r3=>
 if (r3)=true then
 some (.inr (.inl ()))
 else
 ask (InI (x10+(1:Int))) <|
 some (.inl (x10+(1:Int)))
 else
 some (.inr (.inr ()))
def M6 (r0:SRelation) (t0:List Int):Int→St:=fun s=>[(10,A.val (Ae s)),(9,A.val (Ae ((↑r0.Tuples.length:Int)))),(8,A.val ((slr false 1 (slr false 1 Ae)) (r0.Tuples))),(1,A.val ((slr false 1 Ae) (t0)))]
def U7 (_r0:SRelation) (_t0:List Int):(Unit ⊕ Unit)→Tgt
 | (.inl _s)=>(Ex.ret,[4],[(4,A.val (V.bool (true)))])
 | (.inr _s)=>((Ex.exit 0),[],[])
theorem Afu {r0:SRelation} {t0:List Int} (x10:Int) (o:Int ⊕ (Unit ⊕ Unit)) (h:Dm r0 t0 x10=some o):vc Tryz.prog Up (Dc [10,9,8,1] (M6 r0 t0) (U7 r0 t0) o) (M6 r0 t0 x10):=by
 unfold Dm at h
 try dsimp only at h
 conv=>whnf
 refine Br.od h (fun p1 h=> ?_) (fun p1 h=> ?_)
 ·conv=>whnf
  refine Len.map ?_
  conv=>whnf
  refine Ask.o h fun p2 h=> ?_
  conv=>whnf
  refine Elem.o (by first | omega | (simp [Be] at * <;> omega)) ?_
  conv=>whnf
  refine CallQ.o V.bool (by first | rfl | simp only [Aa,V.fz,fzL,V.up,upL,Ab,Ac,Ad,slr,List.cons_append,List.nil_append] | simp [Aa,V.fz,fzL,V.up,upL,Ab,Ac,Ad,slr]) h (fun r h=>Wi h) (fun r3 h=> ?_)
  conv=>whnf
  refine Br.ob h (fun p4 h=> ?_) (fun p4 h=> ?_)
  ·conv=>whnf
   cases h;exact ⟨rfl,rfl⟩
  conv=>whnf
  refine Ask.o h fun p5 h=> ?_
  conv=>whnf
  cases h;exact ⟨rfl,rfl⟩
 conv=>whnf
 cases h;exact ⟨rfl,rfl⟩
noncomputable def Hw (r0:SRelation) (t0:(List Int)):Option Bool:=
 (Ao (Dm r0 t0) (0:Int)).bind fun t=>match t with
 | (.inl _)=>(some true)
 | (.inr _)=>(some false)
theorem Aly {r0:SRelation} {t0:(List Int)} {v:Bool} (h:Hw r0 t0=some v):Ret Tryz.prog Ts [(Ai false) r0,(slr false 1 Ae) t0] (V.bool v):=by
 refine A5 Alv (Nat.le_of_ble_eq_true rfl) ?_
 unfold Hw at h
 conv=>whnf
 refine Cells.lit rfl rfl ?_
 conv=>whnf
 refine Len.map ?_
 conv=>whnf
 refine LoopQ.o [10,9,8,1] (M6 r0 t0) (U7 r0 t0) h (fun s o h=>Afu s o h) (by first | rfl | simp [restrict,look,Aa,V.fz,fzL,V.up,upL,Ab,Ac,Ad,slr]) (by rintro (_ | _)<;>rfl) ?_
 rintro (⟨⟩ | ⟨⟩) h
 ·try dsimp only at h
  conv=>whnf
  cases h;exact (by first | rfl | simp only [Ah,Aa,V.fz,fzL,V.up,upL,Ab,Ac,Ad,slr] | simp [Ah,Aa,V.fz,fzL,V.up,upL,Ab,Ac,Ad,slr])
 try dsimp only at h
 conv=>whnf
 cases h;exact (by first | rfl | simp only [Ah,Aa,V.fz,fzL,V.up,upL,Ab,Ac,Ad,slr] | simp [Ah,Aa,V.fz,fzL,V.up,upL,Ab,Ac,Ad,slr])
noncomputable def F6:Option (List SOp):=
 (G9 ((2:Int)) (fun w_0 w_1 w_2=>Jt w_0 w_1 w_2)).bind fun r1=>
 (G9 ((2:Int)) (fun w_0 w_1 w_2=>Gw w_0 w_1 w_2)).bind fun r2=>
 some ([{ Arity:=(2:Int),Table:=[(0:Int),(0:Int),(0:Int),(1:Int)] },{ Arity:=(2:Int),Table:=[(0:Int),(1:Int),(1:Int),(1:Int)] },r1,r2])
theorem Ac4 {v:(List SOp)} (h:F6=some v):Ret Tryz.prog Lq [] ((slr true 2 (Co true)) v):=by
 refine A5 Abt (Nat.le_of_ble_eq_true rfl) ?_
 unfold F6 at h
 conv=>whnf
 refine CallQ.o (Co true) (by first | rfl | simp only [Aa,V.fz,fzL,V.up,upL,Ab,Ac,Ad,slr,List.cons_append,List.nil_append] | simp [Aa,V.fz,fzL,V.up,upL,Ab,Ac,Ad,slr]) h (fun r h=>Yr (f_value0:=Gx) (c_value0:=[]) (fun w_0 w_1 w_2 v h=>Ret.cast (by first | rfl | simp only [Aa,V.fz,fzL,V.up,upL,Ab,Ac,Ad,slr,List.cons_append,List.nil_append] | simp [Aa,V.fz,fzL,V.up,upL,Ab,Ac,Ad,slr]) (Zd h)) h) (fun r1 h=> ?_)
 conv=>whnf
 refine SetKids.lit rfl ?_
 conv=>whnf
 refine CallQ.o (Co true) (by first | rfl | simp only [Aa,V.fz,fzL,V.up,upL,Ab,Ac,Ad,slr,List.cons_append,List.nil_append] | simp [Aa,V.fz,fzL,V.up,upL,Ab,Ac,Ad,slr]) h (fun r h=>Yr (f_value0:=Gt) (c_value0:=[]) (fun w_0 w_1 w_2 v h=>Ret.cast (by first | rfl | simp only [Aa,V.fz,fzL,V.up,upL,Ab,Ac,Ad,slr,List.cons_append,List.nil_append] | simp [Aa,V.fz,fzL,V.up,upL,Ab,Ac,Ad,slr]) (Z0 h)) h) (fun r2 h=> ?_)
 conv=>whnf
 refine SetKids.lit rfl ?_
 conv=>whnf
 refine BslQ.o Ae ([(0:Int),(0:Int),(0:Int),(1:Int)]) (by exact fun _=>⟨rfl,rfl⟩) (by first | rfl | (simp only [Aa,V.fz,fzL,V.up,upL,Ab,Ac,Ad,slr,List.cons_append,List.nil_append];done) | simp [Aa,V.fz,fzL,V.up,upL,Ab,Ac,Ad,slr]) ?_
 conv=>whnf
 refine BslQ.o Ae ([(0:Int),(1:Int),(1:Int),(1:Int)]) (by exact fun _=>⟨rfl,rfl⟩) (by first | rfl | (simp only [Aa,V.fz,fzL,V.up,upL,Ab,Ac,Ad,slr,List.cons_append,List.nil_append];done) | simp [Aa,V.fz,fzL,V.up,upL,Ab,Ac,Ad,slr]) ?_
 conv=>whnf
 refine Cells.lit rfl rfl ?_
 conv=>whnf
 refine Cells.lit rfl rfl ?_
 conv=>whnf
 refine BslQ.o (Co true) ([{ Arity:=(2:Int),Table:=[(0:Int),(0:Int),(0:Int),(1:Int)] },{ Arity:=(2:Int),Table:=[(0:Int),(1:Int),(1:Int),(1:Int)] },r1,r2]) (by exact fun _=>⟨rfl,rfl⟩) (by first | rfl | (simp only [Aa,V.fz,fzL,V.up,upL,Ab,Ac,Ad,slr,List.cons_append,List.nil_append];done) | simp [Aa,V.fz,fzL,V.up,upL,Ab,Ac,Ad,slr]) ?_
 conv=>whnf
 cases h;exact (by first | rfl | simp only [Ah,Aa,V.fz,fzL,V.up,upL,Ab,Ac,Ad,slr] | simp [Ah,Aa,V.fz,fzL,V.up,upL,Ab,Ac,Ad,slr])
noncomputable def K7 (f0:SOp) (n0:Int):Option Bool:=
 if f0.Arity≥(0:Int) then
 if f0.Arity≤(3:Int) then
 (Ek (n0) (f0.Arity)).bind fun r3=>
 if (↑f0.Table.length:Int)=r3 then
 (Gl (f0.Table) (n0)).bind fun r5=>
 some r5
 else
 some false
 else
 some false
 else
 some false
theorem Af8 {f0:SOp} {n0:Int} {v:Bool} (h:K7 f0 n0=some v):Ret Tryz.prog Sm [(Co false) f0,Ae n0] (V.bool v):=by
 refine A5 Art (Nat.le_of_ble_eq_true rfl) ?_
 unfold K7 at h
 conv=>whnf
 refine Cells.lit rfl rfl ?_
 conv=>whnf
 refine Br.od h (fun p1 h=> ?_) (fun p1 h=> ?_)
 ·conv=>whnf
  refine Br.yes ?_
  conv=>whnf
  refine Cells.lit rfl rfl ?_
  conv=>whnf
  refine Br.yes ?_
  conv=>whnf
  refine Br.yes ?_
  conv=>whnf
  refine Br.od h (fun p2 h=> ?_) (fun p2 h=> ?_)
  ·conv=>whnf
   refine Br.yes ?_
   conv=>whnf
   refine Cells.lit rfl rfl ?_
   conv=>whnf
   refine Br.yes ?_
   conv=>whnf
   refine Len.map ?_
   conv=>whnf
   refine Br.yes ?_
   conv=>whnf
   refine Br.yes ?_
   conv=>whnf
   refine Br.yes ?_
   conv=>whnf
   refine Cells.lit rfl rfl ?_
   conv=>whnf
   refine Br.yes ?_
   conv=>whnf
   refine CallP.o Ae (by first | rfl | simp only [Aa,V.fz,fzL,V.up,upL,Ab,Ac,Ad,slr,List.cons_append,List.nil_append] | simp [Aa,V.fz,fzL,V.up,upL,Ab,Ac,Ad,slr]) h (fun r h=>V3 h) (fun r3 h=> ?_)
   conv=>whnf
   refine Br.yes ?_
   conv=>whnf
   refine Br.yes ?_
   conv=>whnf
   refine Br.oe h (fun p4 h=> ?_) (fun p4 h=> ?_)
   ·conv=>whnf
    refine Br.yes ?_
    conv=>whnf
    refine Cells.lit rfl rfl ?_
    conv=>whnf
    refine Br.yes ?_
    conv=>whnf
    refine Br.yes ?_
    conv=>whnf
    refine CallQ.o V.bool (by first | rfl | simp only [Aa,V.fz,fzL,V.up,upL,Ab,Ac,Ad,slr,List.cons_append,List.nil_append] | simp [Aa,V.fz,fzL,V.up,upL,Ab,Ac,Ad,slr]) h (fun r h=>To h) (fun r5 h=> ?_)
    conv=>whnf
    refine Br.yes ?_
    conv=>whnf
    cases h;exact (by first | rfl | simp only [Ah,Aa,V.fz,fzL,V.up,upL,Ab,Ac,Ad,slr] | simp [Ah,Aa,V.fz,fzL,V.up,upL,Ab,Ac,Ad,slr])
   conv=>whnf
   refine Br.no ?_
   conv=>whnf
   refine Br.no ?_
   conv=>whnf
   refine Br.no ?_
   conv=>whnf
   refine Br.no ?_
   conv=>whnf
   cases h;exact (by first | rfl | simp only [Ah,Aa,V.fz,fzL,V.up,upL,Ab,Ac,Ad,slr] | simp [Ah,Aa,V.fz,fzL,V.up,upL,Ab,Ac,Ad,slr])
  conv=>whnf
  refine Br.no ?_
  conv=>whnf
  refine Br.no ?_
  conv=>whnf
  refine Br.no ?_
  conv=>whnf
  refine Br.no ?_
  conv=>whnf
  refine Br.no ?_
  conv=>whnf
  refine Br.no ?_
  conv=>whnf
  refine Br.no ?_
  conv=>whnf
  refine Br.no ?_
  conv=>whnf
  refine Br.no ?_
  conv=>whnf
  refine Br.no ?_
  conv=>whnf
  refine Br.no ?_
  conv=>whnf
  refine Br.no ?_
  conv=>whnf
  refine Br.no ?_
  conv=>whnf
  cases h;exact (by first | rfl | simp only [Ah,Aa,V.fz,fzL,V.up,upL,Ab,Ac,Ad,slr] | simp [Ah,Aa,V.fz,fzL,V.up,upL,Ab,Ac,Ad,slr])
 conv=>whnf
 refine Br.no ?_
 conv=>whnf
 refine Br.no ?_
 conv=>whnf
 refine Br.no ?_
 conv=>whnf
 refine Br.no ?_
 conv=>whnf
 refine Br.no ?_
 conv=>whnf
 refine Br.no ?_
 conv=>whnf
 refine Br.no ?_
 conv=>whnf
 refine Br.no ?_
 conv=>whnf
 refine Br.no ?_
 conv=>whnf
 refine Br.no ?_
 conv=>whnf
 refine Br.no ?_
 conv=>whnf
 refine Br.no ?_
 conv=>whnf
 refine Br.no ?_
 conv=>whnf
 refine Br.no ?_
 conv=>whnf
 refine Br.no ?_
 conv=>whnf
 refine Br.no ?_
 conv=>whnf
 refine Br.no ?_
 conv=>whnf
 cases h;exact (by first | rfl | simp only [Ah,Aa,V.fz,fzL,V.up,upL,Ab,Ac,Ad,slr] | simp [Ah,Aa,V.fz,fzL,V.up,upL,Ab,Ac,Ad,slr])
noncomputable def Fp (r0:SRelation):(Int×(List (ByteArray×Bool)))→Option ((Int×(List (ByteArray×Bool))) ⊕ (List (ByteArray×Bool))):=fun (x10,x3)=>
 if x10<(↑r0.Tuples.length:Int) then
 ask ((0:Int)≤x10∧x10<(↑r0.Tuples.length:Int)) <|
 (Je (nth r0.Tuples x10.toNat)).bind fun r3=>
 ask (InI (x10+(1:Int))) <|
 some (.inl (x10+(1:Int),Lx x3 r3 true))
 else
 some (.inr x3)
def K0 (r0:SRelation):(Int×(List (ByteArray×Bool)))→St:=fun s=>[(10,A.val (Ae s.1)),(9,A.val (Ae ((↑r0.Tuples.length:Int)))),(8,A.val ((slr false 1 (slr false 1 Ae)) (r0.Tuples))),(3,A.val ((rMp true Lf.bool) s.2))]
def Qc (_r0:SRelation):(List (ByteArray×Bool))→Tgt
 | s=>((Ex.exit 0),[3],[(3,A.val ((rMp true Lf.bool) s))])
theorem Aax {r0:SRelation} (s:(Int×(List (ByteArray×Bool)))) (o:(Int×(List (ByteArray×Bool))) ⊕ (List (ByteArray×Bool))) (h:Fp r0 s=some o):vc Tryz.prog P0 (Dc [10,9,8,3] (K0 r0) (Qc r0) o) (K0 r0 s):=by
 obtain ⟨x10,x3⟩:=s
 unfold Fp at h
 try dsimp only at h
 conv=>whnf
 refine Br.od h (fun p1 h=> ?_) (fun p1 h=> ?_)
 ·conv=>whnf
  refine Len.map ?_
  conv=>whnf
  refine Ask.o h fun p2 h=> ?_
  conv=>whnf
  refine Elem.o (by first | omega | (simp [Be] at * <;> omega)) ?_
  conv=>whnf
  refine CallQ.o V.str (by first | rfl | simp only [Aa,V.fz,fzL,V.up,upL,Ab,Ac,Ad,slr,List.cons_append,List.nil_append] | simp [Aa,V.fz,fzL,V.up,upL,Ab,Ac,Ad,slr]) h (fun r h=>Acv h) (fun r3 h=> ?_)
  conv=>whnf
  refine MsQ.o Lf.bool x3 true (by first | rfl | simp [Au]) rfl ?_
  conv=>whnf
  refine Ask.o h fun p4 h=> ?_
  conv=>whnf
  cases h;exact ⟨rfl,rfl⟩
 conv=>whnf
 cases h;exact ⟨rfl,rfl⟩
noncomputable def Hr (r0:SRelation):Option (List (ByteArray×Bool)):=
 (Ao (Fp r0) ((0:Int),Au (ByteArray×Bool))).bind fun q5_3=>
 some q5_3
theorem Ag3 {r0:SRelation} {v:(List (ByteArray×Bool))} (h:Hr r0=some v):Ret Tryz.prog On [(Ai false) r0] ((rMp true Lf.bool) v):=by
 refine A5 Ahf (Nat.le_of_ble_eq_true rfl) ?_
 unfold Hr at h
 conv=>whnf
 refine Cells.lit rfl rfl ?_
 conv=>whnf
 refine Len.map ?_
 conv=>whnf
 refine LoopQ.o [10,9,8,3] (K0 r0) (Qc r0) h (fun s o h=>Aax s o h) (by first | rfl | simp [restrict,look,Aa,V.fz,fzL,V.up,upL,Ab,Ac,Ad,slr]) (fun _=>rfl) ?_
 rintro q5_3 h
 try dsimp only at h
 conv=>whnf
 cases h;exact (by first | rfl | simp only [Ah,Aa,V.fz,fzL,V.up,upL,Ab,Ac,Ad,slr] | simp [Ah,Aa,V.fz,fzL,V.up,upL,Ab,Ac,Ad,slr])
noncomputable def Bw (n0:Int) (arity0:Int):(Int×SRelation)→Option ((Int×SRelation) ⊕ SRelation):=fun (x6,x5)=>
 (Jl (n0) (arity0)).bind fun r1=>
 if x6<r1 then
 (Ki (n0) (arity0) (x6)).bind fun r3=>
 ask ((x5.Tuples).length+([r3]).length≤LIM) <|
 ask (InI (x6+(1:Int))) <|
 some (.inl (x6+(1:Int),{ Arity:=x5.Arity,Tuples:=x5.Tuples++[r3] }))
 else
 some (.inr x5)
def Lw (n0:Int) (arity0:Int):(Int×SRelation)→St:=fun s=>[(6,A.val (Ae s.1)),(5,A.val ((rP true (Ar)) s.2)),(4,A.val ((rP true (Ar)) ({ Arity:=(0:Int),Tuples:=Au (List Int) }))),(0,A.val (Ae (n0))),(1,A.val (Ae (arity0)))]
def R8 (_n0:Int) (_arity0:Int):SRelation→Tgt
 | s=>((Ex.exit 0),[5,4],[(5,A.val ((rP true (Ar)) s)),(4,A.val ((rP true (Ar)) ({ Arity:=(0:Int),Tuples:=Au (List Int) })))])
theorem Abu {n0:Int} {arity0:Int} (s:(Int×SRelation)) (o:(Int×SRelation) ⊕ SRelation) (h:Bw n0 arity0 s=some o):vc Tryz.prog R0 (Dc [6,5,4,0,1] (Lw n0 arity0) (R8 n0 arity0) o) (Lw n0 arity0 s):=by
 obtain ⟨x6,x5⟩:=s
 unfold Bw at h
 try dsimp only at h
 conv=>whnf
 refine CallQ.o Ae (by first | rfl | simp only [Aa,V.fz,fzL,V.up,upL,Ab,Ac,Ad,slr,List.cons_append,List.nil_append] | simp [Aa,V.fz,fzL,V.up,upL,Ab,Ac,Ad,slr]) h (fun r h=>Ac6 h) (fun r1 h=> ?_)
 conv=>whnf
 refine Br.od h (fun p2 h=> ?_) (fun p2 h=> ?_)
 ·conv=>whnf
  refine Cells.lit rfl rfl ?_
  conv=>whnf
  refine CallP.o (slr false 1 Ae) (by first | rfl | simp only [Aa,V.fz,fzL,V.up,upL,Ab,Ac,Ad,slr,List.cons_append,List.nil_append] | simp [Aa,V.fz,fzL,V.up,upL,Ab,Ac,Ad,slr]) h (fun r h=>Ret.frz (Akn h) (by first | rfl | simp only [V.fz,Ab,slr] | simp [Aa,V.fz,fzL,V.up,upL,Ab,Ac,Ad,slr])) (fun r3 h=> ?_)
  conv=>whnf
  refine BslQ.o (slr false 1 Ae) [r3] (by exact fun _=>⟨rfl,rfl⟩) (by first | rfl | (simp only [Aa,V.fz,fzL,V.up,upL,Ab,Ac,Ad,slr,List.cons_append,List.nil_append];done) | simp [Aa,V.fz,fzL,V.up,upL,Ab,Ac,Ad,slr]) ?_
  conv=>whnf
  refine NoOwn.o (fun _=>rfl) ?_
  conv=>whnf
  refine Kid.lit rfl rfl ?_
  conv=>whnf
  refine Kid.lit rfl rfl ?_
  conv=>whnf
  refine SetKids.lit rfl ?_
  conv=>whnf
  refine AppQ.o (m:=1) (slr false 1 Ae) (by exact fun _=>⟨rfl,rfl⟩) (x5.Tuples) ([r3]) (by first | rfl | simp only [Aa,V.fz,fzL,V.up,upL,Ab,Ac,Ad,slr,List.cons_append,List.nil_append] | simp [Aa,V.fz,fzL,V.up,upL,Ab,Ac,Ad,slr]) (by first | rfl | simp only [Aa,V.fz,fzL,V.up,upL,Ab,Ac,Ad,slr,List.cons_append,List.nil_append] | simp [Aa,V.fz,fzL,V.up,upL,Ab,Ac,Ad,slr]) h fun h=> ?_
  conv=>whnf
  refine SetKids.lit rfl ?_
  conv=>whnf
  refine Ask.o h fun p4 h=> ?_
  conv=>whnf
  cases h;exact ⟨rfl,rfl⟩
 conv=>whnf
 cases h;exact ⟨rfl,rfl⟩
noncomputable def Da (n0:Int) (arity0:Int):Option SRelation:=
 (Ao (Bw n0 arity0) ((0:Int),{ Arity:=arity0,Tuples:=Au (List Int) })).bind fun q5_5=>
 some q5_5
theorem Xm {n0:Int} {arity0:Int} {v:SRelation} (h:Da n0 arity0=some v):Ret Tryz.prog Lk [Ae n0,Ae arity0] ((Ar) v):=by
 refine A5 Aik (Nat.le_of_ble_eq_true rfl) ?_
 unfold Da at h
 conv=>whnf
 refine BslQ.o (slr true 1 Ae) (Au (List Int)) (by exact fun _=>⟨rfl,rfl⟩) (by first | rfl | (simp only [Aa,V.fz,fzL,V.up,upL,Ab,Ac,Ad,slr,List.cons_append,List.nil_append];done) | simp [Aa,V.fz,fzL,V.up,upL,Ab,Ac,Ad,slr]) ?_
 conv=>whnf
 refine SetKids.lit rfl ?_
 conv=>whnf
 refine LoopQ.o [6,5,4,0,1] (Lw n0 arity0) (R8 n0 arity0) h (fun s o h=>Abu s o h) (by first | rfl | simp [restrict,look,Aa,V.fz,fzL,V.up,upL,Ab,Ac,Ad,slr]) (fun _=>rfl) ?_
 rintro q5_5 h
 try dsimp only at h
 conv=>whnf
 refine Cells.lit rfl rfl ?_
 conv=>whnf
 refine SetKids.lit rfl ?_
 conv=>whnf
 cases h;exact (by first | rfl | simp only [Ah,Aa,V.fz,fzL,V.up,upL,Ab,Ac,Ad,slr] | simp [Ah,Aa,V.fz,fzL,V.up,upL,Ab,Ac,Ad,slr])
noncomputable def El (n0:Int) (r0:SRelation):Int→Option (Int ⊕ (Unit ⊕ Unit)):=fun x18=>
 if x18<(↑r0.Tuples.length:Int) then
 ask ((0:Int)≤x18∧x18<(↑r0.Tuples.length:Int)) <|
 if (↑(nth r0.Tuples x18.toNat).length:Int)≠r0.Arity then
 some (.inr (.inl ()))
 else
 (Gl (nth r0.Tuples x18.toNat) (n0)).bind fun r7=>
 if (r7)=true then
 if x18>(0:Int) then
 ask (InI (x18-(1:Int))) <|
 ask ((0:Int)≤x18-(1:Int)∧x18-(1:Int)<(↑r0.Tuples.length:Int)) <|
 (C1 (nth r0.Tuples (x18-(1:Int)).toNat) (nth r0.Tuples x18.toNat)).bind fun r12=>
 if r12≥(0:Int) then
 some (.inr (.inl ()))
 else
 ask (InI (x18+(1:Int))) <|
 some (.inl (x18+(1:Int)))
 else
 ask (InI (x18+(1:Int))) <|
 some (.inl (x18+(1:Int)))
 else
 some (.inr (.inl ()))
 else
 some (.inr (.inr ()))
def I0 (n0:Int) (r0:SRelation):Int→St:=fun s=>[(18,A.val (Ae s)),(17,A.val (Ae ((↑r0.Tuples.length:Int)))),(16,A.val ((slr false 1 (slr false 1 Ae)) (r0.Tuples))),(3,A.val ((rP true (Ai false)) (r0))),(0,A.val (Ae (n0)))]
def Ob (_n0:Int) (_r0:SRelation):(Unit ⊕ Unit)→Tgt
 | (.inl _s)=>(Ex.ret,[4],[(4,A.val (V.bool (false)))])
 | (.inr _s)=>((Ex.exit 0),[],[])
theorem Xr {n0:Int} {r0:SRelation} (x18:Int) (o:Int ⊕ (Unit ⊕ Unit)) (h:El n0 r0 x18=some o):vc Tryz.prog Oa (Dc [18,17,16,3,0] (I0 n0 r0) (Ob n0 r0) o) (I0 n0 r0 x18):=by
 unfold El at h
 try dsimp only at h
 conv=>whnf
 refine Br.od h (fun p4 h=> ?_) (fun p4 h=> ?_)
 ·conv=>whnf
  refine Len.map ?_
  conv=>whnf
  refine Ask.o h fun p5 h=> ?_
  conv=>whnf
  refine Elem.o (by first | omega | (simp [Be] at * <;> omega)) ?_
  conv=>whnf
  refine Len.map ?_
  conv=>whnf
  refine Cells.lit rfl rfl ?_
  conv=>whnf
  refine Br.on h (fun p6 h=> ?_) (fun p6 h=> ?_)
  ·conv=>whnf
   refine Br.yes ?_
   conv=>whnf
   refine Br.yes ?_
   conv=>whnf
   refine Br.yes ?_
   conv=>whnf
   refine Br.yes ?_
   conv=>whnf
   refine Br.yes ?_
   conv=>whnf
   refine Br.yes ?_
   conv=>whnf
   refine Br.yes ?_
   conv=>whnf
   refine Br.yes ?_
   conv=>whnf
   refine Br.yes ?_
   conv=>whnf
   refine Br.yes ?_
   conv=>whnf
   cases h;exact ⟨rfl,rfl⟩
  conv=>whnf
  refine Br.no ?_
  conv=>whnf
  refine Br.no ?_
  conv=>whnf
  refine CallQ.o V.bool (by first | rfl | simp only [Aa,V.fz,fzL,V.up,upL,Ab,Ac,Ad,slr,List.cons_append,List.nil_append] | simp [Aa,V.fz,fzL,V.up,upL,Ab,Ac,Ad,slr]) h (fun r h=>To h) (fun r7 h=> ?_)
  conv=>whnf
  refine Br.no ?_
  conv=>whnf
  refine Br.no ?_
  conv=>whnf
  refine Br.flip ?_
  conv=>whnf
  refine Br.ob h (fun p8 h=> ?_) (fun p8 h=> ?_)
  ·conv=>whnf
   refine Br.no ?_
   conv=>whnf
   refine Br.no ?_
   conv=>whnf
   refine Br.od h (fun p9 h=> ?_) (fun p9 h=> ?_)
   ·conv=>whnf
    refine Br.yes ?_
    conv=>whnf
    refine Cells.lit rfl rfl ?_
    conv=>whnf
    refine Br.yes ?_
    conv=>whnf
    refine Br.yes ?_
    conv=>whnf
    refine Ask.o h fun p10 h=> ?_
    conv=>whnf
    refine Br.yes ?_
    conv=>whnf
    refine Len.map ?_
    conv=>whnf
    refine Ask.o h fun p11 h=> ?_
    conv=>whnf
    refine Elem.o (by first | omega | (simp [Be] at * <;> omega)) ?_
    conv=>whnf
    refine Br.yes ?_
    conv=>whnf
    refine Br.yes ?_
    conv=>whnf
    refine Br.yes ?_
    conv=>whnf
    refine CallQ.o Ae (by first | rfl | simp only [Aa,V.fz,fzL,V.up,upL,Ab,Ac,Ad,slr,List.cons_append,List.nil_append] | simp [Aa,V.fz,fzL,V.up,upL,Ab,Ac,Ad,slr]) h (fun r h=>Pf h) (fun r12 h=> ?_)
    conv=>whnf
    refine Br.yes ?_
    conv=>whnf
    refine Br.no ?_
    conv=>whnf
    refine Br.yes ?_
    conv=>whnf
    refine Br.no ?_
    conv=>whnf
    refine Br.od h (fun p13 h=> ?_) (fun p13 h=> ?_)
    ·conv=>whnf
     cases h;exact ⟨rfl,rfl⟩
    conv=>whnf
    refine Ask.o h fun p14 h=> ?_
    conv=>whnf
    cases h;exact ⟨rfl,rfl⟩
   conv=>whnf
   refine Br.no ?_
   conv=>whnf
   refine Br.no ?_
   conv=>whnf
   refine Br.no ?_
   conv=>whnf
   refine Br.no ?_
   conv=>whnf
   refine Br.no ?_
   conv=>whnf
   refine Br.no ?_
   conv=>whnf
   refine Br.no ?_
   conv=>whnf
   refine Br.no ?_
   conv=>whnf
   refine Br.no ?_
   conv=>whnf
   refine Br.no ?_
   conv=>whnf
   refine Br.no ?_
   conv=>whnf
   refine Br.no ?_
   conv=>whnf
   refine Ask.o h fun p15 h=> ?_
   conv=>whnf
   cases h;exact ⟨rfl,rfl⟩
  conv=>whnf
  refine Br.yes ?_
  conv=>whnf
  refine Br.yes ?_
  conv=>whnf
  refine Br.yes ?_
  conv=>whnf
  refine Br.yes ?_
  conv=>whnf
  refine Br.yes ?_
  conv=>whnf
  cases h;exact ⟨rfl,rfl⟩
 conv=>whnf
 cases h;exact ⟨rfl,rfl⟩
noncomputable def Ep (n0:Int) (r0:SRelation):Option Bool:=
 ((if r0.Arity<(1:Int) then
 some (.inl ())
 else
 if r0.Arity>(3:Int) then
 some (.inl ())
 else
 some (.inr ()):Option (Unit ⊕ Unit))).bind fun t=>match t with
 | (.inl _)=>(some false)
 | (.inr _)=>((Ao (El n0 r0) (0:Int)).bind fun t=>match t with
 | (.inl _)=>(some false)
 | (.inr _)=>(some true))
theorem Sd {n0:Int} {r0:SRelation} {v:Bool} (h:Ep n0 r0=some v):Ret Tryz.prog Ie [Ae n0,(Ai false) r0] (V.bool v):=by
 refine A5 Ady (Nat.le_of_ble_eq_true rfl) ?_
 unfold Ep at h
 conv=>whnf
 refine CutQ.o (fun t:(Unit ⊕ Unit)=>match t with | (.inl s)=>(Ex.ret,[4],[(4,A.val (V.bool (false)))]) | (.inr s)=>(Ex.normal,[3,0],[(3,A.val ((rP true (Ai false)) (r0))),(0,A.val (Ae (n0)))])) h ?_ ?_
 ·intro t h
  conv=>whnf
  refine Cells.lit rfl rfl ?_
  conv=>whnf
  refine Br.od h (fun p1 h=> ?_) (fun p1 h=> ?_)
  ·conv=>whnf
   refine Br.yes ?_
   conv=>whnf
   refine Br.yes ?_
   conv=>whnf
   refine Br.yes ?_
   conv=>whnf
   refine Br.yes ?_
   conv=>whnf
   cases h;exact ⟨rfl,rfl⟩
  conv=>whnf
  refine Br.no ?_
  conv=>whnf
  refine Cells.lit rfl rfl ?_
  conv=>whnf
  refine Br.no ?_
  conv=>whnf
  refine Br.no ?_
  conv=>whnf
  refine Br.od h (fun p2 h=> ?_) (fun p2 h=> ?_)
  ·conv=>whnf
   cases h;exact ⟨rfl,rfl⟩
  conv=>whnf
  cases h;exact ⟨rfl,rfl⟩
 rintro (⟨⟩ | ⟨⟩) h
 ·try dsimp only at h
  conv=>whnf
  cases h;exact (by first | rfl | simp only [Ah,Aa,V.fz,fzL,V.up,upL,Ab,Ac,Ad,slr] | simp [Ah,Aa,V.fz,fzL,V.up,upL,Ab,Ac,Ad,slr])
 try dsimp only at h
 conv=>whnf
 refine Cells.lit rfl rfl ?_
 conv=>whnf
 refine Len.map ?_
 conv=>whnf
 refine LoopQ.o [18,17,16,3,0] (I0 n0 r0) (Ob n0 r0) h (fun s o h=>Xr s o h) (by first | rfl | simp [restrict,look,Aa,V.fz,fzL,V.up,upL,Ab,Ac,Ad,slr]) (by rintro (_ | _)<;>rfl) ?_
 rintro (⟨⟩ | ⟨⟩) h
 ·try dsimp only at h
  conv=>whnf
  cases h;exact (by first | rfl | simp only [Ah,Aa,V.fz,fzL,V.up,upL,Ab,Ac,Ad,slr] | simp [Ah,Aa,V.fz,fzL,V.up,upL,Ab,Ac,Ad,slr])
 try dsimp only at h
 conv=>whnf
 cases h;exact (by first | rfl | simp only [Ah,Aa,V.fz,fzL,V.up,upL,Ab,Ac,Ad,slr] | simp [Ah,Aa,V.fz,fzL,V.up,upL,Ab,Ac,Ad,slr])
noncomputable def Nr (n0:Int):Option Bool:=
 (Fb (n0) ((1:Int)) ((8:Int))).bind fun r1=>
 some r1
theorem Alu {n0:Int} {v:Bool} (h:Nr n0=some v):Ret Tryz.prog S7 [Ae n0] (V.bool v):=by
 refine A5 Amc (Nat.le_of_ble_eq_true rfl) ?_
 unfold Nr at h
 conv=>whnf
 refine CallQ.o V.bool (by first | rfl | simp only [Aa,V.fz,fzL,V.up,upL,Ab,Ac,Ad,slr,List.cons_append,List.nil_append] | simp [Aa,V.fz,fzL,V.up,upL,Ab,Ac,Ad,slr]) h (fun r h=>Lc h) (fun r1 h=> ?_)
 conv=>whnf
 cases h;exact (by first | rfl | simp only [Ah,Aa,V.fz,fzL,V.up,upL,Ab,Ac,Ad,slr] | simp [Ah,Aa,V.fz,fzL,V.up,upL,Ab,Ac,Ad,slr])
noncomputable def D9 (list0:List (List Int)) (t0:List Int):(Int×Int)→Option ((Int×Int) ⊕ Int):=fun (x7,x6)=>
 if x6<x7 then
 ask (InI (x6+x7)) <|
 ask ((2:Int)≠(0:Int)∧InI ((x6+x7).tdiv (2:Int))) <|
 ask ((0:Int)≤(x6+x7).tdiv (2:Int)∧(x6+x7).tdiv (2:Int)<(↑list0.length:Int)) <|
 (Hs (nth list0 ((x6+x7).tdiv (2:Int)).toNat) (t0)).bind fun r5=>
 if (r5)=true then
 ask (InI ((x6+x7).tdiv (2:Int)+(1:Int))) <|
 some (.inl (x7,(x6+x7).tdiv (2:Int)+(1:Int)))
 else
 some (.inl ((x6+x7).tdiv (2:Int),x6))
 else
 some (.inr x6)
def Nc (list0:List (List Int)) (t0:List Int):(Int×Int)→St:=fun s=>[(7,A.val (Ae s.1)),(6,A.val (Ae s.2)),(0,A.val ((slr false 1 (slr false 1 Ae)) (list0))),(1,A.val ((slr false 1 Ae) (t0)))]
def Tw (list0:List (List Int)) (t0:List Int):Int→Tgt
 | s=>((Ex.exit 0),[6,0,1],[(6,A.val (Ae s)),(0,A.val ((slr false 1 (slr false 1 Ae)) (list0))),(1,A.val ((slr false 1 Ae) (t0)))])
theorem Afb {list0:List (List Int)} {t0:List Int} (s:(Int×Int)) (o:(Int×Int) ⊕ Int) (h:D9 list0 t0 s=some o):vc Tryz.prog Uz (Dc [7,6,0,1] (Nc list0 t0) (Tw list0 t0) o) (Nc list0 t0 s):=by
 obtain ⟨x7,x6⟩:=s
 unfold D9 at h
 try dsimp only at h
 conv=>whnf
 refine Br.od h (fun p1 h=> ?_) (fun p1 h=> ?_)
 ·conv=>whnf
  refine Ask.o h fun p2 h=> ?_
  conv=>whnf
  refine Ask.o h fun p3 h=> ?_
  conv=>whnf
  refine Len.map ?_
  conv=>whnf
  refine Ask.o h fun p4 h=> ?_
  conv=>whnf
  refine Elem.o (by first | omega | (simp [Be] at * <;> omega)) ?_
  conv=>whnf
  refine CallQ.o V.bool (by first | rfl | simp only [Aa,V.fz,fzL,V.up,upL,Ab,Ac,Ad,slr,List.cons_append,List.nil_append] | simp [Aa,V.fz,fzL,V.up,upL,Ab,Ac,Ad,slr]) h (fun r h=>Aaf h) (fun r5 h=> ?_)
  conv=>whnf
  refine Br.ob h (fun p6 h=> ?_) (fun p6 h=> ?_)
  ·conv=>whnf
   refine Ask.o h fun p7 h=> ?_
   conv=>whnf
   cases h;exact ⟨rfl,rfl⟩
  conv=>whnf
  cases h;exact ⟨rfl,rfl⟩
 conv=>whnf
 cases h;exact ⟨rfl,rfl⟩
noncomputable def C9 (list0:(List (List Int))) (t0:(List Int)):Option (Int×Bool):=
 (Ao (D9 list0 t0) ((↑list0.length:Int),(0:Int))).bind fun q8_6=>
 if q8_6<(↑list0.length:Int) then
 ask ((0:Int)≤q8_6∧q8_6<(↑list0.length:Int)) <|
 (J5 (nth list0 q8_6.toNat) (t0)).bind fun r11=>
 some (q8_6,r11)
 else
 some (q8_6,false)
theorem Nk {list0:(List (List Int))} {t0:(List Int)} {v:(Int×Bool)} (h:C9 list0 t0=some v):Ret Tryz.prog Hu [(slr false 1 (slr false 1 Ae)) list0,(slr false 1 Ae) t0] ((fun r=>V.tup [Ae r.1,V.bool r.2]) v):=by
 refine A5 Ali (Nat.le_of_ble_eq_true rfl) ?_
 unfold C9 at h
 conv=>whnf
 refine Len.map ?_
 conv=>whnf
 refine LoopQ.o [7,6,0,1] (Nc list0 t0) (Tw list0 t0) h (fun s o h=>Afb s o h) (by first | rfl | simp [restrict,look,Aa,V.fz,fzL,V.up,upL,Ab,Ac,Ad,slr]) (fun _=>rfl) ?_
 rintro q8_6 h
 try dsimp only at h
 conv=>whnf
 refine Len.map ?_
 conv=>whnf
 refine Br.od h (fun p9 h=> ?_) (fun p9 h=> ?_)
 ·conv=>whnf
  refine Br.yes ?_
  conv=>whnf
  refine Br.yes ?_
  conv=>whnf
  refine Len.map ?_
  conv=>whnf
  refine Ask.o h fun p10 h=> ?_
  conv=>whnf
  refine Elem.o (by first | omega | (simp [Be] at * <;> omega)) ?_
  conv=>whnf
  refine Br.yes ?_
  conv=>whnf
  refine Br.yes ?_
  conv=>whnf
  refine Br.yes ?_
  conv=>whnf
  refine CallQ.o V.bool (by first | rfl | simp only [Aa,V.fz,fzL,V.up,upL,Ab,Ac,Ad,slr,List.cons_append,List.nil_append] | simp [Aa,V.fz,fzL,V.up,upL,Ab,Ac,Ad,slr]) h (fun r h=>Aln h) (fun r11 h=> ?_)
  conv=>whnf
  refine Br.yes ?_
  conv=>whnf
  cases h;exact (by first | rfl | simp only [Ah,Aa,V.fz,fzL,V.up,upL,Ab,Ac,Ad,slr] | simp [Ah,Aa,V.fz,fzL,V.up,upL,Ab,Ac,Ad,slr])
 conv=>whnf
 refine Br.no ?_
 conv=>whnf
 refine Br.no ?_
 conv=>whnf
 refine Br.no ?_
 conv=>whnf
 refine Br.no ?_
 conv=>whnf
 refine Br.no ?_
 conv=>whnf
 refine Br.no ?_
 conv=>whnf
 cases h;exact (by first | rfl | simp only [Ah,Aa,V.fz,fzL,V.up,upL,Ab,Ac,Ad,slr] | simp [Ah,Aa,V.fz,fzL,V.up,upL,Ab,Ac,Ad,slr])
end Go.Proofs.YtjcekpmojnnmbaaGreat.Ax
