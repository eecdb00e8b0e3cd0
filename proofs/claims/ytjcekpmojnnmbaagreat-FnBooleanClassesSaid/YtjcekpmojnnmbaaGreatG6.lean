/-
 What the functions compute, as functions on plain data, and that the program does compute it; written by program.
-/
import Derived.Test.YtjcekpmojnnmbaaGreatCode
import Derived.Test.YtjcekpmojnnmbaaGreatG1
import Derived.Test.YtjcekpmojnnmbaaGreatG2
import Derived.Test.YtjcekpmojnnmbaaGreatG3
import Derived.Test.YtjcekpmojnnmbaaGreatG4
import Derived.Test.YtjcekpmojnnmbaaGreatG5
namespace Go.Proofs.YtjcekpmojnnmbaaGreat.Ax
open Go
set_option maxRecDepth 100000
set_option maxHeartbeats 4000000
noncomputable def Ch (n0:Int) (arity0:Int) (_x8:Int) (_x7:SRelation):(Int×(List Int)×Sl1Cur)→Option ((Int×(List Int)×Sl1Cur) ⊕ ((List Int)×Sl1Cur)):=fun (x10,x9,x94')=>
 if x10<arity0 then
 (Bn (x94') (n0)).bind fun (r10,u11)=>
 ask ((x9).length+([r10]).length≤LIM) <|
 ask (InI (x10+(1:Int))) <|
 some (.inl (x10+(1:Int),x9++[r10],u11))
 else
 some (.inr (x9,x94'))
def Ge (n0:Int) (arity0:Int) (x8:Int) (x7:SRelation):(Int×(List Int)×Sl1Cur)→St:=fun s=>[(10,A.val (Ae s.1)),(9,A.val ((slr true 1 Ae) s.2.1)),(8,A.val (Ae (x8))),(7,A.val ((rP true (Ar)) (x7))),(6,A.val ((rP true (Ar)) ({ Arity:=(0:Int),Tuples:=Au (List Int) }))),(0,A.ref 94 []),(94,A.val ((rP true (Ak false)) s.2.2)),(1,A.val (Ae (n0))),(2,A.val (Ae (arity0)))]
def Kn (n0:Int) (arity0:Int) (x8:Int) (x7:SRelation):((List Int)×Sl1Cur)→Tgt
 | s=>((Ex.exit 2),[9,8,7,6,0,94,1,2],[(9,A.val ((slr true 1 Ae) s.1)),(8,A.val (Ae (x8))),(7,A.val ((rP true (Ar)) (x7))),(6,A.val ((rP true (Ar)) ({ Arity:=(0:Int),Tuples:=Au (List Int) }))),(0,A.ref 94 []),(94,A.val ((rP true (Ak false)) s.2)),(1,A.val (Ae (n0))),(2,A.val (Ae (arity0)))])
theorem Ti {n0:Int} {arity0:Int} {x8:Int} {x7:SRelation} (s:(Int×(List Int)×Sl1Cur)) (o:(Int×(List Int)×Sl1Cur) ⊕ ((List Int)×Sl1Cur)) (h:Ch n0 arity0 x8 x7 s=some o):vc Tryz.prog Kc (Dc [10,9,8,7,6,0,94,1,2] (Ge n0 arity0 x8 x7) (Kn n0 arity0 x8 x7) o) (Ge n0 arity0 x8 x7 s):=by
 obtain ⟨x10,x9,x94'⟩:=s
 unfold Ch at h
 try dsimp only at h
 conv=>whnf
 refine Br.od h (fun p9 h=> ?_) (fun p9 h=> ?_)
 ·conv=>whnf
  refine CallQ.io Ae (rP true (Ak false)) (by first | rfl | simp only [Aa,V.fz,fzL,V.up,upL,Ab,Ac,Ad,slr,List.cons_append,List.nil_append] | simp [Aa,V.fz,fzL,V.up,upL,Ab,Ac,Ad,slr]) rfl (fun _=>rfl) (fun _=>⟨rfl,rfl⟩) rfl h (fun r h=>C6 h) (fun r10 u11 h=> ?_)
  conv=>whnf
  refine BslQ.o Ae [r10] (by exact fun _=>⟨rfl,rfl⟩) (by first | rfl | (simp only [Aa,V.fz,fzL,V.up,upL,Ab,Ac,Ad,slr,List.cons_append,List.nil_append];done) | simp [Aa,V.fz,fzL,V.up,upL,Ab,Ac,Ad,slr]) ?_
  conv=>whnf
  refine NoOwn.o (fun _=>rfl) ?_
  conv=>whnf
  refine AppQ.o (m:=1) Ae (by exact fun _=>⟨rfl,rfl⟩) (x9) ([r10]) (by first | rfl | simp only [Aa,V.fz,fzL,V.up,upL,Ab,Ac,Ad,slr,List.cons_append,List.nil_append] | simp [Aa,V.fz,fzL,V.up,upL,Ab,Ac,Ad,slr]) (by first | rfl | simp only [Aa,V.fz,fzL,V.up,upL,Ab,Ac,Ad,slr,List.cons_append,List.nil_append] | simp [Aa,V.fz,fzL,V.up,upL,Ab,Ac,Ad,slr]) h fun h=> ?_
  conv=>whnf
  refine Ask.o h fun p12 h=> ?_
  conv=>whnf
  cases h;exact ⟨rfl,rfl⟩
 conv=>whnf
 cases h;exact ⟨rfl,rfl⟩
noncomputable def Db (n0:Int) (arity0:Int):(Int×SRelation×Sl1Cur)→Option ((Int×SRelation×Sl1Cur) ⊕ (SRelation×Sl1Cur)):=fun (x8,x7,x94)=>
 if x8>(0:Int) then
 (Ao (Ch n0 arity0 x8 x7) ((0:Int),Au Int,x94)).bind fun (q13_9,q13_94)=>
 (E9 (x7.Tuples) (q13_9)).bind fun r14=>
 ask (InI (x8-(1:Int))) <|
 some (.inl (x8-(1:Int),{ Arity:=x7.Arity,Tuples:=r14 },q13_94))
 else
 some (.inr (x7,x94))
def Gm (n0:Int) (arity0:Int):(Int×SRelation×Sl1Cur)→St:=fun s=>[(8,A.val (Ae s.1)),(7,A.val ((rP true (Ar)) s.2.1)),(6,A.val ((rP true (Ar)) ({ Arity:=(0:Int),Tuples:=Au (List Int) }))),(0,A.ref 94 []),(94,A.val ((rP true (Ak false)) s.2.2)),(1,A.val (Ae (n0))),(2,A.val (Ae (arity0)))]
def J4 (n0:Int) (arity0:Int):(SRelation×Sl1Cur)→Tgt
 | s=>((Ex.exit 0),[7,6,0,94,1,2],[(7,A.val ((rP true (Ar)) s.1)),(6,A.val ((rP true (Ar)) ({ Arity:=(0:Int),Tuples:=Au (List Int) }))),(0,A.ref 94 []),(94,A.val ((rP true (Ak false)) s.2)),(1,A.val (Ae (n0))),(2,A.val (Ae (arity0)))])
theorem Tl {n0:Int} {arity0:Int} (s:(Int×SRelation×Sl1Cur)) (o:(Int×SRelation×Sl1Cur) ⊕ (SRelation×Sl1Cur)) (h:Db n0 arity0 s=some o):vc Tryz.prog Ka (Dc [8,7,6,0,94,1,2] (Gm n0 arity0) (J4 n0 arity0) o) (Gm n0 arity0 s):=by
 obtain ⟨x8,x7,x94⟩:=s
 unfold Db at h
 try dsimp only at h
 conv=>whnf
 refine Br.od h (fun p8 h=> ?_) (fun p8 h=> ?_)
 ·conv=>whnf
  refine BslQ.o Ae (Au Int) (by exact fun _=>⟨rfl,rfl⟩) (by first | rfl | (simp only [Aa,V.fz,fzL,V.up,upL,Ab,Ac,Ad,slr,List.cons_append,List.nil_append];done) | simp [Aa,V.fz,fzL,V.up,upL,Ab,Ac,Ad,slr]) ?_
  conv=>whnf
  refine LoopQ.o [10,9,8,7,6,0,94,1,2] (Ge n0 arity0 x8 x7) (Kn n0 arity0 x8 x7) h (fun s o h=>Ti s o h) (by first | rfl | simp [restrict,look,Aa,V.fz,fzL,V.up,upL,Ab,Ac,Ad,slr]) (fun _=>rfl) ?_
  rintro ⟨q13_9,q13_94⟩ h
  try dsimp only at h
  conv=>whnf
  refine FrzQ.d (V.sl false (1:Nat) (List.map Ae q13_9)) (by first | (simp only [slr];done) | (simp [Am,V.fz,Ab,slr];done) | (simp [Am,V.fz,fzL,Ab,slr];done)) ?_
  conv=>whnf
  refine Cells.lit rfl rfl ?_
  conv=>whnf
  refine Kid.lit rfl rfl ?_
  conv=>whnf
  refine CallQ.give (slr true 1 (slr false 1 Ae)) (by first | rfl | simp only [Aa,V.fz,fzL,V.up,upL,Ab,Ac,Ad,slr,List.cons_append,List.nil_append] | simp [Aa,V.fz,fzL,V.up,upL,Ab,Ac,Ad,slr]) rfl (fun _=>rfl) rfl h (fun r h=>Pi h) (fun r14 h=> ?_)
  conv=>whnf
  refine Kid.lit rfl rfl ?_
  conv=>whnf
  refine SetKids.lit rfl ?_
  conv=>whnf
  refine SetKids.lit rfl ?_
  conv=>whnf
  refine Ask.o h fun p15 h=> ?_
  conv=>whnf
  cases h;exact ⟨rfl,rfl⟩
 conv=>whnf
 cases h;exact ⟨rfl,rfl⟩
noncomputable def D4 (c0:Sl1Cur) (n0:Int) (arity0:Int):Option (SRelation×Sl1Cur):=
 (((Nr (n0)).bind fun r1=>
 if (r1)=true then
 (Fb (arity0) ((1:Int)) ((3:Int))).bind fun r3=>
 if (r3)=true then
 some (.inl ())
 else
 some (.inr ())
 else
 some (.inr ()):Option (Unit ⊕ Unit))).bind fun t=>match t with
 | (.inl _)=>((Bj (c0) ([(0:Int),(1:Int),(2:Int),(3:Int),(4:Int),(6:Int),(9:Int)])).bind fun (r6,u7)=>
 (Ao (Db n0 arity0) (r6,{ Arity:=arity0,Tuples:=Au (List Int) },u7)).bind fun (q16_7,q16_94)=>
 ((if arity0=(2:Int) then
 (Dn (q16_94) ((3:Int))).bind fun (r18,u19)=>
 if (r18)=true then
 (Ci (u19) (n0)).bind fun (r21,u22)=>
 (C7 (r21)).bind fun r23=>
 some (r23,u22)
 else
 some (q16_7,u19)
 else
 some (q16_7,q16_94):Option (SRelation×Sl1Cur))).bind fun (q24_7,q24_94)=>
 (((Dn (q24_94) ((12:Int))).bind fun (r25,u26)=>
 if (r25)=true then
 (Da (n0) (arity0)).bind fun r28=>
 some (r28,u26)
 else
 some (q24_7,u26):Option (SRelation×Sl1Cur))).bind fun (q29_7,q29_94)=>
 (Bn (q29_94) ((40:Int))).bind fun (r30,u31)=>
 if r30=(0:Int) then
 (Bj (u31) ([(0:Int),(4:Int),(-1:Int)])).bind fun (r33,u34)=>
 some ({ Arity:=r33,Tuples:=q29_7.Tuples },u34)
 else
 if r30=(1:Int) then
 ask ((0:Int)≤arity0∧arity0≤(↑LIM:Int)) <|
 ask ((q29_7.Tuples).length+([List.replicate arity0.toNat (0:Int)]).length≤LIM) <|
 some ({ Arity:=q29_7.Arity,Tuples:=q29_7.Tuples++[List.replicate arity0.toNat (0:Int)] },u31)
 else
 if r30=(2:Int) then
 if (↑q29_7.Tuples.length:Int)>(0:Int) then
 (Bj (u31) ([(-1:Int),n0,(0:Int)])).bind fun (r39,u40)=>
 ask ((0:Int)≤(0:Int)∧(0:Int)<(↑q29_7.Tuples.length:Int)) <|
 some ({ Arity:=q29_7.Arity,Tuples:=q29_7.Tuples.set (Int.toNat (0:Int)) [r39] },u40)
 else
 some (q29_7,u31)
 else
 some (q29_7,u31))
 | (.inr _)=>(some ({ Arity:=arity0,Tuples:=Au (List Int) },c0))
theorem W2 {c0:Sl1Cur} {n0:Int} {arity0:Int} {v:(SRelation×Sl1Cur)} (h:D4 c0 n0 arity0=some v):Rc Tryz.prog H6 [(rP true (Ak false)) c0,Ae n0,Ae arity0] ((Ar) v.1) 0 ((rP true (Ak false)) v.2):=by
 refine Y7 Xj (Nat.le_of_ble_eq_true rfl) ?_
 unfold D4 at h
 conv=>whnf
 refine BslQ.o (slr true 1 Ae) (Au (List Int)) (by exact fun _=>⟨rfl,rfl⟩) (by first | rfl | (simp only [Aa,V.fz,fzL,V.up,upL,Ab,Ac,Ad,slr,List.cons_append,List.nil_append];done) | simp [Aa,V.fz,fzL,V.up,upL,Ab,Ac,Ad,slr]) ?_
 conv=>whnf
 refine SetKids.lit rfl ?_
 conv=>whnf
 refine CutQ.o (fun t:(Unit ⊕ Unit)=>match t with | (.inl s)=>(Ex.normal,[7,6,0,94,1,2],[(7,A.val ((rP true (Ar)) ({ Arity:=arity0,Tuples:=Au (List Int) }))),(6,A.val ((rP true (Ar)) ({ Arity:=(0:Int),Tuples:=Au (List Int) }))),(0,A.ref 94 []),(94,A.val ((rP true (Ak false)) (c0))),(1,A.val (Ae (n0))),(2,A.val (Ae (arity0)))]) | (.inr s)=>(Ex.ret,[6,94],[(6,A.val ((rP true (Ar)) ({ Arity:=arity0,Tuples:=Au (List Int) }))),(94,A.val ((rP true (Ak false)) (c0)))])) h ?_ ?_
 ·intro t h
  conv=>whnf
  refine CallQ.o V.bool (by first | rfl | simp only [Aa,V.fz,fzL,V.up,upL,Ab,Ac,Ad,slr,List.cons_append,List.nil_append] | simp [Aa,V.fz,fzL,V.up,upL,Ab,Ac,Ad,slr]) h (fun r h=>Alu h) (fun r1 h=> ?_)
  conv=>whnf
  refine Br.flip ?_
  conv=>whnf
  refine Br.ob h (fun p2 h=> ?_) (fun p2 h=> ?_)
  ·conv=>whnf
   refine Br.no ?_
   conv=>whnf
   refine CallQ.o V.bool (by first | rfl | simp only [Aa,V.fz,fzL,V.up,upL,Ab,Ac,Ad,slr,List.cons_append,List.nil_append] | simp [Aa,V.fz,fzL,V.up,upL,Ab,Ac,Ad,slr]) h (fun r h=>Lc h) (fun r3 h=> ?_)
   conv=>whnf
   refine Br.no ?_
   conv=>whnf
   refine Br.no ?_
   conv=>whnf
   refine Br.flip ?_
   conv=>whnf
   refine Br.ob h (fun p4 h=> ?_) (fun p4 h=> ?_)
   ·conv=>whnf
    cases h;exact ⟨rfl,rfl⟩
   conv=>whnf
   refine Cells.lit rfl rfl ?_
   conv=>whnf
   refine SetKids.lit rfl ?_
   conv=>whnf
   cases h;exact ⟨rfl,rfl⟩
  conv=>whnf
  refine Br.yes ?_
  conv=>whnf
  refine Br.yes ?_
  conv=>whnf
  refine Br.yes ?_
  conv=>whnf
  refine Br.yes ?_
  conv=>whnf
  refine Cells.lit rfl rfl ?_
  conv=>whnf
  refine SetKids.lit rfl ?_
  conv=>whnf
  cases h;exact ⟨rfl,rfl⟩
 rintro (⟨⟩ | ⟨⟩) h
 ·try dsimp only at h
  conv=>whnf
  refine BslQ.o Ae ([(0:Int),(1:Int),(2:Int),(3:Int),(4:Int),(6:Int),(9:Int)]) (by exact fun _=>⟨rfl,rfl⟩) (by first | rfl | (simp only [Aa,V.fz,fzL,V.up,upL,Ab,Ac,Ad,slr,List.cons_append,List.nil_append];done) | simp [Aa,V.fz,fzL,V.up,upL,Ab,Ac,Ad,slr]) ?_
  conv=>whnf
  refine CallQ.io Ae (rP true (Ak false)) (by first | rfl | (simp only [Aa,Am,V.fz,fzL,Ab,Ac,slr];done) | simp [Aa,Am,V.fz,fzL,V.up,upL,Ab,Ac,Ad,slr]) rfl (fun _=>rfl) (fun _=>⟨rfl,rfl⟩) rfl h (fun r h=>Ct h) (fun r6 u7 h=> ?_)
  conv=>whnf
  refine LoopQ.o [8,7,6,0,94,1,2] (Gm n0 arity0) (J4 n0 arity0) h (fun s o h=>Tl s o h) (by first | rfl | simp [restrict,look,Aa,V.fz,fzL,V.up,upL,Ab,Ac,Ad,slr]) (fun _=>rfl) ?_
  rintro ⟨q16_7,q16_94⟩ h
  try dsimp only at h
  conv=>whnf
  refine CutQ.o (fun t:(SRelation×Sl1Cur)=>match t with | s=>(Ex.normal,[7,6,0,94,1,2],[(7,A.val ((rP true (Ar)) s.1)),(6,A.val ((rP true (Ar)) ({ Arity:=(0:Int),Tuples:=Au (List Int) }))),(0,A.ref 94 []),(94,A.val ((rP true (Ak false)) s.2)),(1,A.val (Ae (n0))),(2,A.val (Ae (arity0)))])) h ?_ ?_
  ·intro t h
   conv=>whnf
   refine Br.oe h (fun p17 h=> ?_) (fun p17 h=> ?_)
   ·conv=>whnf
    refine Br.yes ?_
    conv=>whnf
    refine CallQ.io V.bool (rP true (Ak false)) (by first | rfl | simp only [Aa,V.fz,fzL,V.up,upL,Ab,Ac,Ad,slr,List.cons_append,List.nil_append] | simp [Aa,V.fz,fzL,V.up,upL,Ab,Ac,Ad,slr]) rfl (fun _=>rfl) (fun _=>⟨rfl,rfl⟩) rfl h (fun r h=>Un h) (fun r18 u19 h=> ?_)
    conv=>whnf
    refine Br.yes ?_
    conv=>whnf
    refine Br.ob h (fun p20 h=> ?_) (fun p20 h=> ?_)
    ·conv=>whnf
     refine CallQ.io (slr false 1 Ae) (rP true (Ak false)) (by first | rfl | simp only [Aa,V.fz,fzL,V.up,upL,Ab,Ac,Ad,slr,List.cons_append,List.nil_append] | simp [Aa,V.fz,fzL,V.up,upL,Ab,Ac,Ad,slr]) rfl (fun _=>rfl) (fun _=>⟨rfl,rfl⟩) rfl h (fun r h=>Rc.frz (Tk h) (by first | rfl | simp only [V.fz,Ab,slr] | simp [Aa,V.fz,fzL,V.up,upL,Ab,Ac,Ad,slr])) (fun r21 u22 h=> ?_)
     conv=>whnf
     refine CallQ.o (Ar) (by first | rfl | simp only [Aa,V.fz,fzL,V.up,upL,Ab,Ac,Ad,slr,List.cons_append,List.nil_append] | simp [Aa,V.fz,fzL,V.up,upL,Ab,Ac,Ad,slr]) h (fun r h=>Ws h) (fun r23 h=> ?_)
     conv=>whnf
     refine SetKids.lit rfl ?_
     conv=>whnf
     cases h;exact ⟨rfl,rfl⟩
    conv=>whnf
    cases h;exact ⟨rfl,rfl⟩
   conv=>whnf
   refine Br.no ?_
   conv=>whnf
   refine Br.no ?_
   conv=>whnf
   refine Br.no ?_
   conv=>whnf
   cases h;exact ⟨rfl,rfl⟩
  rintro ⟨q24_7,q24_94⟩ h
  try dsimp only at h
  conv=>whnf
  refine CutQ.o (fun t:(SRelation×Sl1Cur)=>match t with | s=>(Ex.normal,[7,6,0,94,1,2],[(7,A.val ((rP true (Ar)) s.1)),(6,A.val ((rP true (Ar)) ({ Arity:=(0:Int),Tuples:=Au (List Int) }))),(0,A.ref 94 []),(94,A.val ((rP true (Ak false)) s.2)),(1,A.val (Ae (n0))),(2,A.val (Ae (arity0)))])) h ?_ ?_
  ·intro t h
   conv=>whnf
   refine CallQ.io V.bool (rP true (Ak false)) (by first | rfl | simp only [Aa,V.fz,fzL,V.up,upL,Ab,Ac,Ad,slr,List.cons_append,List.nil_append] | simp [Aa,V.fz,fzL,V.up,upL,Ab,Ac,Ad,slr]) rfl (fun _=>rfl) (fun _=>⟨rfl,rfl⟩) rfl h (fun r h=>Un h) (fun r25 u26 h=> ?_)
   conv=>whnf
   refine Br.ob h (fun p27 h=> ?_) (fun p27 h=> ?_)
   ·conv=>whnf
    refine CallQ.o (Ar) (by first | rfl | simp only [Aa,V.fz,fzL,V.up,upL,Ab,Ac,Ad,slr,List.cons_append,List.nil_append] | simp [Aa,V.fz,fzL,V.up,upL,Ab,Ac,Ad,slr]) h (fun r h=>Xm h) (fun r28 h=> ?_)
    conv=>whnf
    refine SetKids.lit rfl ?_
    conv=>whnf
    cases h;exact ⟨rfl,rfl⟩
   conv=>whnf
   cases h;exact ⟨rfl,rfl⟩
  rintro ⟨q29_7,q29_94⟩ h
  try dsimp only at h
  conv=>whnf
  refine CallQ.io Ae (rP true (Ak false)) (by first | rfl | simp only [Aa,V.fz,fzL,V.up,upL,Ab,Ac,Ad,slr,List.cons_append,List.nil_append] | simp [Aa,V.fz,fzL,V.up,upL,Ab,Ac,Ad,slr]) rfl (fun _=>rfl) (fun _=>⟨rfl,rfl⟩) rfl h (fun r h=>C6 h) (fun r30 u31 h=> ?_)
  conv=>whnf
  refine Br.oe h (fun p32 h=> ?_) (fun p32 h=> ?_)
  ·conv=>whnf
   refine BslQ.o Ae ([(0:Int),(4:Int),(-1:Int)]) (by exact fun _=>⟨rfl,rfl⟩) (by first | rfl | (simp only [Aa,V.fz,fzL,V.up,upL,Ab,Ac,Ad,slr,List.cons_append,List.nil_append];done) | simp [Aa,V.fz,fzL,V.up,upL,Ab,Ac,Ad,slr]) ?_
   conv=>whnf
   refine CallQ.io Ae (rP true (Ak false)) (by first | rfl | (simp only [Aa,Am,V.fz,fzL,Ab,Ac,slr];done) | simp [Aa,Am,V.fz,fzL,V.up,upL,Ab,Ac,Ad,slr]) rfl (fun _=>rfl) (fun _=>⟨rfl,rfl⟩) rfl h (fun r h=>Ct h) (fun r33 u34 h=> ?_)
   conv=>whnf
   refine SetKids.lit rfl ?_
   conv=>whnf
   refine Cells.lit rfl rfl ?_
   conv=>whnf
   refine SetKids.lit rfl ?_
   conv=>whnf
   cases h;exact ⟨(by first | rfl | simp only [Ah,Aa,V.fz,fzL,V.up,upL,Ab,Ac,Ad,slr] | simp [Ah,Aa,V.fz,fzL,V.up,upL,Ab,Ac,Ad,slr]),(by first | rfl | simp only [Ah,Aa,V.fz,fzL,V.up,upL,Ab,Ac,Ad,slr] | simp [Ah,Aa,V.fz,fzL,V.up,upL,Ab,Ac,Ad,slr])⟩
  conv=>whnf
  refine Br.oe h (fun p35 h=> ?_) (fun p35 h=> ?_)
  ·conv=>whnf
   refine Cells.lit rfl rfl ?_
   conv=>whnf
   refine Ask.o h fun p36 h=> ?_
   conv=>whnf
   refine MkQ.o Ae ((0:Int)) rfl ?_
   conv=>whnf
   refine FrzQ.d (V.sl false (1:Nat) (List.map Ae (List.replicate arity0.toNat (0:Int)))) (by first | (simp only [Am,Ac];done) | (simp [Am,V.fz,Ab,Ac,slr];done) | (simp [Am,V.fz,fzL,Ab,slr];done)) ?_
   conv=>whnf
   refine BslQ.o (slr false 1 Ae) ([List.replicate arity0.toNat (0:Int)]) (by exact fun _=>⟨rfl,rfl⟩) (by first | rfl | (simp only [Aa,V.fz,fzL,V.up,upL,Ab,Ac,Ad,slr,List.cons_append,List.nil_append];done) | simp [Aa,V.fz,fzL,V.up,upL,Ab,Ac,Ad,slr]) ?_
   conv=>whnf
   refine NoOwn.o (fun _=>rfl) ?_
   conv=>whnf
   refine Kid.lit rfl rfl ?_
   conv=>whnf
   refine Kid.lit rfl rfl ?_
   conv=>whnf
   refine SetKids.lit rfl ?_
   conv=>whnf
   refine AppQ.o (m:=1) (slr false 1 Ae) (by exact fun _=>⟨rfl,rfl⟩) (q29_7.Tuples) ([List.replicate arity0.toNat (0:Int)]) (by first | rfl | simp only [Aa,V.fz,fzL,V.up,upL,Ab,Ac,Ad,slr,List.cons_append,List.nil_append] | simp [Aa,V.fz,fzL,V.up,upL,Ab,Ac,Ad,slr]) (by first | rfl | simp only [Aa,V.fz,fzL,V.up,upL,Ab,Ac,Ad,slr,List.cons_append,List.nil_append] | simp [Aa,V.fz,fzL,V.up,upL,Ab,Ac,Ad,slr]) h fun h=> ?_
   conv=>whnf
   refine SetKids.lit rfl ?_
   conv=>whnf
   refine Cells.lit rfl rfl ?_
   conv=>whnf
   refine SetKids.lit rfl ?_
   conv=>whnf
   cases h;exact ⟨(by first | rfl | simp only [Ah,Aa,V.fz,fzL,V.up,upL,Ab,Ac,Ad,slr] | simp [Ah,Aa,V.fz,fzL,V.up,upL,Ab,Ac,Ad,slr]),(by first | rfl | simp only [Ah,Aa,V.fz,fzL,V.up,upL,Ab,Ac,Ad,slr] | simp [Ah,Aa,V.fz,fzL,V.up,upL,Ab,Ac,Ad,slr])⟩
  conv=>whnf
  refine Br.oe h (fun p37 h=> ?_) (fun p37 h=> ?_)
  ·conv=>whnf
   refine Cells.lit rfl rfl ?_
   conv=>whnf
   refine Kid.lit rfl rfl ?_
   conv=>whnf
   refine Len.map ?_
   conv=>whnf
   refine Br.od h (fun p38 h=> ?_) (fun p38 h=> ?_)
   ·conv=>whnf
    refine Cells.lit rfl rfl ?_
    conv=>whnf
    refine BslQ.o Ae ([(-1:Int),n0,(0:Int)]) (by exact fun _=>⟨rfl,rfl⟩) (by first | rfl | (simp only [Aa,V.fz,fzL,V.up,upL,Ab,Ac,Ad,slr,List.cons_append,List.nil_append];done) | simp [Aa,V.fz,fzL,V.up,upL,Ab,Ac,Ad,slr]) ?_
    conv=>whnf
    refine FrzQ.d (V.sl false (1:Nat) (List.map Ae [(-1:Int),n0,(0:Int)])) (by first | (simp only [Am,Ac];done) | (simp [Am,V.fz,Ab,Ac,slr];done) | (simp [Am,V.fz,fzL,Ab,slr];done)) ?_
    conv=>whnf
    refine LendP.io Ae (rP true (Ak false)) (by first | rfl | simp only [Aa,V.fz,fzL,V.up,upL,Ab,Ac,Ad,slr,List.cons_append,List.nil_append] | simp [Aa,V.fz,fzL,V.up,upL,Ab,Ac,Ad,slr]) (fun _=>rfl) (fun _=>⟨rfl,rfl⟩) (fun _=>rfl) h (fun r h=>Ct h) (fun r39 u40 h=> ?_)
    conv=>whnf
    refine BslQ.o Ae [r39] (by exact fun _=>⟨rfl,rfl⟩) (by first | rfl | (simp only [Aa,V.fz,fzL,V.up,upL,Ab,Ac,Ad,slr,List.cons_append,List.nil_append];done) | simp [Aa,V.fz,fzL,V.up,upL,Ab,Ac,Ad,slr]) ?_
    conv=>whnf
    refine FrzQ.d (V.sl false (1:Nat) (List.map Ae [r39])) (by first | (simp only [Am,Ac];done) | (simp [Am,V.fz,Ab,Ac,slr];done) | (simp [Am,V.fz,fzL,Ab,slr];done)) ?_
    conv=>whnf
    refine Kid.lit rfl rfl ?_
    conv=>whnf
    refine Len.map ?_
    conv=>whnf
    refine Ask.o h fun p41 h=> ?_
    conv=>whnf
    refine Kid.lit rfl rfl ?_
    conv=>whnf
    refine SetKids.one (fun _=>⟨rfl,rfl⟩) ([r39]) (by first | rfl | simp only [Aa,V.fz,fzL,V.up,upL,Ab,Ac,Ad,slr,List.cons_append,List.nil_append] | simp [Aa,V.fz,fzL,V.up,upL,Ab,Ac,Ad,slr]) (by first | omega | (simp [Be] at * <;> omega)) ?_
    conv=>whnf
    refine Kid.lit rfl rfl ?_
    conv=>whnf
    refine SetKids.lit rfl ?_
    conv=>whnf
    refine Cells.lit rfl rfl ?_
    conv=>whnf
    refine SetKids.lit rfl ?_
    conv=>whnf
    cases h;exact ⟨(by first | rfl | simp only [Ah,Aa,V.fz,fzL,V.up,upL,Ab,Ac,Ad,slr] | simp [Ah,Aa,V.fz,fzL,V.up,upL,Ab,Ac,Ad,slr]),(by first | rfl | simp only [Ah,Aa,V.fz,fzL,V.up,upL,Ab,Ac,Ad,slr] | simp [Ah,Aa,V.fz,fzL,V.up,upL,Ab,Ac,Ad,slr])⟩
   conv=>whnf
   refine Cells.lit rfl rfl ?_
   conv=>whnf
   refine SetKids.lit rfl ?_
   conv=>whnf
   cases h;exact ⟨(by first | rfl | simp only [Ah,Aa,V.fz,fzL,V.up,upL,Ab,Ac,Ad,slr] | simp [Ah,Aa,V.fz,fzL,V.up,upL,Ab,Ac,Ad,slr]),(by first | rfl | simp only [Ah,Aa,V.fz,fzL,V.up,upL,Ab,Ac,Ad,slr] | simp [Ah,Aa,V.fz,fzL,V.up,upL,Ab,Ac,Ad,slr])⟩
  conv=>whnf
  refine Cells.lit rfl rfl ?_
  conv=>whnf
  refine SetKids.lit rfl ?_
  conv=>whnf
  cases h;exact ⟨(by first | rfl | simp only [Ah,Aa,V.fz,fzL,V.up,upL,Ab,Ac,Ad,slr] | simp [Ah,Aa,V.fz,fzL,V.up,upL,Ab,Ac,Ad,slr]),(by first | rfl | simp only [Ah,Aa,V.fz,fzL,V.up,upL,Ab,Ac,Ad,slr] | simp [Ah,Aa,V.fz,fzL,V.up,upL,Ab,Ac,Ad,slr])⟩
 try dsimp only at h
 conv=>whnf
 cases h;exact ⟨(by first | rfl | simp only [Ah,Aa,V.fz,fzL,V.up,upL,Ab,Ac,Ad,slr] | simp [Ah,Aa,V.fz,fzL,V.up,upL,Ab,Ac,Ad,slr]),(by first | rfl | simp only [Ah,Aa,V.fz,fzL,V.up,upL,Ab,Ac,Ad,slr] | simp [Ah,Aa,V.fz,fzL,V.up,upL,Ab,Ac,Ad,slr])⟩
noncomputable def Gc (n0:Int) (r0:SRelation):Int→Option (Int ⊕ (Unit ⊕ Unit)):=fun x5=>
 if x5<(↑r0.Tuples.length:Int) then
 ask ((0:Int)≤x5∧x5<(↑r0.Tuples.length:Int)) <|
 (L0 (n0) (r0.Arity) (nth r0.Tuples x5.toNat)).bind fun r8=>
 if (r8)=true then
 if x5>(0:Int) then
 ask (InI (x5-(1:Int))) <|
 ask ((0:Int)≤x5-(1:Int)∧x5-(1:Int)<(↑r0.Tuples.length:Int)) <|
 ask ((0:Int)≤x5∧x5<(↑r0.Tuples.length:Int)) <|
 (Hs (nth r0.Tuples (x5-(1:Int)).toNat) (nth r0.Tuples x5.toNat)).bind fun r14=>
 if (r14)=true then
 ask (InI (x5+(1:Int))) <|
 some (.inl (x5+(1:Int)))
 else
 some (.inr (.inl ()))
 else
 ask (InI (x5+(1:Int))) <|
 some (.inl (x5+(1:Int)))
 else
 some (.inr (.inl ()))
 else
 some (.inr (.inr ()))
def L3 (n0:Int) (r0:SRelation):Int→St:=fun s=>[(5,A.val (Ae s)),(3,A.val ((rP true (Ai false)) (r0))),(0,A.val (Ae (n0)))]
def Sn (_n0:Int) (_r0:SRelation):(Unit ⊕ Unit)→Tgt
 | (.inl _s)=>(Ex.ret,[4],[(4,A.val (V.bool (false)))])
 | (.inr _s)=>((Ex.exit 0),[],[])
theorem Adf {n0:Int} {r0:SRelation} (x5:Int) (o:Int ⊕ (Unit ⊕ Unit)) (h:Gc n0 r0 x5=some o):vc Tryz.prog Rh (Dc [5,3,0] (L3 n0 r0) (Sn n0 r0) o) (L3 n0 r0 x5):=by
 unfold Gc at h
 try dsimp only at h
 conv=>whnf
 refine Cells.lit rfl rfl ?_
 conv=>whnf
 refine Len.map ?_
 conv=>whnf
 refine Br.od h (fun p6 h=> ?_) (fun p6 h=> ?_)
 ·conv=>whnf
  refine Cells.lit rfl rfl ?_
  conv=>whnf
  refine Cells.lit rfl rfl ?_
  conv=>whnf
  refine Len.map ?_
  conv=>whnf
  refine Ask.o h fun p7 h=> ?_
  conv=>whnf
  refine Elem.o (by first | omega | (simp [Be] at * <;> omega)) ?_
  conv=>whnf
  refine CallP.o V.bool (by first | rfl | simp only [Aa,V.fz,fzL,V.up,upL,Ab,Ac,Ad,slr,List.cons_append,List.nil_append] | simp [Aa,V.fz,fzL,V.up,upL,Ab,Ac,Ad,slr]) h (fun r h=>Aip h) (fun r8 h=> ?_)
  conv=>whnf
  refine Br.flip ?_
  conv=>whnf
  refine Br.ob h (fun p9 h=> ?_) (fun p9 h=> ?_)
  ·conv=>whnf
   refine Br.no ?_
   conv=>whnf
   refine Br.no ?_
   conv=>whnf
   refine Br.od h (fun p10 h=> ?_) (fun p10 h=> ?_)
   ·conv=>whnf
    refine Br.yes ?_
    conv=>whnf
    refine Cells.lit rfl rfl ?_
    conv=>whnf
    refine Br.yes ?_
    conv=>whnf
    refine Br.yes ?_
    conv=>whnf
    refine Ask.o h fun p11 h=> ?_
    conv=>whnf
    refine Br.yes ?_
    conv=>whnf
    refine Len.map ?_
    conv=>whnf
    refine Ask.o h fun p12 h=> ?_
    conv=>whnf
    refine Elem.o (by first | omega | (simp [Be] at * <;> omega)) ?_
    conv=>whnf
    refine Br.yes ?_
    conv=>whnf
    refine Br.yes ?_
    conv=>whnf
    refine Br.yes ?_
    conv=>whnf
    refine Cells.lit rfl rfl ?_
    conv=>whnf
    refine Br.yes ?_
    conv=>whnf
    refine Br.yes ?_
    conv=>whnf
    refine Len.map ?_
    conv=>whnf
    refine Ask.o h fun p13 h=> ?_
    conv=>whnf
    refine Elem.o (by first | omega | (simp [Be] at * <;> omega)) ?_
    conv=>whnf
    refine Br.yes ?_
    conv=>whnf
    refine Br.yes ?_
    conv=>whnf
    refine CallQ.o V.bool (by first | rfl | simp only [Aa,V.fz,fzL,V.up,upL,Ab,Ac,Ad,slr,List.cons_append,List.nil_append] | simp [Aa,V.fz,fzL,V.up,upL,Ab,Ac,Ad,slr]) h (fun r h=>Aaf h) (fun r14 h=> ?_)
    conv=>whnf
    refine Br.yes ?_
    conv=>whnf
    refine Br.no ?_
    conv=>whnf
    refine Br.yes ?_
    conv=>whnf
    refine Br.no ?_
    conv=>whnf
    refine Br.flip ?_
    conv=>whnf
    refine Br.ob h (fun p15 h=> ?_) (fun p15 h=> ?_)
    ·conv=>whnf
     refine Ask.o h fun p16 h=> ?_
     conv=>whnf
     cases h;exact ⟨rfl,rfl⟩
    conv=>whnf
    cases h;exact ⟨rfl,rfl⟩
   conv=>whnf
   refine Br.no ?_
   conv=>whnf
   refine Br.no ?_
   conv=>whnf
   refine Br.no ?_
   conv=>whnf
   refine Br.no ?_
   conv=>whnf
   refine Br.no ?_
   conv=>whnf
   refine Br.no ?_
   conv=>whnf
   refine Br.no ?_
   conv=>whnf
   refine Br.no ?_
   conv=>whnf
   refine Br.no ?_
   conv=>whnf
   refine Br.no ?_
   conv=>whnf
   refine Br.no ?_
   conv=>whnf
   refine Br.no ?_
   conv=>whnf
   refine Br.no ?_
   conv=>whnf
   refine Br.no ?_
   conv=>whnf
   refine Br.no ?_
   conv=>whnf
   refine Br.no ?_
   conv=>whnf
   refine Ask.o h fun p17 h=> ?_
   conv=>whnf
   cases h;exact ⟨rfl,rfl⟩
  conv=>whnf
  refine Br.yes ?_
  conv=>whnf
  refine Br.yes ?_
  conv=>whnf
  refine Br.yes ?_
  conv=>whnf
  refine Br.yes ?_
  conv=>whnf
  refine Br.yes ?_
  conv=>whnf
  cases h;exact ⟨rfl,rfl⟩
 conv=>whnf
 cases h;exact ⟨rfl,rfl⟩
noncomputable def G7 (n0:Int) (r0:SRelation):Option Bool:=
 (((Fb (r0.Arity) ((1:Int)) ((3:Int))).bind fun r1=>
 if (r1)=true then
 (Jl (n0) (r0.Arity)).bind fun r3=>
 if (↑r0.Tuples.length:Int)>r3 then
 some (.inl ())
 else
 some (.inr ())
 else
 some (.inl ()):Option (Unit ⊕ Unit))).bind fun t=>match t with
 | (.inl _)=>(some false)
 | (.inr _)=>((Ao (Gc n0 r0) (0:Int)).bind fun t=>match t with
 | (.inl _)=>(some false)
 | (.inr _)=>(some true))
theorem Xq {n0:Int} {r0:SRelation} {v:Bool} (h:G7 n0 r0=some v):Ret Tryz.prog L5 [Ae n0,(Ai false) r0] (V.bool v):=by
 refine A5 Ah7 (Nat.le_of_ble_eq_true rfl) ?_
 unfold G7 at h
 conv=>whnf
 refine CutQ.o (fun t:(Unit ⊕ Unit)=>match t with | (.inl s)=>(Ex.ret,[4],[(4,A.val (V.bool (false)))]) | (.inr s)=>(Ex.normal,[3,0],[(3,A.val ((rP true (Ai false)) (r0))),(0,A.val (Ae (n0)))])) h ?_ ?_
 ·intro t h
  conv=>whnf
  refine Cells.lit rfl rfl ?_
  conv=>whnf
  refine CallP.o V.bool (by first | rfl | simp only [Aa,V.fz,fzL,V.up,upL,Ab,Ac,Ad,slr,List.cons_append,List.nil_append] | simp [Aa,V.fz,fzL,V.up,upL,Ab,Ac,Ad,slr]) h (fun r h=>Lc h) (fun r1 h=> ?_)
  conv=>whnf
  refine Br.flip ?_
  conv=>whnf
  refine Br.ob h (fun p2 h=> ?_) (fun p2 h=> ?_)
  ·conv=>whnf
   refine Br.no ?_
   conv=>whnf
   refine Cells.lit rfl rfl ?_
   conv=>whnf
   refine Br.no ?_
   conv=>whnf
   refine Len.map ?_
   conv=>whnf
   refine Br.no ?_
   conv=>whnf
   refine Br.no ?_
   conv=>whnf
   refine Br.no ?_
   conv=>whnf
   refine Cells.lit rfl rfl ?_
   conv=>whnf
   refine Br.no ?_
   conv=>whnf
   refine CallP.o Ae (by first | rfl | simp only [Aa,V.fz,fzL,V.up,upL,Ab,Ac,Ad,slr,List.cons_append,List.nil_append] | simp [Aa,V.fz,fzL,V.up,upL,Ab,Ac,Ad,slr]) h (fun r h=>Ac6 h) (fun r3 h=> ?_)
   conv=>whnf
   refine Br.no ?_
   conv=>whnf
   refine Br.no ?_
   conv=>whnf
   refine Br.od h (fun p4 h=> ?_) (fun p4 h=> ?_)
   ·conv=>whnf
    cases h;exact ⟨rfl,rfl⟩
   conv=>whnf
   cases h;exact ⟨rfl,rfl⟩
  conv=>whnf
  refine Br.yes ?_
  conv=>whnf
  refine Br.yes ?_
  conv=>whnf
  refine Br.yes ?_
  conv=>whnf
  refine Br.yes ?_
  conv=>whnf
  refine Br.yes ?_
  conv=>whnf
  refine Br.yes ?_
  conv=>whnf
  refine Br.yes ?_
  conv=>whnf
  refine Br.yes ?_
  conv=>whnf
  refine Br.yes ?_
  conv=>whnf
  cases h;exact ⟨rfl,rfl⟩
 rintro (⟨⟩ | ⟨⟩) h
 ·try dsimp only at h
  conv=>whnf
  cases h;exact (by first | rfl | simp only [Ah,Aa,V.fz,fzL,V.up,upL,Ab,Ac,Ad,slr] | simp [Ah,Aa,V.fz,fzL,V.up,upL,Ab,Ac,Ad,slr])
 try dsimp only at h
 conv=>whnf
 refine LoopQ.o [5,3,0] (L3 n0 r0) (Sn n0 r0) h (fun s o h=>Adf s o h) (by first | rfl | simp [restrict,look,Aa,V.fz,fzL,V.up,upL,Ab,Ac,Ad,slr]) (by rintro (_ | _)<;>rfl) ?_
 rintro (⟨⟩ | ⟨⟩) h
 ·try dsimp only at h
  conv=>whnf
  cases h;exact (by first | rfl | simp only [Ah,Aa,V.fz,fzL,V.up,upL,Ab,Ac,Ad,slr] | simp [Ah,Aa,V.fz,fzL,V.up,upL,Ab,Ac,Ad,slr])
 try dsimp only at h
 conv=>whnf
 cases h;exact (by first | rfl | simp only [Ah,Aa,V.fz,fzL,V.up,upL,Ab,Ac,Ad,slr] | simp [Ah,Aa,V.fz,fzL,V.up,upL,Ab,Ac,Ad,slr])
end Go.Proofs.YtjcekpmojnnmbaaGreat.Ax
