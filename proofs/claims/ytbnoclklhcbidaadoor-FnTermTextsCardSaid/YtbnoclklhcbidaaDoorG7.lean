/-
 What the functions compute, as functions on plain data, and that the program does compute it; written by program.
-/
import Derived.Test.YtbnoclklhcbidaaDoorCode
import Derived.Test.YtbnoclklhcbidaaDoorG1
import Derived.Test.YtbnoclklhcbidaaDoorG4
import Derived.Test.YtbnoclklhcbidaaDoorG5
import Derived.Test.YtbnoclklhcbidaaDoorG6
namespace Go.Proofs.YtbnoclklhcbidaaDoor.Ax
open Go
set_option maxRecDepth 100000
set_option maxHeartbeats 4000000
noncomputable def Dc (r4:Int) (_x6:Int) (_x5:SAlgebra):(Int×SOp×Sl1Cur)→Option ((Int×SOp×Sl1Cur) ⊕ (SOp×Sl1Cur)):=fun (x8,x7,x132')=>
 if x8>(0:Int) then
 (Am (x132') (r4)).bind fun (r16,u17)=>
 ask ((x7.Table).length+([r16]).length≤LIM) <|
 ask (InI (x8-(1:Int))) <|
 some (.inl (x8-(1:Int),{ Arity:=x7.Arity,Table:=x7.Table++[r16] },u17))
 else
 some (.inr (x7,x132'))
def Ga (r4:Int) (x6:Int) (x5:SAlgebra):(Int×SOp×Sl1Cur)→St:=fun s=>[(8,A.val (Af s.1)),(7,A.val ((rP true (Bi true)) s.2.1)),(6,A.val (Af (x6))),(5,A.val ((rP true (Ag true)) (x5))),(4,A.val (Af (r4))),(2,A.val ((rP true (Ag true)) ({ Size:=(0:Int),Ops:=A4 SOp }))),(0,A.ref 132 []),(132,A.val ((rP true (Aj false)) s.2.2))]
def Ja (r4:Int) (x6:Int) (x5:SAlgebra):(SOp×Sl1Cur)→Tgt
 | s=>((Ex.exit 2),[7,6,5,4,2,0,132],[(7,A.val ((rP true (Bi true)) s.1)),(6,A.val (Af (x6))),(5,A.val ((rP true (Ag true)) (x5))),(4,A.val (Af (r4))),(2,A.val ((rP true (Ag true)) ({ Size:=(0:Int),Ops:=A4 SOp }))),(0,A.ref 132 []),(132,A.val ((rP true (Aj false)) s.2))])
theorem Qp {r4:Int} {x6:Int} {x5:SAlgebra} (s:(Int×SOp×Sl1Cur)) (o:(Int×SOp×Sl1Cur) ⊕ (SOp×Sl1Cur)) (h:Dc r4 x6 x5 s=some o):vc Tryd.prog Jf (Gg [8,7,6,5,4,2,0,132] (Ga r4 x6 x5) (Ja r4 x6 x5) o) (Ga r4 x6 x5 s):=by
 obtain ⟨x8,x7,x132'⟩:=s
 unfold Dc at h
 try dsimp only at h
 conv=>whnf
 refine Br.od h (fun p15 h=> ?_) (fun p15 h=> ?_)
 ·conv=>whnf
  refine Cells.lit rfl rfl ?_
  conv=>whnf
  refine LendP.io Af (rP true (Aj false)) (by first | rfl | simp only [Aa,V.fz,fzL,V.up,upL,Ab,Ac,Ad,slr,List.cons_append,List.nil_append] | simp [Aa,V.fz,fzL,V.up,upL,Ab,Ac,Ad,slr]) (fun _=>rfl) (fun _=>⟨rfl,rfl⟩) (fun _=>rfl) h (fun r h=>Ar h) (fun r16 u17 h=> ?_)
  conv=>whnf
  refine BslQ.o Af [r16] (by exact fun _=>⟨rfl,rfl⟩) (by first | rfl | (simp only [Aa,V.fz,fzL,V.up,upL,Ab,Ac,Ad,slr,List.cons_append,List.nil_append];done) | simp [Aa,V.fz,fzL,V.up,upL,Ab,Ac,Ad,slr]) ?_
  conv=>whnf
  refine NoOwn.o (fun _=>rfl) ?_
  conv=>whnf
  refine Kid.lit rfl rfl ?_
  conv=>whnf
  refine Kid.lit rfl rfl ?_
  conv=>whnf
  refine SetKids.lit rfl ?_
  conv=>whnf
  refine AppQ.o (m:=1) Af (by exact fun _=>⟨rfl,rfl⟩) (x7.Table) ([r16]) (by first | rfl | simp only [Aa,V.fz,fzL,V.up,upL,Ab,Ac,Ad,slr,List.cons_append,List.nil_append] | simp [Aa,V.fz,fzL,V.up,upL,Ab,Ac,Ad,slr]) (by first | rfl | simp only [Aa,V.fz,fzL,V.up,upL,Ab,Ac,Ad,slr,List.cons_append,List.nil_append] | simp [Aa,V.fz,fzL,V.up,upL,Ab,Ac,Ad,slr]) h fun h=> ?_
  conv=>whnf
  refine SetKids.lit rfl ?_
  conv=>whnf
  refine Ask.o h fun p18 h=> ?_
  conv=>whnf
  cases h;exact ⟨rfl,rfl⟩
 conv=>whnf
 cases h;exact ⟨rfl,rfl⟩
noncomputable def C4 (r4:Int):(Int×SAlgebra×Sl1Cur)→Option ((Int×SAlgebra×Sl1Cur) ⊕ (SAlgebra×Sl1Cur)):=fun (x6,x5,x132)=>
 if x6>(0:Int) then
 (Al (x132) ([(0:Int),(1:Int),(2:Int),(2:Int),(3:Int)])).bind fun (r9,u10)=>
 ((if r4=(4:Int) then
 if r9=(3:Int) then
 some ({ Arity:=(2:Int),Table:=A4 Int })
 else
 some ({ Arity:=r9,Table:=A4 Int })
 else
 some ({ Arity:=r9,Table:=A4 Int }):Option SOp)).bind fun q13_7=>
 (Gj (r4) (q13_7.Arity)).bind fun r14=>
 (A7 (Dc r4 x6 x5) (r14,q13_7,u10)).bind fun (q19_7,q19_132)=>
 ask ((x5.Ops).length+([q19_7]).length≤LIM) <|
 ask (InI (x6-(1:Int))) <|
 some (.inl (x6-(1:Int),{ Size:=x5.Size,Ops:=x5.Ops++[q19_7] },q19_132))
 else
 some (.inr (x5,x132))
def Gd (r4:Int):(Int×SAlgebra×Sl1Cur)→St:=fun s=>[(6,A.val (Af s.1)),(5,A.val ((rP true (Ag true)) s.2.1)),(4,A.val (Af (r4))),(2,A.val ((rP true (Ag true)) ({ Size:=(0:Int),Ops:=A4 SOp }))),(0,A.ref 132 []),(132,A.val ((rP true (Aj false)) s.2.2))]
def Ji (r4:Int):(SAlgebra×Sl1Cur)→Tgt
 | s=>((Ex.exit 0),[5,4,2,0,132],[(5,A.val ((rP true (Ag true)) s.1)),(4,A.val (Af (r4))),(2,A.val ((rP true (Ag true)) ({ Size:=(0:Int),Ops:=A4 SOp }))),(0,A.ref 132 []),(132,A.val ((rP true (Aj false)) s.2))])
theorem Qt {r4:Int} (s:(Int×SAlgebra×Sl1Cur)) (o:(Int×SAlgebra×Sl1Cur) ⊕ (SAlgebra×Sl1Cur)) (h:C4 r4 s=some o):vc Tryd.prog Jg (Gg [6,5,4,2,0,132] (Gd r4) (Ji r4) o) (Gd r4 s):=by
 obtain ⟨x6,x5,x132⟩:=s
 unfold C4 at h
 try dsimp only at h
 conv=>whnf
 refine Br.od h (fun p8 h=> ?_) (fun p8 h=> ?_)
 ·conv=>whnf
  refine BslQ.o Af ([(0:Int),(1:Int),(2:Int),(2:Int),(3:Int)]) (by exact fun _=>⟨rfl,rfl⟩) (by first | rfl | (simp only [Aa,V.fz,fzL,V.up,upL,Ab,Ac,Ad,slr,List.cons_append,List.nil_append];done) | simp [Aa,V.fz,fzL,V.up,upL,Ab,Ac,Ad,slr]) ?_
  conv=>whnf
  refine CallQ.io Af (rP true (Aj false)) (by first | rfl | (simp only [Aa,Ak,V.fz,fzL,Ab,Ac,slr];done) | simp [Aa,Ak,V.fz,fzL,V.up,upL,Ab,Ac,Ad,slr]) rfl (fun _=>rfl) (fun _=>⟨rfl,rfl⟩) rfl h (fun r h=>As h) (fun r9 u10 h=> ?_)
  conv=>whnf
  refine SetKids.lit rfl ?_
  conv=>whnf
  refine CutQ.o (fun t:SOp=>match t with | s=>(Ex.normal,[7,6,5,4,2,0,132],[(7,A.val ((rP true (Bi true)) s)),(6,A.val (Af (x6))),(5,A.val ((rP true (Ag true)) (x5))),(4,A.val (Af (r4))),(2,A.val ((rP true (Ag true)) ({ Size:=(0:Int),Ops:=A4 SOp }))),(0,A.ref 132 []),(132,A.val ((rP true (Aj false)) (u10)))])) h ?_ ?_
  ·intro t h
   conv=>whnf
   refine Br.oe h (fun p11 h=> ?_) (fun p11 h=> ?_)
   ·conv=>whnf
    refine Br.yes ?_
    conv=>whnf
    refine Cells.lit rfl rfl ?_
    conv=>whnf
    refine Br.yes ?_
    conv=>whnf
    refine Br.yes ?_
    conv=>whnf
    refine Br.oe h (fun p12 h=> ?_) (fun p12 h=> ?_)
    ·conv=>whnf
     refine SetKids.lit rfl ?_
     conv=>whnf
     cases h;exact ⟨rfl,rfl⟩
    conv=>whnf
    cases h;exact ⟨rfl,rfl⟩
   conv=>whnf
   refine Br.no ?_
   conv=>whnf
   refine Br.no ?_
   conv=>whnf
   refine Br.no ?_
   conv=>whnf
   refine Br.no ?_
   conv=>whnf
   cases h;exact ⟨rfl,rfl⟩
  rintro q13_7 h
  try dsimp only at h
  conv=>whnf
  refine Cells.lit rfl rfl ?_
  conv=>whnf
  refine CallQ.o Af (by first | rfl | simp only [Aa,V.fz,fzL,V.up,upL,Ab,Ac,Ad,slr,List.cons_append,List.nil_append] | simp [Aa,V.fz,fzL,V.up,upL,Ab,Ac,Ad,slr]) h (fun r h=>Xn h) (fun r14 h=> ?_)
  conv=>whnf
  refine LoopQ.o [8,7,6,5,4,2,0,132] (Ga r4 x6 x5) (Ja r4 x6 x5) h (fun s o h=>Qp s o h) (by first | rfl | simp [restrict,look,Aa,V.fz,fzL,V.up,upL,Ab,Ac,Ad,slr]) (fun _=>rfl) ?_
  rintro ⟨q19_7,q19_132⟩ h
  try dsimp only at h
  conv=>whnf
  refine Cells.lit rfl rfl ?_
  conv=>whnf
  refine Cells.lit rfl rfl ?_
  conv=>whnf
  refine BslQ.o (Bi true) [q19_7] (by exact fun _=>⟨rfl,rfl⟩) (by first | rfl | (simp only [Aa,V.fz,fzL,V.up,upL,Ab,Ac,Ad,slr,List.cons_append,List.nil_append];done) | simp [Aa,V.fz,fzL,V.up,upL,Ab,Ac,Ad,slr]) ?_
  conv=>whnf
  refine NoOwn.own rfl ?_
  conv=>whnf
  refine Kid.lit rfl rfl ?_
  conv=>whnf
  refine Kid.lit rfl rfl ?_
  conv=>whnf
  refine SetKids.lit rfl ?_
  conv=>whnf
  refine AppQ.o (m:=2) (Bi true) (by exact fun _=>⟨rfl,rfl⟩) (x5.Ops) ([q19_7]) (by first | rfl | simp only [Aa,V.fz,fzL,V.up,upL,Ab,Ac,Ad,slr,List.cons_append,List.nil_append] | simp [Aa,V.fz,fzL,V.up,upL,Ab,Ac,Ad,slr]) (by first | rfl | simp only [Aa,V.fz,fzL,V.up,upL,Ab,Ac,Ad,slr,List.cons_append,List.nil_append] | simp [Aa,V.fz,fzL,V.up,upL,Ab,Ac,Ad,slr]) h fun h=> ?_
  conv=>whnf
  refine SetKids.lit rfl ?_
  conv=>whnf
  refine Ask.o h fun p20 h=> ?_
  conv=>whnf
  cases h;exact ⟨rfl,rfl⟩
 conv=>whnf
 cases h;exact ⟨rfl,rfl⟩
noncomputable def Db (r4:Int):(SAlgebra×Sl1Cur)→Option ((SAlgebra×Sl1Cur) ⊕ (SAlgebra×Sl1Cur)):=fun (x5,x132)=>
 (Am (x132) ((2:Int))).bind fun (r52,u53)=>
 ask (InI ((4:Int)+r52)) <|
 if (↑x5.Ops.length:Int)<(4:Int)+r52 then
 ask ((0:Int)≤r4∧r4≤(↑LIM:Int)) <|
 ask ((x5.Ops).length+(([{ Arity:=(1:Int),Table:=List.replicate r4.toNat (0:Int) }]:List SOp)).length≤LIM) <|
 some (.inl ({ Size:=x5.Size,Ops:=x5.Ops++[{ Arity:=(1:Int),Table:=List.replicate r4.toNat (0:Int) }] },u53))
 else
 some (.inr (x5,u53))
def Gb (r4:Int):(SAlgebra×Sl1Cur)→St:=fun s=>[(5,A.val ((rP true (Ag true)) s.1)),(4,A.val (Af (r4))),(2,A.val ((rP true (Ag true)) ({ Size:=(0:Int),Ops:=A4 SOp }))),(0,A.ref 132 []),(132,A.val ((rP true (Aj false)) s.2))]
def Jk (_r4:Int):(SAlgebra×Sl1Cur)→Tgt
 | s=>((Ex.exit 5),[5,2,132],[(5,A.val ((rP true (Ag true)) s.1)),(2,A.val ((rP true (Ag true)) ({ Size:=(0:Int),Ops:=A4 SOp }))),(132,A.val ((rP true (Aj false)) s.2))])
theorem Qo {r4:Int} (s:(SAlgebra×Sl1Cur)) (o:(SAlgebra×Sl1Cur) ⊕ (SAlgebra×Sl1Cur)) (h:Db r4 s=some o):vc Tryd.prog Jd (Gg [5,4,2,0,132] (Gb r4) (Jk r4) o) (Gb r4 s):=by
 obtain ⟨x5,x132⟩:=s
 unfold Db at h
 try dsimp only at h
 conv=>whnf
 refine Cells.lit rfl rfl ?_
 conv=>whnf
 refine Kid.lit rfl rfl ?_
 conv=>whnf
 refine Len.map ?_
 conv=>whnf
 refine LendP.io Af (rP true (Aj false)) (by first | rfl | simp only [Aa,V.fz,fzL,V.up,upL,Ab,Ac,Ad,slr,List.cons_append,List.nil_append] | simp [Aa,V.fz,fzL,V.up,upL,Ab,Ac,Ad,slr]) (fun _=>rfl) (fun _=>⟨rfl,rfl⟩) (fun _=>rfl) h (fun r h=>Ar h) (fun r52 u53 h=> ?_)
 conv=>whnf
 refine Ask.o h fun p54 h=> ?_
 conv=>whnf
 refine Br.od h (fun p55 h=> ?_) (fun p55 h=> ?_)
 ·conv=>whnf
  refine Cells.lit rfl rfl ?_
  conv=>whnf
  refine SameQ.mk ⟨rfl,?_⟩
  conv=>whnf
  refine Cells.lit rfl rfl ?_
  conv=>whnf
  refine SameQ.mk ⟨rfl,?_⟩
  conv=>whnf
  refine SameQ.mk ⟨rfl,?_⟩
  conv=>whnf
  refine Ask.o h fun p56 h=> ?_
  conv=>whnf
  refine MkQ.o Af ((0:Int)) rfl ?_
  conv=>whnf
  refine SameQ.mk ⟨rfl,?_⟩
  conv=>whnf
  refine Cells.lit rfl rfl ?_
  conv=>whnf
  refine SameQ.mk ⟨rfl,?_⟩
  conv=>whnf
  refine SameQ.mk ⟨rfl,?_⟩
  conv=>whnf
  refine Cells.lit rfl rfl ?_
  conv=>whnf
  refine SameQ.mk ⟨rfl,?_⟩
  conv=>whnf
  refine BslQ.o (Bi true) ([{ Arity:=(1:Int),Table:=List.replicate r4.toNat (0:Int) }]) (by exact fun _=>⟨rfl,rfl⟩) (by first | rfl | (simp only [Aa,V.fz,fzL,V.up,upL,Ab,Ac,Ad,slr,List.cons_append,List.nil_append];done) | simp [Aa,V.fz,fzL,V.up,upL,Ab,Ac,Ad,slr]) ?_
  conv=>whnf
  refine SameQ.mk ⟨rfl,?_⟩
  conv=>whnf
  refine Cells.lit rfl rfl ?_
  conv=>whnf
  refine SameQ.mk ⟨rfl,?_⟩
  conv=>whnf
  refine NoOwn.own rfl ?_
  conv=>whnf
  refine Kid.lit rfl rfl ?_
  conv=>whnf
  refine Kid.lit rfl rfl ?_
  conv=>whnf
  refine SetKids.lit rfl ?_
  conv=>whnf
  refine AppQ.o (m:=2) (Bi true) (by exact fun _=>⟨rfl,rfl⟩) (x5.Ops) ([{ Arity:=(1:Int),Table:=List.replicate r4.toNat (0:Int) }]) (by first | rfl | simp only [Aa,V.fz,fzL,V.up,upL,Ab,Ac,Ad,slr,List.cons_append,List.nil_append] | simp [Aa,V.fz,fzL,V.up,upL,Ab,Ac,Ad,slr]) (by first | rfl | simp only [Aa,V.fz,fzL,V.up,upL,Ab,Ac,Ad,slr,List.cons_append,List.nil_append] | simp [Aa,V.fz,fzL,V.up,upL,Ab,Ac,Ad,slr]) h fun h=> ?_
  conv=>whnf
  refine SetKids.lit rfl ?_
  conv=>whnf
  cases h;exact ⟨rfl,rfl⟩
 conv=>whnf
 cases h;exact ⟨rfl,rfl⟩
noncomputable def Cb (c0:Sl1Cur):Option (SAlgebra×Sl1Cur):=
 (Cg (c0) ((4:Int))).bind fun (r1,u2)=>
 if (r1)=true then
 (Al (u2) ([(2:Int),(2:Int),(3:Int),(3:Int),(4:Int)])).bind fun (r4,u5)=>
 (Al (u5) ([(1:Int),(1:Int),(2:Int)])).bind fun (r6,u7)=>
 (A7 (C4 r4) (r6,{ Size:=r4,Ops:=A4 SOp },u7)).bind fun (q21_5,q21_132)=>
 (Am (q21_132) ((16:Int))).bind fun (r22,u23)=>
 if r22=(0:Int) then
 ask (InI (r4+(1:Int))) <|
 (Al (u23) ([(0:Int),(9:Int),r4+(1:Int)])).bind fun (r26,u27)=>
 some ({ Size:=r26,Ops:=q21_5.Ops },u27)
 else
 if r22=(1:Int) then
 ask ((0:Int)≤(0:Int)∧(0:Int)<(↑q21_5.Ops.length:Int)) <|
 ask (((nth q21_5.Ops (Int.toNat (0:Int))).Table).length+([(0:Int)]).length≤LIM) <|
 some ({ Size:=q21_5.Size,Ops:=q21_5.Ops.set (Int.toNat (0:Int)) { Arity:=(nth q21_5.Ops (Int.toNat (0:Int))).Arity,Table:=(nth q21_5.Ops (Int.toNat (0:Int))).Table++[(0:Int)] } },u23)
 else
 if r22=(2:Int) then
 ask ((0:Int)≤(0:Int)∧(0:Int)<(↑q21_5.Ops.length:Int)) <|
 (Am (u23) ((↑(nth q21_5.Ops (Int.toNat (0:Int))).Table.length:Int))).bind fun (r32,u33)=>
 (Al (u33) ([(-1:Int),r4])).bind fun (r34,u35)=>
 ask ((0:Int)≤r32∧r32<(↑(nth q21_5.Ops (Int.toNat (0:Int))).Table.length:Int)) <|
 some ({ Size:=q21_5.Size,Ops:=q21_5.Ops.set (Int.toNat (0:Int)) { Arity:=(nth q21_5.Ops (Int.toNat (0:Int))).Arity,Table:=(nth q21_5.Ops (Int.toNat (0:Int))).Table.set r32.toNat r34 } },u35)
 else
 if r22=(3:Int) then
 (Al (u23) ([(-1:Int),(4:Int)])).bind fun (r48,u49)=>
 ask ((0:Int)≤(0:Int)∧(0:Int)<(↑q21_5.Ops.length:Int)) <|
 some ({ Size:=q21_5.Size,Ops:=q21_5.Ops.set (Int.toNat (0:Int)) { Arity:=r48,Table:=(nth q21_5.Ops (Int.toNat (0:Int))).Table } },u49)
 else
 if r22=(4:Int) then
 (A7 (Db r4) (q21_5,u23)).bind fun (q57_5,q57_132)=>
 some (q57_5,q57_132)
 else
 some (q21_5,u23)
 else
 (Am (u2) ((17:Int))).bind fun (r58,u59)=>
 (Hm (r58)).bind fun r60=>
 some (r60,u59)
theorem Fq {c0:Sl1Cur} {v:(SAlgebra×Sl1Cur)} (h:Cb c0=some v):Iq Tryd.prog C5 [(rP true (Aj false)) c0] ((Ag true) v.1) 0 ((rP true (Aj false)) v.2):=by
 refine M5 Sq (Nat.le_of_ble_eq_true rfl) ?_
 unfold Cb at h
 conv=>whnf
 refine CallQ.io V.bool (rP true (Aj false)) (by first | rfl | simp only [Aa,V.fz,fzL,V.up,upL,Ab,Ac,Ad,slr,List.cons_append,List.nil_append] | simp [Aa,V.fz,fzL,V.up,upL,Ab,Ac,Ad,slr]) rfl (fun _=>rfl) (fun _=>⟨rfl,rfl⟩) rfl h (fun r h=>F7 h) (fun r1 u2 h=> ?_)
 conv=>whnf
 refine Br.flip ?_
 conv=>whnf
 refine Br.ob h (fun p3 h=> ?_) (fun p3 h=> ?_)
 ·conv=>whnf
  refine BslQ.o Af ([(2:Int),(2:Int),(3:Int),(3:Int),(4:Int)]) (by exact fun _=>⟨rfl,rfl⟩) (by first | rfl | (simp only [Aa,V.fz,fzL,V.up,upL,Ab,Ac,Ad,slr,List.cons_append,List.nil_append];done) | simp [Aa,V.fz,fzL,V.up,upL,Ab,Ac,Ad,slr]) ?_
  conv=>whnf
  refine CallQ.io Af (rP true (Aj false)) (by first | rfl | (simp only [Aa,Ak,V.fz,fzL,Ab,Ac,slr];done) | simp [Aa,Ak,V.fz,fzL,V.up,upL,Ab,Ac,Ad,slr]) rfl (fun _=>rfl) (fun _=>⟨rfl,rfl⟩) rfl h (fun r h=>As h) (fun r4 u5 h=> ?_)
  conv=>whnf
  refine SetKids.lit rfl ?_
  conv=>whnf
  refine BslQ.o Af ([(1:Int),(1:Int),(2:Int)]) (by exact fun _=>⟨rfl,rfl⟩) (by first | rfl | (simp only [Aa,V.fz,fzL,V.up,upL,Ab,Ac,Ad,slr,List.cons_append,List.nil_append];done) | simp [Aa,V.fz,fzL,V.up,upL,Ab,Ac,Ad,slr]) ?_
  conv=>whnf
  refine CallQ.io Af (rP true (Aj false)) (by first | rfl | (simp only [Aa,Ak,V.fz,fzL,Ab,Ac,slr];done) | simp [Aa,Ak,V.fz,fzL,V.up,upL,Ab,Ac,Ad,slr]) rfl (fun _=>rfl) (fun _=>⟨rfl,rfl⟩) rfl h (fun r h=>As h) (fun r6 u7 h=> ?_)
  conv=>whnf
  refine LoopQ.o [6,5,4,2,0,132] (Gd r4) (Ji r4) h (fun s o h=>Qt s o h) (by first | rfl | simp [restrict,look,Aa,V.fz,fzL,V.up,upL,Ab,Ac,Ad,slr]) (fun _=>rfl) ?_
  rintro ⟨q21_5,q21_132⟩ h
  try dsimp only at h
  conv=>whnf
  refine CallQ.io Af (rP true (Aj false)) (by first | rfl | simp only [Aa,V.fz,fzL,V.up,upL,Ab,Ac,Ad,slr,List.cons_append,List.nil_append] | simp [Aa,V.fz,fzL,V.up,upL,Ab,Ac,Ad,slr]) rfl (fun _=>rfl) (fun _=>⟨rfl,rfl⟩) rfl h (fun r h=>Ar h) (fun r22 u23 h=> ?_)
  conv=>whnf
  refine Br.oe h (fun p24 h=> ?_) (fun p24 h=> ?_)
  ·conv=>whnf
   refine Ask.o h fun p25 h=> ?_
   conv=>whnf
   refine BslQ.o Af ([(0:Int),(9:Int),r4+(1:Int)]) (by exact fun _=>⟨rfl,rfl⟩) (by first | rfl | (simp only [Aa,V.fz,fzL,V.up,upL,Ab,Ac,Ad,slr,List.cons_append,List.nil_append];done) | simp [Aa,V.fz,fzL,V.up,upL,Ab,Ac,Ad,slr]) ?_
   conv=>whnf
   refine CallQ.io Af (rP true (Aj false)) (by first | rfl | (simp only [Aa,Ak,V.fz,fzL,Ab,Ac,slr];done) | simp [Aa,Ak,V.fz,fzL,V.up,upL,Ab,Ac,Ad,slr]) rfl (fun _=>rfl) (fun _=>⟨rfl,rfl⟩) rfl h (fun r h=>As h) (fun r26 u27 h=> ?_)
   conv=>whnf
   refine SetKids.lit rfl ?_
   conv=>whnf
   refine Cells.lit rfl rfl ?_
   conv=>whnf
   refine SetKids.lit rfl ?_
   conv=>whnf
   cases h;exact ⟨(by first | rfl | simp only [Ah,Aa,V.fz,fzL,V.up,upL,Ab,Ac,Ad,slr] | simp [Ah,Aa,V.fz,fzL,V.up,upL,Ab,Ac,Ad,slr]),(by first | rfl | simp only [Ah,Aa,V.fz,fzL,V.up,upL,Ab,Ac,Ad,slr] | simp [Ah,Aa,V.fz,fzL,V.up,upL,Ab,Ac,Ad,slr])⟩
  conv=>whnf
  refine Br.oe h (fun p28 h=> ?_) (fun p28 h=> ?_)
  ·conv=>whnf
   refine Cells.lit rfl rfl ?_
   conv=>whnf
   refine Cells.lit rfl rfl ?_
   conv=>whnf
   refine Kid.lit rfl rfl ?_
   conv=>whnf
   refine Len.map ?_
   conv=>whnf
   refine Ask.o h fun p29 h=> ?_
   conv=>whnf
   refine Kid.lit rfl rfl ?_
   conv=>whnf
   refine Cells.wide (by exact fun _=>⟨rfl,rfl⟩) (by first | omega | (simp [A8] at * <;> omega)) (by decide) ?_
   conv=>whnf
   refine SameQ.mk ⟨rfl,?_⟩
   conv=>whnf
   refine Cells.lit rfl rfl ?_
   conv=>whnf
   refine SameQ.mk ⟨rfl,?_⟩
   conv=>whnf
   refine SameQ.mk ⟨rfl,?_⟩
   conv=>whnf
   refine Cells.lit rfl rfl ?_
   conv=>whnf
   refine SameQ.mk ⟨rfl,?_⟩
   conv=>whnf
   refine Kid.lit rfl rfl ?_
   conv=>whnf
   refine Len.map ?_
   conv=>whnf
   refine Ask.mk p29 ?_
   conv=>whnf
   refine SameQ.mk ⟨rfl,?_⟩
   conv=>whnf
   refine SameQ.mk ⟨rfl,?_⟩
   conv=>whnf
   refine Kid.lit rfl rfl ?_
   conv=>whnf
   refine Cells.wide (by exact fun _=>⟨rfl,rfl⟩) (by first | omega | (simp [A8] at * <;> omega)) (by decide) ?_
   conv=>whnf
   refine SameQ.mk ⟨rfl,?_⟩
   conv=>whnf
   refine BslQ.o Af ([(0:Int)]) (by exact fun _=>⟨rfl,rfl⟩) (by first | rfl | (simp only [Aa,V.fz,fzL,V.up,upL,Ab,Ac,Ad,slr,List.cons_append,List.nil_append];done) | simp [Aa,V.fz,fzL,V.up,upL,Ab,Ac,Ad,slr]) ?_
   conv=>whnf
   refine SameQ.mk ⟨rfl,?_⟩
   conv=>whnf
   refine Cells.lit rfl rfl ?_
   conv=>whnf
   refine SameQ.mk ⟨rfl,?_⟩
   conv=>whnf
   refine SameQ.mk ⟨rfl,?_⟩
   conv=>whnf
   refine Cells.lit rfl rfl ?_
   conv=>whnf
   refine SameQ.mk ⟨rfl,?_⟩
   conv=>whnf
   refine Kid.lit rfl rfl ?_
   conv=>whnf
   refine Len.map ?_
   conv=>whnf
   refine Ask.mk p29 ?_
   conv=>whnf
   refine SameQ.mk ⟨rfl,?_⟩
   conv=>whnf
   refine SameQ.mk ⟨rfl,?_⟩
   conv=>whnf
   refine Kid.lit rfl rfl ?_
   conv=>whnf
   refine Cells.wide (by exact fun _=>⟨rfl,rfl⟩) (by first | omega | (simp [A8] at * <;> omega)) (by decide) ?_
   conv=>whnf
   refine SameQ.mk ⟨rfl,?_⟩
   conv=>whnf
   refine NoOwn.o (fun _=>rfl) ?_
   conv=>whnf
   refine Kid.lit rfl rfl ?_
   conv=>whnf
   refine Kid.wide (by exact fun _=>⟨rfl,rfl⟩) (by first | omega | (simp [A8] at * <;> omega)) (by rfl) ?_
   conv=>whnf
   refine Kid.lit rfl rfl ?_
   conv=>whnf
   refine Kid.wide (by exact fun _=>⟨rfl,rfl⟩) (by first | omega | (simp [A8] at * <;> omega)) (by rfl) ?_
   conv=>whnf
   refine SetKids.mkholeW (by exact fun _=>⟨rfl,rfl⟩) _ (by first | omega | (simp [A8] at * <;> omega)) (by rfl) (by decide) ?_
   conv=>whnf
   refine SetKids.lit rfl ?_
   conv=>whnf
   refine AppQ.o (m:=1) Af (by exact fun _=>⟨rfl,rfl⟩) ((nth q21_5.Ops (Int.toNat (0:Int))).Table) ([(0:Int)]) (by first | rfl | simp only [Aa,V.fz,fzL,V.up,upL,Ab,Ac,Ad,slr,List.cons_append,List.nil_append] | simp [Aa,V.fz,fzL,V.up,upL,Ab,Ac,Ad,slr]) (by first | rfl | simp only [Aa,V.fz,fzL,V.up,upL,Ab,Ac,Ad,slr,List.cons_append,List.nil_append] | simp [Aa,V.fz,fzL,V.up,upL,Ab,Ac,Ad,slr]) h fun h=> ?_
   conv=>whnf
   refine SameQ.mk ⟨rfl,?_⟩
   conv=>whnf
   refine Cells.lit rfl rfl ?_
   conv=>whnf
   refine SameQ.mk ⟨rfl,?_⟩
   conv=>whnf
   refine Kid.lit rfl rfl ?_
   conv=>whnf
   refine Len.holeW ?_
   conv=>whnf
   refine Ask.mk p29 ?_
   conv=>whnf
   refine Kid.lit rfl rfl ?_
   conv=>whnf
   refine SetKids.fillW (by exact fun _=>⟨rfl,rfl⟩) ({ Arity:=(nth q21_5.Ops (Int.toNat (0:Int))).Arity,Table:=(nth q21_5.Ops (Int.toNat (0:Int))).Table++[(0:Int)] }) (by first | omega | (simp [A8] at * <;> omega)) (by rfl) (by rfl) (by decide) ?_
   conv=>whnf
   refine Kid.lit rfl rfl ?_
   conv=>whnf
   refine SetKids.lit rfl ?_
   conv=>whnf
   refine Cells.lit rfl rfl ?_
   conv=>whnf
   refine SetKids.lit rfl ?_
   conv=>whnf
   cases h;exact ⟨(by first | rfl | simp only [Ah,Aa,V.fz,fzL,V.up,upL,Ab,Ac,Ad,slr] | simp [Ah,Aa,V.fz,fzL,V.up,upL,Ab,Ac,Ad,slr]),(by first | rfl | simp only [Ah,Aa,V.fz,fzL,V.up,upL,Ab,Ac,Ad,slr] | simp [Ah,Aa,V.fz,fzL,V.up,upL,Ab,Ac,Ad,slr])⟩
  conv=>whnf
  refine Br.oe h (fun p30 h=> ?_) (fun p30 h=> ?_)
  ·conv=>whnf
   refine Cells.lit rfl rfl ?_
   conv=>whnf
   refine Kid.lit rfl rfl ?_
   conv=>whnf
   refine Len.map ?_
   conv=>whnf
   refine Ask.o h fun p31 h=> ?_
   conv=>whnf
   refine Kid.lit rfl rfl ?_
   conv=>whnf
   refine Cells.wide (by exact fun _=>⟨rfl,rfl⟩) (by first | omega | (simp [A8] at * <;> omega)) (by decide) ?_
   conv=>whnf
   refine Cells.lit rfl rfl ?_
   conv=>whnf
   refine Kid.lit rfl rfl ?_
   conv=>whnf
   refine Len.map ?_
   conv=>whnf
   refine Ask.mk p31 ?_
   conv=>whnf
   refine Kid.lit rfl rfl ?_
   conv=>whnf
   refine Cells.wide (by exact fun _=>⟨rfl,rfl⟩) (by first | omega | (simp [A8] at * <;> omega)) (by decide) ?_
   conv=>whnf
   refine Two.mk ⟨?_,?_⟩
   ·conv=>whnf
    refine SameQ.mk ⟨rfl,?_⟩
    conv=>whnf
    refine Cells.lit rfl rfl ?_
    conv=>whnf
    refine SameQ.mk ⟨rfl,?_⟩
    conv=>whnf
    refine Kid.lit rfl rfl ?_
    conv=>whnf
    refine Len.map ?_
    conv=>whnf
    refine Ask.mk p31 ?_
    conv=>whnf
    refine SameQ.mk ⟨rfl,?_⟩
    conv=>whnf
    refine SameQ.mk ⟨rfl,?_⟩
    conv=>whnf
    refine Kid.lit rfl rfl ?_
    conv=>whnf
    refine Cells.wide (by exact fun _=>⟨rfl,rfl⟩) (by first | omega | (simp [A8] at * <;> omega)) (by decide) ?_
    conv=>whnf
    refine SameQ.mk ⟨rfl,?_⟩
    conv=>whnf
    refine SameQ.mk ⟨rfl,?_⟩
    conv=>whnf
    refine SameQ.mk ⟨rfl,?_⟩
    conv=>whnf
    refine Cells.lit rfl rfl ?_
    conv=>whnf
    refine SameQ.mk ⟨rfl,?_⟩
    conv=>whnf
    refine Kid.lit rfl rfl ?_
    conv=>whnf
    refine Len.map ?_
    conv=>whnf
    refine Ask.mk p31 ?_
    conv=>whnf
    refine SameQ.mk ⟨rfl,?_⟩
    conv=>whnf
    refine SameQ.mk ⟨rfl,?_⟩
    conv=>whnf
    refine Kid.lit rfl rfl ?_
    conv=>whnf
    refine Cells.wide (by exact fun _=>⟨rfl,rfl⟩) (by first | omega | (simp [A8] at * <;> omega)) (by decide) ?_
    conv=>whnf
    refine SameQ.mk ⟨rfl,?_⟩
    conv=>whnf
    refine SameQ.mk ⟨rfl,?_⟩
    conv=>whnf
    refine SameQ.mk ⟨rfl,?_⟩
    conv=>whnf
    refine Kid.lit rfl rfl ?_
    conv=>whnf
    refine Kid.wide (by exact fun _=>⟨rfl,rfl⟩) (by first | omega | (simp [A8] at * <;> omega)) (by rfl) ?_
    conv=>whnf
    refine Len.map ?_
    conv=>whnf
    refine Two.mk ⟨?_,?_⟩
    ·conv=>whnf
     refine SameQ.mk ⟨rfl,?_⟩
     conv=>whnf
     refine Cells.lit rfl rfl ?_
     conv=>whnf
     refine SameQ.mk ⟨rfl,?_⟩
     conv=>whnf
     refine Kid.lit rfl rfl ?_
     conv=>whnf
     refine Len.map ?_
     conv=>whnf
     refine Ask.mk p31 ?_
     conv=>whnf
     refine SameQ.mk ⟨rfl,?_⟩
     conv=>whnf
     refine SameQ.mk ⟨rfl,?_⟩
     conv=>whnf
     refine Kid.lit rfl rfl ?_
     conv=>whnf
     refine Cells.wide (by exact fun _=>⟨rfl,rfl⟩) (by first | omega | (simp [A8] at * <;> omega)) (by decide) ?_
     conv=>whnf
     refine SameQ.mk ⟨rfl,?_⟩
     conv=>whnf
     refine SameQ.mk ⟨rfl,?_⟩
     conv=>whnf
     refine SameQ.mk ⟨rfl,?_⟩
     conv=>whnf
     refine SameQ.mk ⟨rfl,?_⟩
     conv=>whnf
     refine CallQ.io Af (rP true (Aj false)) (by first | rfl | simp only [Aa,V.fz,fzL,V.up,upL,Ab,Ac,Ad,slr,List.cons_append,List.nil_append] | simp [Aa,V.fz,fzL,V.up,upL,Ab,Ac,Ad,slr]) rfl (fun _=>rfl) (fun _=>⟨rfl,rfl⟩) rfl h (fun r h=>Ar h) (fun r32 u33 h=> ?_)
     conv=>whnf
     refine SameQ.mk ⟨rfl,?_⟩
     conv=>whnf
     refine Cells.lit rfl rfl ?_
     conv=>whnf
     refine SameQ.mk ⟨rfl,?_⟩
     conv=>whnf
     refine Kid.lit rfl rfl ?_
     conv=>whnf
     refine Len.map ?_
     conv=>whnf
     refine Ask.mk p31 ?_
     conv=>whnf
     refine SameQ.mk ⟨rfl,?_⟩
     conv=>whnf
     refine SameQ.mk ⟨rfl,?_⟩
     conv=>whnf
     refine Kid.lit rfl rfl ?_
     conv=>whnf
     refine Cells.wide (by exact fun _=>⟨rfl,rfl⟩) (by first | omega | (simp [A8] at * <;> omega)) (by decide) ?_
     conv=>whnf
     refine SameQ.mk ⟨rfl,?_⟩
     conv=>whnf
     refine SameQ.mk ⟨rfl,?_⟩
     conv=>whnf
     refine SameQ.mk ⟨rfl,?_⟩
     conv=>whnf
     refine BslQ.o Af ([(-1:Int),r4]) (by exact fun _=>⟨rfl,rfl⟩) (by first | rfl | (simp only [Aa,V.fz,fzL,V.up,upL,Ab,Ac,Ad,slr,List.cons_append,List.nil_append];done) | simp [Aa,V.fz,fzL,V.up,upL,Ab,Ac,Ad,slr]) ?_
     conv=>whnf
     refine SameQ.mk ⟨rfl,?_⟩
     conv=>whnf
     refine Cells.lit rfl rfl ?_
     conv=>whnf
     refine SameQ.mk ⟨rfl,?_⟩
     conv=>whnf
     refine Kid.lit rfl rfl ?_
     conv=>whnf
     refine Len.map ?_
     conv=>whnf
     refine Ask.mk p31 ?_
     conv=>whnf
     refine SameQ.mk ⟨rfl,?_⟩
     conv=>whnf
     refine SameQ.mk ⟨rfl,?_⟩
     conv=>whnf
     refine Kid.lit rfl rfl ?_
     conv=>whnf
     refine Cells.wide (by exact fun _=>⟨rfl,rfl⟩) (by first | omega | (simp [A8] at * <;> omega)) (by decide) ?_
     conv=>whnf
     refine SameQ.mk ⟨rfl,?_⟩
     conv=>whnf
     refine SameQ.mk ⟨rfl,?_⟩
     conv=>whnf
     refine CallQ.io Af (rP true (Aj false)) (by first | rfl | (simp only [Aa,Ak,V.fz,fzL,Ab,Ac,slr];done) | simp [Aa,Ak,V.fz,fzL,V.up,upL,Ab,Ac,Ad,slr]) rfl (fun _=>rfl) (fun _=>⟨rfl,rfl⟩) rfl h (fun r h=>As h) (fun r34 u35 h=> ?_)
     conv=>whnf
     refine SameQ.mk ⟨rfl,?_⟩
     conv=>whnf
     refine Cells.lit rfl rfl ?_
     conv=>whnf
     refine SameQ.mk ⟨rfl,?_⟩
     conv=>whnf
     refine Kid.lit rfl rfl ?_
     conv=>whnf
     refine Len.map ?_
     conv=>whnf
     refine Ask.mk p31 ?_
     conv=>whnf
     refine SameQ.mk ⟨rfl,?_⟩
     conv=>whnf
     refine SameQ.mk ⟨rfl,?_⟩
     conv=>whnf
     refine Kid.lit rfl rfl ?_
     conv=>whnf
     refine Cells.wide (by exact fun _=>⟨rfl,rfl⟩) (by first | omega | (simp [A8] at * <;> omega)) (by decide) ?_
     conv=>whnf
     refine SameQ.mk ⟨rfl,?_⟩
     conv=>whnf
     refine Kid.lit rfl rfl ?_
     conv=>whnf
     refine Kid.wide (by exact fun _=>⟨rfl,rfl⟩) (by first | omega | (simp [A8] at * <;> omega)) (by rfl) ?_
     conv=>whnf
     refine Len.map ?_
     conv=>whnf
     refine Ask.o h fun p36 h=> ?_
     conv=>whnf
     refine Kid.lit rfl rfl ?_
     conv=>whnf
     refine Kid.wide (by exact fun _=>⟨rfl,rfl⟩) (by first | omega | (simp [A8] at * <;> omega)) (by rfl) ?_
     conv=>whnf
     refine SetKids.one (fun _=>⟨rfl,rfl⟩) (r34) (by first | rfl | simp only [Aa,V.fz,fzL,V.up,upL,Ab,Ac,Ad,slr,List.cons_append,List.nil_append] | simp [Aa,V.fz,fzL,V.up,upL,Ab,Ac,Ad,slr]) (by first | omega | (simp [A8] at * <;> omega)) ?_
     conv=>whnf
     refine Kid.lit rfl rfl ?_
     conv=>whnf
     refine Kid.wide (by exact fun _=>⟨rfl,rfl⟩) (by first | omega | (simp [A8] at * <;> omega)) (by rfl) ?_
     conv=>whnf
     refine SetKids.wide (by exact fun _=>⟨rfl,rfl⟩) ({ Arity:=(nth q21_5.Ops (Int.toNat (0:Int))).Arity,Table:=(nth q21_5.Ops (Int.toNat (0:Int))).Table.set r32.toNat r34 }) (by first | omega | (simp [A8] at * <;> omega)) (by rfl) (by decide) ?_
     conv=>whnf
     refine SetKids.lit rfl ?_
     conv=>whnf
     refine Cells.lit rfl rfl ?_
     conv=>whnf
     refine SetKids.lit rfl ?_
     conv=>whnf
     cases h;exact ⟨(by first | rfl | simp only [Ah,Aa,V.fz,fzL,V.up,upL,Ab,Ac,Ad,slr] | simp [Ah,Aa,V.fz,fzL,V.up,upL,Ab,Ac,Ad,slr]),(by first | rfl | simp only [Ah,Aa,V.fz,fzL,V.up,upL,Ab,Ac,Ad,slr] | simp [Ah,Aa,V.fz,fzL,V.up,upL,Ab,Ac,Ad,slr])⟩
    conv=>whnf
    refine SameQ.mk ⟨rfl,?_⟩
    conv=>whnf
    refine Cells.lit rfl rfl ?_
    conv=>whnf
    refine SameQ.mk ⟨rfl,?_⟩
    conv=>whnf
    refine Kid.lit rfl rfl ?_
    conv=>whnf
    refine Len.map ?_
    conv=>whnf
    refine Ask.mk p31 ?_
    conv=>whnf
    refine SameQ.mk ⟨rfl,?_⟩
    conv=>whnf
    refine SameQ.mk ⟨rfl,?_⟩
    conv=>whnf
    refine Kid.lit rfl rfl ?_
    conv=>whnf
    refine Cells.wide (by exact fun _=>⟨rfl,rfl⟩) (by first | omega | (simp [A8] at * <;> omega)) (by decide) ?_
    conv=>whnf
    refine SameQ.mk ⟨rfl,?_⟩
    conv=>whnf
    refine SameQ.mk ⟨rfl,?_⟩
    conv=>whnf
    refine SameQ.mk ⟨rfl,?_⟩
    conv=>whnf
    refine SameQ.mk ⟨rfl,?_⟩
    conv=>whnf
    refine BslQ.o Af ([(-1:Int),r4]) (by exact fun _=>⟨rfl,rfl⟩) (by first | rfl | (simp only [Aa,V.fz,fzL,V.up,upL,Ab,Ac,Ad,slr,List.cons_append,List.nil_append];done) | simp [Aa,V.fz,fzL,V.up,upL,Ab,Ac,Ad,slr]) ?_
    conv=>whnf
    refine SameQ.mk ⟨rfl,?_⟩
    conv=>whnf
    refine Cells.lit rfl rfl ?_
    conv=>whnf
    refine SameQ.mk ⟨rfl,?_⟩
    conv=>whnf
    refine Kid.lit rfl rfl ?_
    conv=>whnf
    refine Len.map ?_
    conv=>whnf
    refine Ask.mk p31 ?_
    conv=>whnf
    refine SameQ.mk ⟨rfl,?_⟩
    conv=>whnf
    refine SameQ.mk ⟨rfl,?_⟩
    conv=>whnf
    refine Kid.lit rfl rfl ?_
    conv=>whnf
    refine Cells.wide (by exact fun _=>⟨rfl,rfl⟩) (by first | omega | (simp [A8] at * <;> omega)) (by decide) ?_
    conv=>whnf
    refine SameQ.mk ⟨rfl,?_⟩
    conv=>whnf
    refine SameQ.mk ⟨rfl,?_⟩
    conv=>whnf
    refine SameQ.mk ⟨rfl,?_⟩
    conv=>whnf
    refine CallQ.io Af (rP true (Aj false)) (by first | rfl | simp only [Aa,V.fz,fzL,V.up,upL,Ab,Ac,Ad,slr,List.cons_append,List.nil_append] | simp [Aa,V.fz,fzL,V.up,upL,Ab,Ac,Ad,slr]) rfl (fun _=>rfl) (fun _=>⟨rfl,rfl⟩) rfl h (fun r h=>Ar h) (fun r37 u38 h=> ?_)
    conv=>whnf
    refine SameQ.mk ⟨rfl,?_⟩
    conv=>whnf
    refine Cells.lit rfl rfl ?_
    conv=>whnf
    refine SameQ.mk ⟨rfl,?_⟩
    conv=>whnf
    refine Kid.lit rfl rfl ?_
    conv=>whnf
    refine Len.map ?_
    conv=>whnf
    refine Ask.mk p31 ?_
    conv=>whnf
    refine SameQ.mk ⟨rfl,?_⟩
    conv=>whnf
    refine SameQ.mk ⟨rfl,?_⟩
    conv=>whnf
    refine Kid.lit rfl rfl ?_
    conv=>whnf
    refine Cells.wide (by exact fun _=>⟨rfl,rfl⟩) (by first | omega | (simp [A8] at * <;> omega)) (by decide) ?_
    conv=>whnf
    refine SameQ.mk ⟨rfl,?_⟩
    conv=>whnf
    refine SameQ.mk ⟨rfl,?_⟩
    conv=>whnf
    refine CallQ.io Af (rP true (Aj false)) (by first | rfl | (simp only [Aa,Ak,V.fz,fzL,Ab,Ac,slr];done) | simp [Aa,Ak,V.fz,fzL,V.up,upL,Ab,Ac,Ad,slr]) rfl (fun _=>rfl) (fun _=>⟨rfl,rfl⟩) rfl h (fun r h=>As h) (fun r39 u40 h=> ?_)
    conv=>whnf
    refine SameQ.mk ⟨rfl,?_⟩
    conv=>whnf
    refine Cells.lit rfl rfl ?_
    conv=>whnf
    refine SameQ.mk ⟨rfl,?_⟩
    conv=>whnf
    refine Kid.lit rfl rfl ?_
    conv=>whnf
    refine Len.map ?_
    conv=>whnf
    refine Ask.mk p31 ?_
    conv=>whnf
    refine SameQ.mk ⟨rfl,?_⟩
    conv=>whnf
    refine SameQ.mk ⟨rfl,?_⟩
    conv=>whnf
    refine Kid.lit rfl rfl ?_
    conv=>whnf
    refine Cells.wide (by exact fun _=>⟨rfl,rfl⟩) (by first | omega | (simp [A8] at * <;> omega)) (by decide) ?_
    conv=>whnf
    refine SameQ.mk ⟨rfl,?_⟩
    conv=>whnf
    refine Kid.lit rfl rfl ?_
    conv=>whnf
    refine Kid.wide (by exact fun _=>⟨rfl,rfl⟩) (by first | omega | (simp [A8] at * <;> omega)) (by rfl) ?_
    conv=>whnf
    refine Len.map ?_
    conv=>whnf
    refine Ask.o h fun p41 h=> ?_
    conv=>whnf
    refine Kid.lit rfl rfl ?_
    conv=>whnf
    refine Kid.wide (by exact fun _=>⟨rfl,rfl⟩) (by first | omega | (simp [A8] at * <;> omega)) (by rfl) ?_
    conv=>whnf
    refine SetKids.one (fun _=>⟨rfl,rfl⟩) (r39) (by first | rfl | simp only [Aa,V.fz,fzL,V.up,upL,Ab,Ac,Ad,slr,List.cons_append,List.nil_append] | simp [Aa,V.fz,fzL,V.up,upL,Ab,Ac,Ad,slr]) (by first | omega | (simp [A8] at * <;> omega)) ?_
    conv=>whnf
    refine Kid.lit rfl rfl ?_
    conv=>whnf
    refine Kid.wide (by exact fun _=>⟨rfl,rfl⟩) (by first | omega | (simp [A8] at * <;> omega)) (by rfl) ?_
    conv=>whnf
    refine SetKids.wide (by exact fun _=>⟨rfl,rfl⟩) ({ Arity:=(nth q21_5.Ops (Int.toNat (0:Int))).Arity,Table:=(nth q21_5.Ops (Int.toNat (0:Int))).Table.set r37.toNat r39 }) (by first | omega | (simp [A8] at * <;> omega)) (by rfl) (by decide) ?_
    conv=>whnf
    refine SetKids.lit rfl ?_
    conv=>whnf
    refine Cells.lit rfl rfl ?_
    conv=>whnf
    refine SetKids.lit rfl ?_
    conv=>whnf
    cases h;exact ⟨(by first | rfl | simp only [Ah,Aa,V.fz,fzL,V.up,upL,Ab,Ac,Ad,slr] | simp [Ah,Aa,V.fz,fzL,V.up,upL,Ab,Ac,Ad,slr]),(by first | rfl | simp only [Ah,Aa,V.fz,fzL,V.up,upL,Ab,Ac,Ad,slr] | simp [Ah,Aa,V.fz,fzL,V.up,upL,Ab,Ac,Ad,slr])⟩
   conv=>whnf
   refine SameQ.mk ⟨rfl,?_⟩
   conv=>whnf
   refine Cells.lit rfl rfl ?_
   conv=>whnf
   refine SameQ.mk ⟨rfl,?_⟩
   conv=>whnf
   refine Kid.lit rfl rfl ?_
   conv=>whnf
   refine Len.map ?_
   conv=>whnf
   refine Ask.mk p31 ?_
   conv=>whnf
   refine SameQ.mk ⟨rfl,?_⟩
   conv=>whnf
   refine SameQ.mk ⟨rfl,?_⟩
   conv=>whnf
   refine Kid.lit rfl rfl ?_
   conv=>whnf
   refine Cells.wide (by exact fun _=>⟨rfl,rfl⟩) (by first | omega | (simp [A8] at * <;> omega)) (by decide) ?_
   conv=>whnf
   refine SameQ.mk ⟨rfl,?_⟩
   conv=>whnf
   refine SameQ.mk ⟨rfl,?_⟩
   conv=>whnf
   refine SameQ.mk ⟨rfl,?_⟩
   conv=>whnf
   refine Cells.lit rfl rfl ?_
   conv=>whnf
   refine SameQ.mk ⟨rfl,?_⟩
   conv=>whnf
   refine Kid.lit rfl rfl ?_
   conv=>whnf
   refine Len.map ?_
   conv=>whnf
   refine Ask.mk p31 ?_
   conv=>whnf
   refine SameQ.mk ⟨rfl,?_⟩
   conv=>whnf
   refine SameQ.mk ⟨rfl,?_⟩
   conv=>whnf
   refine Kid.lit rfl rfl ?_
   conv=>whnf
   refine Cells.wide (by exact fun _=>⟨rfl,rfl⟩) (by first | omega | (simp [A8] at * <;> omega)) (by decide) ?_
   conv=>whnf
   refine SameQ.mk ⟨rfl,?_⟩
   conv=>whnf
   refine SameQ.mk ⟨rfl,?_⟩
   conv=>whnf
   refine SameQ.mk ⟨rfl,?_⟩
   conv=>whnf
   refine BslQ.o Af ([(-1:Int),r4]) (by exact fun _=>⟨rfl,rfl⟩) (by first | rfl | (simp only [Aa,V.fz,fzL,V.up,upL,Ab,Ac,Ad,slr,List.cons_append,List.nil_append];done) | simp [Aa,V.fz,fzL,V.up,upL,Ab,Ac,Ad,slr]) ?_
   conv=>whnf
   refine SameQ.mk ⟨rfl,?_⟩
   conv=>whnf
   refine Cells.lit rfl rfl ?_
   conv=>whnf
   refine SameQ.mk ⟨rfl,?_⟩
   conv=>whnf
   refine Kid.lit rfl rfl ?_
   conv=>whnf
   refine Len.map ?_
   conv=>whnf
   refine Ask.mk p31 ?_
   conv=>whnf
   refine SameQ.mk ⟨rfl,?_⟩
   conv=>whnf
   refine SameQ.mk ⟨rfl,?_⟩
   conv=>whnf
   refine Kid.lit rfl rfl ?_
   conv=>whnf
   refine Cells.wide (by exact fun _=>⟨rfl,rfl⟩) (by first | omega | (simp [A8] at * <;> omega)) (by decide) ?_
   conv=>whnf
   refine SameQ.mk ⟨rfl,?_⟩
   conv=>whnf
   refine SameQ.mk ⟨rfl,?_⟩
   conv=>whnf
   refine SameQ.mk ⟨rfl,?_⟩
   conv=>whnf
   refine Cells.lit rfl rfl ?_
   conv=>whnf
   refine SameQ.mk ⟨rfl,?_⟩
   conv=>whnf
   refine Kid.lit rfl rfl ?_
   conv=>whnf
   refine Len.map ?_
   conv=>whnf
   refine Ask.mk p31 ?_
   conv=>whnf
   refine SameQ.mk ⟨rfl,?_⟩
   conv=>whnf
   refine SameQ.mk ⟨rfl,?_⟩
   conv=>whnf
   refine Kid.lit rfl rfl ?_
   conv=>whnf
   refine Cells.wide (by exact fun _=>⟨rfl,rfl⟩) (by first | omega | (simp [A8] at * <;> omega)) (by decide) ?_
   conv=>whnf
   refine SameQ.mk ⟨rfl,?_⟩
   conv=>whnf
   refine SameQ.mk ⟨rfl,?_⟩
   conv=>whnf
   refine Kid.lit rfl rfl ?_
   conv=>whnf
   refine Kid.wide (by exact fun _=>⟨rfl,rfl⟩) (by first | omega | (simp [A8] at * <;> omega)) (by rfl) ?_
   conv=>whnf
   refine Len.map ?_
   conv=>whnf
   refine SameQ.mk ⟨rfl,?_⟩
   conv=>whnf
   refine Cells.lit rfl rfl ?_
   conv=>whnf
   refine SameQ.mk ⟨rfl,?_⟩
   conv=>whnf
   refine Kid.lit rfl rfl ?_
   conv=>whnf
   refine Len.map ?_
   conv=>whnf
   refine Ask.mk p31 ?_
   conv=>whnf
   refine SameQ.mk ⟨rfl,?_⟩
   conv=>whnf
   refine SameQ.mk ⟨rfl,?_⟩
   conv=>whnf
   refine Kid.lit rfl rfl ?_
   conv=>whnf
   refine Cells.wide (by exact fun _=>⟨rfl,rfl⟩) (by first | omega | (simp [A8] at * <;> omega)) (by decide) ?_
   conv=>whnf
   refine SameQ.mk ⟨rfl,?_⟩
   conv=>whnf
   refine SameQ.mk ⟨rfl,?_⟩
   conv=>whnf
   refine SameQ.mk ⟨rfl,?_⟩
   conv=>whnf
   refine CallQ.io Af (rP true (Aj false)) (by first | rfl | simp only [Aa,V.fz,fzL,V.up,upL,Ab,Ac,Ad,slr,List.cons_append,List.nil_append] | simp [Aa,V.fz,fzL,V.up,upL,Ab,Ac,Ad,slr]) rfl (fun _=>rfl) (fun _=>⟨rfl,rfl⟩) rfl h (fun r h=>Ar h) (fun r42 u43 h=> ?_)
   conv=>whnf
   refine SameQ.mk ⟨rfl,?_⟩
   conv=>whnf
   refine Cells.lit rfl rfl ?_
   conv=>whnf
   refine SameQ.mk ⟨rfl,?_⟩
   conv=>whnf
   refine Kid.lit rfl rfl ?_
   conv=>whnf
   refine Len.map ?_
   conv=>whnf
   refine Ask.mk p31 ?_
   conv=>whnf
   refine SameQ.mk ⟨rfl,?_⟩
   conv=>whnf
   refine SameQ.mk ⟨rfl,?_⟩
   conv=>whnf
   refine Kid.lit rfl rfl ?_
   conv=>whnf
   refine Cells.wide (by exact fun _=>⟨rfl,rfl⟩) (by first | omega | (simp [A8] at * <;> omega)) (by decide) ?_
   conv=>whnf
   refine SameQ.mk ⟨rfl,?_⟩
   conv=>whnf
   refine SameQ.mk ⟨rfl,?_⟩
   conv=>whnf
   refine CallQ.io Af (rP true (Aj false)) (by first | rfl | (simp only [Aa,Ak,V.fz,fzL,Ab,Ac,slr];done) | simp [Aa,Ak,V.fz,fzL,V.up,upL,Ab,Ac,Ad,slr]) rfl (fun _=>rfl) (fun _=>⟨rfl,rfl⟩) rfl h (fun r h=>As h) (fun r44 u45 h=> ?_)
   conv=>whnf
   refine SameQ.mk ⟨rfl,?_⟩
   conv=>whnf
   refine Cells.lit rfl rfl ?_
   conv=>whnf
   refine SameQ.mk ⟨rfl,?_⟩
   conv=>whnf
   refine Kid.lit rfl rfl ?_
   conv=>whnf
   refine Len.map ?_
   conv=>whnf
   refine Ask.mk p31 ?_
   conv=>whnf
   refine SameQ.mk ⟨rfl,?_⟩
   conv=>whnf
   refine SameQ.mk ⟨rfl,?_⟩
   conv=>whnf
   refine Kid.lit rfl rfl ?_
   conv=>whnf
   refine Cells.wide (by exact fun _=>⟨rfl,rfl⟩) (by first | omega | (simp [A8] at * <;> omega)) (by decide) ?_
   conv=>whnf
   refine SameQ.mk ⟨rfl,?_⟩
   conv=>whnf
   refine Kid.lit rfl rfl ?_
   conv=>whnf
   refine Kid.wide (by exact fun _=>⟨rfl,rfl⟩) (by first | omega | (simp [A8] at * <;> omega)) (by rfl) ?_
   conv=>whnf
   refine Len.map ?_
   conv=>whnf
   refine Ask.o h fun p46 h=> ?_
   conv=>whnf
   refine Kid.lit rfl rfl ?_
   conv=>whnf
   refine Kid.wide (by exact fun _=>⟨rfl,rfl⟩) (by first | omega | (simp [A8] at * <;> omega)) (by rfl) ?_
   conv=>whnf
   refine SetKids.one (fun _=>⟨rfl,rfl⟩) (r44) (by first | rfl | simp only [Aa,V.fz,fzL,V.up,upL,Ab,Ac,Ad,slr,List.cons_append,List.nil_append] | simp [Aa,V.fz,fzL,V.up,upL,Ab,Ac,Ad,slr]) (by first | omega | (simp [A8] at * <;> omega)) ?_
   conv=>whnf
   refine Kid.lit rfl rfl ?_
   conv=>whnf
   refine Kid.wide (by exact fun _=>⟨rfl,rfl⟩) (by first | omega | (simp [A8] at * <;> omega)) (by rfl) ?_
   conv=>whnf
   refine SetKids.wide (by exact fun _=>⟨rfl,rfl⟩) ({ Arity:=(nth q21_5.Ops (Int.toNat (0:Int))).Arity,Table:=(nth q21_5.Ops (Int.toNat (0:Int))).Table.set r42.toNat r44 }) (by first | omega | (simp [A8] at * <;> omega)) (by rfl) (by decide) ?_
   conv=>whnf
   refine SetKids.lit rfl ?_
   conv=>whnf
   refine Cells.lit rfl rfl ?_
   conv=>whnf
   refine SetKids.lit rfl ?_
   conv=>whnf
   cases h;exact ⟨(by first | rfl | simp only [Ah,Aa,V.fz,fzL,V.up,upL,Ab,Ac,Ad,slr] | simp [Ah,Aa,V.fz,fzL,V.up,upL,Ab,Ac,Ad,slr]),(by first | rfl | simp only [Ah,Aa,V.fz,fzL,V.up,upL,Ab,Ac,Ad,slr] | simp [Ah,Aa,V.fz,fzL,V.up,upL,Ab,Ac,Ad,slr])⟩
  conv=>whnf
  refine Br.oe h (fun p47 h=> ?_) (fun p47 h=> ?_)
  ·conv=>whnf
   refine Cells.lit rfl rfl ?_
   conv=>whnf
   refine SameQ.mk ⟨rfl,?_⟩
   conv=>whnf
   refine Cells.lit rfl rfl ?_
   conv=>whnf
   refine SameQ.mk ⟨rfl,?_⟩
   conv=>whnf
   refine SameQ.mk ⟨rfl,?_⟩
   conv=>whnf
   refine BslQ.o Af ([(-1:Int),(4:Int)]) (by exact fun _=>⟨rfl,rfl⟩) (by first | rfl | (simp only [Aa,V.fz,fzL,V.up,upL,Ab,Ac,Ad,slr,List.cons_append,List.nil_append];done) | simp [Aa,V.fz,fzL,V.up,upL,Ab,Ac,Ad,slr]) ?_
   conv=>whnf
   refine SameQ.mk ⟨rfl,?_⟩
   conv=>whnf
   refine Cells.lit rfl rfl ?_
   conv=>whnf
   refine SameQ.mk ⟨rfl,?_⟩
   conv=>whnf
   refine SameQ.mk ⟨rfl,?_⟩
   conv=>whnf
   refine CallQ.io Af (rP true (Aj false)) (by first | rfl | (simp only [Aa,Ak,V.fz,fzL,Ab,Ac,slr];done) | simp [Aa,Ak,V.fz,fzL,V.up,upL,Ab,Ac,Ad,slr]) rfl (fun _=>rfl) (fun _=>⟨rfl,rfl⟩) rfl h (fun r h=>As h) (fun r48 u49 h=> ?_)
   conv=>whnf
   refine SameQ.mk ⟨rfl,?_⟩
   conv=>whnf
   refine Cells.lit rfl rfl ?_
   conv=>whnf
   refine SameQ.mk ⟨rfl,?_⟩
   conv=>whnf
   refine Kid.lit rfl rfl ?_
   conv=>whnf
   refine Len.map ?_
   conv=>whnf
   refine Ask.o h fun p50 h=> ?_
   conv=>whnf
   refine Kid.lit rfl rfl ?_
   conv=>whnf
   refine SetKids.wide (by exact fun _=>⟨rfl,rfl⟩) ({ Arity:=r48,Table:=(nth q21_5.Ops (Int.toNat (0:Int))).Table }) (by first | omega | (simp [A8] at * <;> omega)) (by rfl) (by decide) ?_
   conv=>whnf
   refine Kid.lit rfl rfl ?_
   conv=>whnf
   refine SetKids.lit rfl ?_
   conv=>whnf
   refine Cells.lit rfl rfl ?_
   conv=>whnf
   refine SetKids.lit rfl ?_
   conv=>whnf
   cases h;exact ⟨(by first | rfl | simp only [Ah,Aa,V.fz,fzL,V.up,upL,Ab,Ac,Ad,slr] | simp [Ah,Aa,V.fz,fzL,V.up,upL,Ab,Ac,Ad,slr]),(by first | rfl | simp only [Ah,Aa,V.fz,fzL,V.up,upL,Ab,Ac,Ad,slr] | simp [Ah,Aa,V.fz,fzL,V.up,upL,Ab,Ac,Ad,slr])⟩
  conv=>whnf
  refine Br.oe h (fun p51 h=> ?_) (fun p51 h=> ?_)
  ·conv=>whnf
   refine LoopQ.o [5,4,2,0,132] (Gb r4) (Jk r4) h (fun s o h=>Qo s o h) (by first | rfl | simp [restrict,look,Aa,V.fz,fzL,V.up,upL,Ab,Ac,Ad,slr]) (fun _=>rfl) ?_
   rintro ⟨q57_5,q57_132⟩ h
   try dsimp only at h
   conv=>whnf
   refine Cells.lit rfl rfl ?_
   conv=>whnf
   refine SetKids.lit rfl ?_
   conv=>whnf
   cases h;exact ⟨(by first | rfl | simp only [Ah,Aa,V.fz,fzL,V.up,upL,Ab,Ac,Ad,slr] | simp [Ah,Aa,V.fz,fzL,V.up,upL,Ab,Ac,Ad,slr]),(by first | rfl | simp only [Ah,Aa,V.fz,fzL,V.up,upL,Ab,Ac,Ad,slr] | simp [Ah,Aa,V.fz,fzL,V.up,upL,Ab,Ac,Ad,slr])⟩
  conv=>whnf
  refine Cells.lit rfl rfl ?_
  conv=>whnf
  refine SetKids.lit rfl ?_
  conv=>whnf
  cases h;exact ⟨(by first | rfl | simp only [Ah,Aa,V.fz,fzL,V.up,upL,Ab,Ac,Ad,slr] | simp [Ah,Aa,V.fz,fzL,V.up,upL,Ab,Ac,Ad,slr]),(by first | rfl | simp only [Ah,Aa,V.fz,fzL,V.up,upL,Ab,Ac,Ad,slr] | simp [Ah,Aa,V.fz,fzL,V.up,upL,Ab,Ac,Ad,slr])⟩
 conv=>whnf
 refine CallQ.io Af (rP true (Aj false)) (by first | rfl | simp only [Aa,V.fz,fzL,V.up,upL,Ab,Ac,Ad,slr,List.cons_append,List.nil_append] | simp [Aa,V.fz,fzL,V.up,upL,Ab,Ac,Ad,slr]) rfl (fun _=>rfl) (fun _=>⟨rfl,rfl⟩) rfl h (fun r h=>Ar h) (fun r58 u59 h=> ?_)
 conv=>whnf
 refine CallQ.o (Ag true) (by first | rfl | simp only [Aa,V.fz,fzL,V.up,upL,Ab,Ac,Ad,slr,List.cons_append,List.nil_append] | simp [Aa,V.fz,fzL,V.up,upL,Ab,Ac,Ad,slr]) h (fun r h=>Ae2 h) (fun r60 h=> ?_)
 conv=>whnf
 refine SetKids.lit rfl ?_
 conv=>whnf
 refine Cells.lit rfl rfl ?_
 conv=>whnf
 refine SetKids.lit rfl ?_
 conv=>whnf
 cases h;exact ⟨(by first | rfl | simp only [Ah,Aa,V.fz,fzL,V.up,upL,Ab,Ac,Ad,slr] | simp [Ah,Aa,V.fz,fzL,V.up,upL,Ab,Ac,Ad,slr]),(by first | rfl | simp only [Ah,Aa,V.fz,fzL,V.up,upL,Ab,Ac,Ad,slr] | simp [Ah,Aa,V.fz,fzL,V.up,upL,Ab,Ac,Ad,slr])⟩
end Go.Proofs.YtbnoclklhcbidaaDoor.Ax
