/-
 What the functions compute, as functions on plain data, and that the program does compute it; written by program.
-/
import Derived.Test.YtmmcfdfdacpjgaaCode
import Derived.Test.YtmmcfdfdacpjgaaG2
import Derived.Test.YtmmcfdfdacpjgaaG4
import Derived.Test.YtmmcfdfdacpjgaaG5
import Derived.Test.YtmmcfdfdacpjgaaG6
namespace Go.Proofs.Ytmmcfdfdacpjgaa.Ax
open Go
set_option maxRecDepth 100000
set_option maxHeartbeats 4000000
noncomputable def Ds (r4:Int) (_x6:Int) (_x5:SAlgebra):(Int×SOp×Sl1Cur)→Option ((Int×SOp×Sl1Cur) ⊕ (SOp×Sl1Cur)):=fun (x8,x7,x132')=>
 if x8>(0:Int) then
 (A7 (x132') (r4)).bind fun (r16,u17)=>
 ask ((x7.Table).length+([r16]).length≤LIM) <|
 ask (InI (x8-(1:Int))) <|
 some (.inl (x8-(1:Int),{ Arity:=x7.Arity,Table:=x7.Table++[r16] },u17))
 else
 some (.inr (x7,x132'))
def H6 (r4:Int) (x6:Int) (x5:SAlgebra):(Int×SOp×Sl1Cur)→St:=fun s=>[(8,A.val (Ae s.1)),(7,A.val (rP true (Aw true) s.2.1)),(6,A.val (Ae x6)),(5,A.val (rP true (Af true) x5)),(4,A.val (Ae r4)),(2,A.val ((rP true (Af true)) ({ Size:=(0:Int),Ops:=Ar SOp }))),(0,A.ref 132 []),(132,A.val (rP true (Aj false) s.2.2))]
def L2 (r4:Int) (x6:Int) (x5:SAlgebra):(SOp×Sl1Cur)→Tgt
 | s=>((Ex.exit 2),[7,6,5,4,2,0,132],[(7,A.val (rP true (Aw true) s.1)),(6,A.val (Ae x6)),(5,A.val (rP true (Af true) x5)),(4,A.val (Ae r4)),(2,A.val ((rP true (Af true)) ({ Size:=(0:Int),Ops:=Ar SOp }))),(0,A.ref 132 []),(132,A.val (rP true (Aj false) s.2))])
theorem U7 {r4} {x6} {x5} (s) o (h:Ds r4 x6 x5 s=some o):vc Try.prog Lx (Co [8,7,6,5,4,2,0,132] (H6 r4 x6 x5) (L2 r4 x6 x5) o) (H6 r4 x6 x5 s):=by
 obtain ⟨x8,x7,x132'⟩:=s
 unfold Ds at h
 try dsimp only at h
 conv=>whnf
 refine Br.od h (fun p15 h=> ?_) (fun p15 h=> ?_)
 ·conv=>whnf
  refine Cells.lit rfl rfl ?_
  conv=>whnf
  refine LendP.io Ae (rP true (Aj false)) (by rfl) (fun _=>rfl) (fun _=>⟨rfl,rfl⟩) (fun _=>rfl) h (fun r h=>Bf h) (fun r16 u17 h=> ?_)
  conv=>whnf
  refine BslQ.o Ae [r16] (by exact fun _=>⟨rfl,rfl⟩) (by rfl) ?_
  conv=>whnf
  refine NoOwn.o (fun _=>rfl) ?_
  conv=>whnf
  refine Kid.lit rfl rfl ?_
  conv=>whnf
  refine Kid.lit rfl rfl ?_
  conv=>whnf
  refine SetKids.lit rfl ?_
  conv=>whnf
  refine AppQ.o (m:=1) Ae (by exact fun _=>⟨rfl,rfl⟩) (x7.Table) ([r16]) (by rfl) (by rfl) h fun h=> ?_
  conv=>whnf
  refine SetKids.lit rfl ?_
  conv=>whnf
  refine Ask.o h fun p18 h=> ?_
  conv=>whnf
  cases h;exact ⟨rfl,rfl⟩
 conv=>whnf
 cases h;exact ⟨rfl,rfl⟩
noncomputable def Dt (r4:Int):(Int×SAlgebra×Sl1Cur)→Option ((Int×SAlgebra×Sl1Cur) ⊕ (SAlgebra×Sl1Cur)):=fun (x6,x5,x132)=>
 if x6>(0:Int) then
 (Bc (x132) ([(0:Int),(1:Int),(2:Int),(2:Int),(3:Int)])).bind fun (r9,u10)=>
 ((if r4=(4:Int) then
 if r9=(3:Int) then
 some ({ Arity:=(2:Int),Table:=Ar Int })
 else
 some ({ Arity:=r9,Table:=Ar Int })
 else
 some ({ Arity:=r9,Table:=Ar Int }):Option SOp)).bind fun q13_7=>
 (F1 (r4) (q13_7.Arity)).bind fun r14=>
 (Am (Ds r4 x6 x5) (r14,q13_7,u10)).bind fun (q19_7,q19_132)=>
 ask ((x5.Ops).length+([q19_7]).length≤LIM) <|
 ask (InI (x6-(1:Int))) <|
 some (.inl (x6-(1:Int),{ Size:=x5.Size,Ops:=x5.Ops++[q19_7] },q19_132))
 else
 some (.inr (x5,x132))
def H3 (r4:Int):(Int×SAlgebra×Sl1Cur)→St:=fun s=>[(6,A.val (Ae s.1)),(5,A.val (rP true (Af true) s.2.1)),(4,A.val (Ae r4)),(2,A.val ((rP true (Af true)) ({ Size:=(0:Int),Ops:=Ar SOp }))),(0,A.ref 132 []),(132,A.val (rP true (Aj false) s.2.2))]
def L5 (r4:Int):(SAlgebra×Sl1Cur)→Tgt
 | s=>((Ex.exit 0),[5,4,2,0,132],[(5,A.val (rP true (Af true) s.1)),(4,A.val (Ae r4)),(2,A.val ((rP true (Af true)) ({ Size:=(0:Int),Ops:=Ar SOp }))),(0,A.ref 132 []),(132,A.val (rP true (Aj false) s.2))])
theorem V4 {r4} (s) o (h:Dt r4 s=some o):vc Try.prog L1 (Co [6,5,4,2,0,132] (H3 r4) (L5 r4) o) (H3 r4 s):=by
 obtain ⟨x6,x5,x132⟩:=s
 unfold Dt at h
 try dsimp only at h
 conv=>whnf
 refine Br.od h (fun p8 h=> ?_) (fun p8 h=> ?_)
 ·conv=>whnf
  refine BslQ.o Ae ([(0:Int),(1:Int),(2:Int),(2:Int),(3:Int)]) (by exact fun _=>⟨rfl,rfl⟩) (by rfl) ?_
  conv=>whnf
  refine CallQ.io Ae (rP true (Aj false)) (by rfl) rfl (fun _=>rfl) (fun _=>⟨rfl,rfl⟩) rfl h (fun r h=>Bj h) (fun r9 u10 h=> ?_)
  conv=>whnf
  refine SetKids.lit rfl ?_
  conv=>whnf
  refine CutQ.o (fun t:SOp=>match t with | s=>(Ex.normal,[7,6,5,4,2,0,132],[(7,A.val ((rP true (Aw true)) s)),(6,A.val (Ae (x6))),(5,A.val ((rP true (Af true)) (x5))),(4,A.val (Ae (r4))),(2,A.val ((rP true (Af true)) ({ Size:=(0:Int),Ops:=Ar SOp }))),(0,A.ref 132 []),(132,A.val ((rP true (Aj false)) (u10)))])) h ?_ ?_
  ·intro t h
   conv=>whnf
   refine Br.oe h (fun p11 h=> ?_) (fun p11 h=> ?_)
   ·conv=>whnf
    refine Br.yes ?_
    conv=>whnf
    refine Cells.lit rfl rfl ?_
    conv=>whnf
    refine Br.yes ?_
    conv=>whnf
    refine Br.yes ?_
    conv=>whnf
    refine Br.oe h (fun p12 h=> ?_) (fun p12 h=> ?_)
    ·conv=>whnf
     refine SetKids.lit rfl ?_
     conv=>whnf
     cases h;exact ⟨rfl,rfl⟩
    conv=>whnf
    cases h;exact ⟨rfl,rfl⟩
   conv=>whnf
   refine Br.no ?_
   conv=>whnf
   refine Br.no ?_
   conv=>whnf
   refine Br.no ?_
   conv=>whnf
   refine Br.no ?_
   conv=>whnf
   cases h;exact ⟨rfl,rfl⟩
  rintro q13_7 h
  try dsimp only at h
  conv=>whnf
  refine Cells.lit rfl rfl ?_
  conv=>whnf
  refine CallQ.o Ae (by rfl) h (fun r h=>Wp h) (fun r14 h=> ?_)
  conv=>whnf
  refine LoopQ.o [8,7,6,5,4,2,0,132] (H6 r4 x6 x5) (L2 r4 x6 x5) h (fun s o h=>U7 s o h) (by rfl) (fun _=>rfl) ?_
  rintro ⟨q19_7,q19_132⟩ h
  try dsimp only at h
  conv=>whnf
  refine Cells.lit rfl rfl ?_
  conv=>whnf
  refine Cells.lit rfl rfl ?_
  conv=>whnf
  refine BslQ.o (Aw true) [q19_7] (by exact fun _=>⟨rfl,rfl⟩) (by rfl) ?_
  conv=>whnf
  refine NoOwn.own rfl ?_
  conv=>whnf
  refine Kid.lit rfl rfl ?_
  conv=>whnf
  refine Kid.lit rfl rfl ?_
  conv=>whnf
  refine SetKids.lit rfl ?_
  conv=>whnf
  refine AppQ.o (m:=2) (Aw true) (by exact fun _=>⟨rfl,rfl⟩) (x5.Ops) ([q19_7]) (by rfl) (by rfl) h fun h=> ?_
  conv=>whnf
  refine SetKids.lit rfl ?_
  conv=>whnf
  refine Ask.o h fun p20 h=> ?_
  conv=>whnf
  cases h;exact ⟨rfl,rfl⟩
 conv=>whnf
 cases h;exact ⟨rfl,rfl⟩
noncomputable def Dv (r4:Int):(SAlgebra×Sl1Cur)→Option ((SAlgebra×Sl1Cur) ⊕ (SAlgebra×Sl1Cur)):=fun (x5,x132)=>
 (A7 (x132) ((2:Int))).bind fun (r52,u53)=>
 ask (InI ((4:Int)+r52)) <|
 if (↑x5.Ops.length:Int)<(4:Int)+r52 then
 ask ((0:Int)≤r4∧r4≤(↑LIM:Int)) <|
 ask ((x5.Ops).length+(([{ Arity:=(1:Int),Table:=List.replicate r4.toNat (0:Int) }]:List SOp)).length≤LIM) <|
 some (.inl ({ Size:=x5.Size,Ops:=x5.Ops++[{ Arity:=(1:Int),Table:=List.replicate r4.toNat (0:Int) }] },u53))
 else
 some (.inr (x5,u53))
def H4 (r4:Int):(SAlgebra×Sl1Cur)→St:=fun s=>[(5,A.val (rP true (Af true) s.1)),(4,A.val (Ae r4)),(2,A.val ((rP true (Af true)) ({ Size:=(0:Int),Ops:=Ar SOp }))),(0,A.ref 132 []),(132,A.val (rP true (Aj false) s.2))]
def Lw (_r4:Int):(SAlgebra×Sl1Cur)→Tgt
 | s=>((Ex.exit 5),[5,2,132],[(5,A.val (rP true (Af true) s.1)),(2,A.val ((rP true (Af true)) ({ Size:=(0:Int),Ops:=Ar SOp }))),(132,A.val (rP true (Aj false) s.2))])
theorem Vj {r4} (s) o (h:Dv r4 s=some o):vc Try.prog Ly (Co [5,4,2,0,132] (H4 r4) (Lw r4) o) (H4 r4 s):=by
 obtain ⟨x5,x132⟩:=s
 unfold Dv at h
 try dsimp only at h
 conv=>whnf
 refine Cells.lit rfl rfl ?_
 conv=>whnf
 refine Kid.lit rfl rfl ?_
 conv=>whnf
 refine Len.map ?_
 conv=>whnf
 refine LendP.io Ae (rP true (Aj false)) (by rfl) (fun _=>rfl) (fun _=>⟨rfl,rfl⟩) (fun _=>rfl) h (fun r h=>Bf h) (fun r52 u53 h=> ?_)
 conv=>whnf
 refine Ask.o h fun p54 h=> ?_
 conv=>whnf
 refine Br.od h (fun p55 h=> ?_) (fun p55 h=> ?_)
 ·conv=>whnf
  refine Cells.lit rfl rfl ?_
  conv=>whnf
  refine SameQ.mk ⟨rfl,?_⟩
  conv=>whnf
  refine Cells.lit rfl rfl ?_
  conv=>whnf
  refine SameQ.mk ⟨rfl,?_⟩
  conv=>whnf
  refine SameQ.mk ⟨rfl,?_⟩
  conv=>whnf
  refine Ask.o h fun p56 h=> ?_
  conv=>whnf
  refine MkQ.o Ae ((0:Int)) rfl ?_
  conv=>whnf
  refine SameQ.mk ⟨rfl,?_⟩
  conv=>whnf
  refine Cells.lit rfl rfl ?_
  conv=>whnf
  refine SameQ.mk ⟨rfl,?_⟩
  conv=>whnf
  refine SameQ.mk ⟨rfl,?_⟩
  conv=>whnf
  refine Cells.lit rfl rfl ?_
  conv=>whnf
  refine SameQ.mk ⟨rfl,?_⟩
  conv=>whnf
  refine BslQ.o (Aw true) ([{ Arity:=(1:Int),Table:=List.replicate r4.toNat (0:Int) }]) (by exact fun _=>⟨rfl,rfl⟩) (by rfl) ?_
  conv=>whnf
  refine SameQ.mk ⟨rfl,?_⟩
  conv=>whnf
  refine Cells.lit rfl rfl ?_
  conv=>whnf
  refine SameQ.mk ⟨rfl,?_⟩
  conv=>whnf
  refine NoOwn.own rfl ?_
  conv=>whnf
  refine Kid.lit rfl rfl ?_
  conv=>whnf
  refine Kid.lit rfl rfl ?_
  conv=>whnf
  refine SetKids.lit rfl ?_
  conv=>whnf
  refine AppQ.o (m:=2) (Aw true) (by exact fun _=>⟨rfl,rfl⟩) (x5.Ops) ([{ Arity:=(1:Int),Table:=List.replicate r4.toNat (0:Int) }]) (by rfl) (by rfl) h fun h=> ?_
  conv=>whnf
  refine SetKids.lit rfl ?_
  conv=>whnf
  cases h;exact ⟨rfl,rfl⟩
 conv=>whnf
 cases h;exact ⟨rfl,rfl⟩
noncomputable def Dy (c0:Sl1Cur):Option (SAlgebra×Sl1Cur):=
 (Bz (c0) ((4:Int))).bind fun (r1,u2)=>
 if (r1)=true then
 (Bc (u2) ([(2:Int),(2:Int),(3:Int),(3:Int),(4:Int)])).bind fun (r4,u5)=>
 (Bc (u5) ([(1:Int),(1:Int),(2:Int)])).bind fun (r6,u7)=>
 (Am (Dt r4) (r6,{ Size:=r4,Ops:=Ar SOp },u7)).bind fun (q21_5,q21_132)=>
 (A7 (q21_132) ((16:Int))).bind fun (r22,u23)=>
 if r22=(0:Int) then
 ask (InI (r4+(1:Int))) <|
 (Bc (u23) ([(0:Int),(9:Int),r4+(1:Int)])).bind fun (r26,u27)=>
 some ({ Size:=r26,Ops:=q21_5.Ops },u27)
 else
 if r22=(1:Int) then
 ask ((0:Int)≤(0:Int)∧(0:Int)<(↑q21_5.Ops.length:Int)) <|
 ask (((nth q21_5.Ops (Int.toNat (0:Int))).Table).length+([(0:Int)]).length≤LIM) <|
 some ({ Size:=q21_5.Size,Ops:=q21_5.Ops.set (Int.toNat (0:Int)) { Arity:=(nth q21_5.Ops (Int.toNat (0:Int))).Arity,Table:=(nth q21_5.Ops (Int.toNat (0:Int))).Table++[(0:Int)] } },u23)
 else
 if r22=(2:Int) then
 ask ((0:Int)≤(0:Int)∧(0:Int)<(↑q21_5.Ops.length:Int)) <|
 (A7 (u23) ((↑(nth q21_5.Ops (Int.toNat (0:Int))).Table.length:Int))).bind fun (r32,u33)=>
 (Bc (u33) ([(-1:Int),r4])).bind fun (r34,u35)=>
 ask ((0:Int)≤r32∧r32<(↑(nth q21_5.Ops (Int.toNat (0:Int))).Table.length:Int)) <|
 some ({ Size:=q21_5.Size,Ops:=q21_5.Ops.set (Int.toNat (0:Int)) { Arity:=(nth q21_5.Ops (Int.toNat (0:Int))).Arity,Table:=(nth q21_5.Ops (Int.toNat (0:Int))).Table.set r32.toNat r34 } },u35)
 else
 if r22=(3:Int) then
 (Bc (u23) ([(-1:Int),(4:Int)])).bind fun (r48,u49)=>
 ask ((0:Int)≤(0:Int)∧(0:Int)<(↑q21_5.Ops.length:Int)) <|
 some ({ Size:=q21_5.Size,Ops:=q21_5.Ops.set (Int.toNat (0:Int)) { Arity:=r48,Table:=(nth q21_5.Ops (Int.toNat (0:Int))).Table } },u49)
 else
 if r22=(4:Int) then
 (Am (Dv r4) (q21_5,u23)).bind fun (q57_5,q57_132)=>
 some (q57_5,q57_132)
 else
 some (q21_5,u23)
 else
 (A7 (u2) ((17:Int))).bind fun (r58,u59)=>
 (J6 (r58)).bind fun r60=>
 some (r60,u59)
theorem Pm {c0} {v} (h:Dy c0=some v):Se Try.prog Hg [(rP true (Aj false)) c0] (Af true v.1) 0 (rP true (Aj false) v.2):=by
 refine Q9 Yo (Nat.le_of_ble_eq_true rfl) ?_
 unfold Dy at h
 conv=>whnf
 refine CallQ.io V.bool (rP true (Aj false)) (by rfl) rfl (fun _=>rfl) (fun _=>⟨rfl,rfl⟩) rfl h (fun r h=>Et h) (fun r1 u2 h=> ?_)
 conv=>whnf
 refine Br.flip ?_
 conv=>whnf
 refine Br.ob h (fun p3 h=> ?_) (fun p3 h=> ?_)
 ·conv=>whnf
  refine BslQ.o Ae ([(2:Int),(2:Int),(3:Int),(3:Int),(4:Int)]) (by exact fun _=>⟨rfl,rfl⟩) (by rfl) ?_
  conv=>whnf
  refine CallQ.io Ae (rP true (Aj false)) (by rfl) rfl (fun _=>rfl) (fun _=>⟨rfl,rfl⟩) rfl h (fun r h=>Bj h) (fun r4 u5 h=> ?_)
  conv=>whnf
  refine SetKids.lit rfl ?_
  conv=>whnf
  refine BslQ.o Ae ([(1:Int),(1:Int),(2:Int)]) (by exact fun _=>⟨rfl,rfl⟩) (by rfl) ?_
  conv=>whnf
  refine CallQ.io Ae (rP true (Aj false)) (by rfl) rfl (fun _=>rfl) (fun _=>⟨rfl,rfl⟩) rfl h (fun r h=>Bj h) (fun r6 u7 h=> ?_)
  conv=>whnf
  refine LoopQ.o [6,5,4,2,0,132] (H3 r4) (L5 r4) h (fun s o h=>V4 s o h) (by rfl) (fun _=>rfl) ?_
  rintro ⟨q21_5,q21_132⟩ h
  try dsimp only at h
  conv=>whnf
  refine CallQ.io Ae (rP true (Aj false)) (by rfl) rfl (fun _=>rfl) (fun _=>⟨rfl,rfl⟩) rfl h (fun r h=>Bf h) (fun r22 u23 h=> ?_)
  conv=>whnf
  refine Br.oe h (fun p24 h=> ?_) (fun p24 h=> ?_)
  ·conv=>whnf
   refine Ask.o h fun p25 h=> ?_
   conv=>whnf
   refine BslQ.o Ae ([(0:Int),(9:Int),r4+(1:Int)]) (by exact fun _=>⟨rfl,rfl⟩) (by rfl) ?_
   conv=>whnf
   refine CallQ.io Ae (rP true (Aj false)) (by rfl) rfl (fun _=>rfl) (fun _=>⟨rfl,rfl⟩) rfl h (fun r h=>Bj h) (fun r26 u27 h=> ?_)
   conv=>whnf
   refine SetKids.lit rfl ?_
   conv=>whnf
   refine Cells.lit rfl rfl ?_
   conv=>whnf
   refine SetKids.lit rfl ?_
   conv=>whnf
   cases h;exact ⟨(by rfl),(by rfl)⟩
  conv=>whnf
  refine Br.oe h (fun p28 h=> ?_) (fun p28 h=> ?_)
  ·conv=>whnf
   refine Cells.lit rfl rfl ?_
   conv=>whnf
   refine Cells.lit rfl rfl ?_
   conv=>whnf
   refine Kid.lit rfl rfl ?_
   conv=>whnf
   refine Len.map ?_
   conv=>whnf
   refine Ask.o h fun p29 h=> ?_
   conv=>whnf
   refine Kid.lit rfl rfl ?_
   conv=>whnf
   refine Cells.wide (by exact fun _=>⟨rfl,rfl⟩) (by first | omega | (simp [At] at * <;> omega)) (by decide) ?_
   conv=>whnf
   refine SameQ.mk ⟨rfl,?_⟩
   conv=>whnf
   refine Cells.lit rfl rfl ?_
   conv=>whnf
   refine SameQ.mk ⟨rfl,?_⟩
   conv=>whnf
   refine SameQ.mk ⟨rfl,?_⟩
   conv=>whnf
   refine Cells.lit rfl rfl ?_
   conv=>whnf
   refine SameQ.mk ⟨rfl,?_⟩
   conv=>whnf
   refine Kid.lit rfl rfl ?_
   conv=>whnf
   refine Len.map ?_
   conv=>whnf
   refine Ask.mk p29 ?_
   conv=>whnf
   refine SameQ.mk ⟨rfl,?_⟩
   conv=>whnf
   refine SameQ.mk ⟨rfl,?_⟩
   conv=>whnf
   refine Kid.lit rfl rfl ?_
   conv=>whnf
   refine Cells.wide (by exact fun _=>⟨rfl,rfl⟩) (by first | omega | (simp [At] at * <;> omega)) (by decide) ?_
   conv=>whnf
   refine SameQ.mk ⟨rfl,?_⟩
   conv=>whnf
   refine BslQ.o Ae ([(0:Int)]) (by exact fun _=>⟨rfl,rfl⟩) (by rfl) ?_
   conv=>whnf
   refine SameQ.mk ⟨rfl,?_⟩
   conv=>whnf
   refine Cells.lit rfl rfl ?_
   conv=>whnf
   refine SameQ.mk ⟨rfl,?_⟩
   conv=>whnf
   refine SameQ.mk ⟨rfl,?_⟩
   conv=>whnf
   refine Cells.lit rfl rfl ?_
   conv=>whnf
   refine SameQ.mk ⟨rfl,?_⟩
   conv=>whnf
   refine Kid.lit rfl rfl ?_
   conv=>whnf
   refine Len.map ?_
   conv=>whnf
   refine Ask.mk p29 ?_
   conv=>whnf
   refine SameQ.mk ⟨rfl,?_⟩
   conv=>whnf
   refine SameQ.mk ⟨rfl,?_⟩
   conv=>whnf
   refine Kid.lit rfl rfl ?_
   conv=>whnf
   refine Cells.wide (by exact fun _=>⟨rfl,rfl⟩) (by first | omega | (simp [At] at * <;> omega)) (by decide) ?_
   conv=>whnf
   refine SameQ.mk ⟨rfl,?_⟩
   conv=>whnf
   refine NoOwn.o (fun _=>rfl) ?_
   conv=>whnf
   refine Kid.lit rfl rfl ?_
   conv=>whnf
   refine Kid.wide (by exact fun _=>⟨rfl,rfl⟩) (by first | omega | (simp [At] at * <;> omega)) (by rfl) ?_
   conv=>whnf
   refine Kid.lit rfl rfl ?_
   conv=>whnf
   refine Kid.wide (by exact fun _=>⟨rfl,rfl⟩) (by first | omega | (simp [At] at * <;> omega)) (by rfl) ?_
   conv=>whnf
   refine SetKids.mkholeW (by exact fun _=>⟨rfl,rfl⟩) _ (by first | omega | (simp [At] at * <;> omega)) (by rfl) (by decide) ?_
   conv=>whnf
   refine SetKids.lit rfl ?_
   conv=>whnf
   refine AppQ.o (m:=1) Ae (by exact fun _=>⟨rfl,rfl⟩) ((nth q21_5.Ops (Int.toNat (0:Int))).Table) ([(0:Int)]) (by rfl) (by rfl) h fun h=> ?_
   conv=>whnf
   refine SameQ.mk ⟨rfl,?_⟩
   conv=>whnf
   refine Cells.lit rfl rfl ?_
   conv=>whnf
   refine SameQ.mk ⟨rfl,?_⟩
   conv=>whnf
   refine Kid.lit rfl rfl ?_
   conv=>whnf
   refine Len.holeW ?_
   conv=>whnf
   refine Ask.mk p29 ?_
   conv=>whnf
   refine Kid.lit rfl rfl ?_
   conv=>whnf
   refine SetKids.fillW (by exact fun _=>⟨rfl,rfl⟩) ({ Arity:=(nth q21_5.Ops (Int.toNat (0:Int))).Arity,Table:=(nth q21_5.Ops (Int.toNat (0:Int))).Table++[(0:Int)] }) (by first | omega | (simp [At] at * <;> omega)) (by rfl) (by rfl) (by decide) ?_
   conv=>whnf
   refine Kid.lit rfl rfl ?_
   conv=>whnf
   refine SetKids.lit rfl ?_
   conv=>whnf
   refine Cells.lit rfl rfl ?_
   conv=>whnf
   refine SetKids.lit rfl ?_
   conv=>whnf
   cases h;exact ⟨(by rfl),(by rfl)⟩
  conv=>whnf
  refine Br.oe h (fun p30 h=> ?_) (fun p30 h=> ?_)
  ·conv=>whnf
   refine Cells.lit rfl rfl ?_
   conv=>whnf
   refine Kid.lit rfl rfl ?_
   conv=>whnf
   refine Len.map ?_
   conv=>whnf
   refine Ask.o h fun p31 h=> ?_
   conv=>whnf
   refine Kid.lit rfl rfl ?_
   conv=>whnf
   refine Cells.wide (by exact fun _=>⟨rfl,rfl⟩) (by first | omega | (simp [At] at * <;> omega)) (by decide) ?_
   conv=>whnf
   refine Cells.lit rfl rfl ?_
   conv=>whnf
   refine Kid.lit rfl rfl ?_
   conv=>whnf
   refine Len.map ?_
   conv=>whnf
   refine Ask.mk p31 ?_
   conv=>whnf
   refine Kid.lit rfl rfl ?_
   conv=>whnf
   refine Cells.wide (by exact fun _=>⟨rfl,rfl⟩) (by first | omega | (simp [At] at * <;> omega)) (by decide) ?_
   conv=>whnf
   refine Two.mk ⟨?_,?_⟩
   ·conv=>whnf
    refine SameQ.mk ⟨rfl,?_⟩
    conv=>whnf
    refine Cells.lit rfl rfl ?_
    conv=>whnf
    refine SameQ.mk ⟨rfl,?_⟩
    conv=>whnf
    refine Kid.lit rfl rfl ?_
    conv=>whnf
    refine Len.map ?_
    conv=>whnf
    refine Ask.mk p31 ?_
    conv=>whnf
    refine SameQ.mk ⟨rfl,?_⟩
    conv=>whnf
    refine SameQ.mk ⟨rfl,?_⟩
    conv=>whnf
    refine Kid.lit rfl rfl ?_
    conv=>whnf
    refine Cells.wide (by exact fun _=>⟨rfl,rfl⟩) (by first | omega | (simp [At] at * <;> omega)) (by decide) ?_
    conv=>whnf
    refine SameQ.mk ⟨rfl,?_⟩
    conv=>whnf
    refine SameQ.mk ⟨rfl,?_⟩
    conv=>whnf
    refine SameQ.mk ⟨rfl,?_⟩
    conv=>whnf
    refine Cells.lit rfl rfl ?_
    conv=>whnf
    refine SameQ.mk ⟨rfl,?_⟩
    conv=>whnf
    refine Kid.lit rfl rfl ?_
    conv=>whnf
    refine Len.map ?_
    conv=>whnf
    refine Ask.mk p31 ?_
    conv=>whnf
    refine SameQ.mk ⟨rfl,?_⟩
    conv=>whnf
    refine SameQ.mk ⟨rfl,?_⟩
    conv=>whnf
    refine Kid.lit rfl rfl ?_
    conv=>whnf
    refine Cells.wide (by exact fun _=>⟨rfl,rfl⟩) (by first | omega | (simp [At] at * <;> omega)) (by decide) ?_
    conv=>whnf
    refine SameQ.mk ⟨rfl,?_⟩
    conv=>whnf
    refine SameQ.mk ⟨rfl,?_⟩
    conv=>whnf
    refine SameQ.mk ⟨rfl,?_⟩
    conv=>whnf
    refine Kid.lit rfl rfl ?_
    conv=>whnf
    refine Kid.wide (by exact fun _=>⟨rfl,rfl⟩) (by first | omega | (simp [At] at * <;> omega)) (by rfl) ?_
    conv=>whnf
    refine Len.map ?_
    conv=>whnf
    refine Two.mk ⟨?_,?_⟩
    ·conv=>whnf
     refine SameQ.mk ⟨rfl,?_⟩
     conv=>whnf
     refine Cells.lit rfl rfl ?_
     conv=>whnf
     refine SameQ.mk ⟨rfl,?_⟩
     conv=>whnf
     refine Kid.lit rfl rfl ?_
     conv=>whnf
     refine Len.map ?_
     conv=>whnf
     refine Ask.mk p31 ?_
     conv=>whnf
     refine SameQ.mk ⟨rfl,?_⟩
     conv=>whnf
     refine SameQ.mk ⟨rfl,?_⟩
     conv=>whnf
     refine Kid.lit rfl rfl ?_
     conv=>whnf
     refine Cells.wide (by exact fun _=>⟨rfl,rfl⟩) (by first | omega | (simp [At] at * <;> omega)) (by decide) ?_
     conv=>whnf
     refine SameQ.mk ⟨rfl,?_⟩
     conv=>whnf
     refine SameQ.mk ⟨rfl,?_⟩
     conv=>whnf
     refine SameQ.mk ⟨rfl,?_⟩
     conv=>whnf
     refine SameQ.mk ⟨rfl,?_⟩
     conv=>whnf
     refine CallQ.io Ae (rP true (Aj false)) (by rfl) rfl (fun _=>rfl) (fun _=>⟨rfl,rfl⟩) rfl h (fun r h=>Bf h) (fun r32 u33 h=> ?_)
     conv=>whnf
     refine SameQ.mk ⟨rfl,?_⟩
     conv=>whnf
     refine Cells.lit rfl rfl ?_
     conv=>whnf
     refine SameQ.mk ⟨rfl,?_⟩
     conv=>whnf
     refine Kid.lit rfl rfl ?_
     conv=>whnf
     refine Len.map ?_
     conv=>whnf
     refine Ask.mk p31 ?_
     conv=>whnf
     refine SameQ.mk ⟨rfl,?_⟩
     conv=>whnf
     refine SameQ.mk ⟨rfl,?_⟩
     conv=>whnf
     refine Kid.lit rfl rfl ?_
     conv=>whnf
     refine Cells.wide (by exact fun _=>⟨rfl,rfl⟩) (by first | omega | (simp [At] at * <;> omega)) (by decide) ?_
     conv=>whnf
     refine SameQ.mk ⟨rfl,?_⟩
     conv=>whnf
     refine SameQ.mk ⟨rfl,?_⟩
     conv=>whnf
     refine SameQ.mk ⟨rfl,?_⟩
     conv=>whnf
     refine BslQ.o Ae ([(-1:Int),r4]) (by exact fun _=>⟨rfl,rfl⟩) (by rfl) ?_
     conv=>whnf
     refine SameQ.mk ⟨rfl,?_⟩
     conv=>whnf
     refine Cells.lit rfl rfl ?_
     conv=>whnf
     refine SameQ.mk ⟨rfl,?_⟩
     conv=>whnf
     refine Kid.lit rfl rfl ?_
     conv=>whnf
     refine Len.map ?_
     conv=>whnf
     refine Ask.mk p31 ?_
     conv=>whnf
     refine SameQ.mk ⟨rfl,?_⟩
     conv=>whnf
     refine SameQ.mk ⟨rfl,?_⟩
     conv=>whnf
     refine Kid.lit rfl rfl ?_
     conv=>whnf
     refine Cells.wide (by exact fun _=>⟨rfl,rfl⟩) (by first | omega | (simp [At] at * <;> omega)) (by decide) ?_
     conv=>whnf
     refine SameQ.mk ⟨rfl,?_⟩
     conv=>whnf
     refine SameQ.mk ⟨rfl,?_⟩
     conv=>whnf
     refine CallQ.io Ae (rP true (Aj false)) (by rfl) rfl (fun _=>rfl) (fun _=>⟨rfl,rfl⟩) rfl h (fun r h=>Bj h) (fun r34 u35 h=> ?_)
     conv=>whnf
     refine SameQ.mk ⟨rfl,?_⟩
     conv=>whnf
     refine Cells.lit rfl rfl ?_
     conv=>whnf
     refine SameQ.mk ⟨rfl,?_⟩
     conv=>whnf
     refine Kid.lit rfl rfl ?_
     conv=>whnf
     refine Len.map ?_
     conv=>whnf
     refine Ask.mk p31 ?_
     conv=>whnf
     refine SameQ.mk ⟨rfl,?_⟩
     conv=>whnf
     refine SameQ.mk ⟨rfl,?_⟩
     conv=>whnf
     refine Kid.lit rfl rfl ?_
     conv=>whnf
     refine Cells.wide (by exact fun _=>⟨rfl,rfl⟩) (by first | omega | (simp [At] at * <;> omega)) (by decide) ?_
     conv=>whnf
     refine SameQ.mk ⟨rfl,?_⟩
     conv=>whnf
     refine Kid.lit rfl rfl ?_
     conv=>whnf
     refine Kid.wide (by exact fun _=>⟨rfl,rfl⟩) (by first | omega | (simp [At] at * <;> omega)) (by rfl) ?_
     conv=>whnf
     refine Len.map ?_
     conv=>whnf
     refine Ask.o h fun p36 h=> ?_
     conv=>whnf
     refine Kid.lit rfl rfl ?_
     conv=>whnf
     refine Kid.wide (by exact fun _=>⟨rfl,rfl⟩) (by first | omega | (simp [At] at * <;> omega)) (by rfl) ?_
     conv=>whnf
     refine SetKids.one (fun _=>⟨rfl,rfl⟩) (r34) (by rfl) (by first | omega | (simp [At] at * <;> omega)) ?_
     conv=>whnf
     refine Kid.lit rfl rfl ?_
     conv=>whnf
     refine Kid.wide (by exact fun _=>⟨rfl,rfl⟩) (by first | omega | (simp [At] at * <;> omega)) (by rfl) ?_
     conv=>whnf
     refine SetKids.wide (by exact fun _=>⟨rfl,rfl⟩) ({ Arity:=(nth q21_5.Ops (Int.toNat (0:Int))).Arity,Table:=(nth q21_5.Ops (Int.toNat (0:Int))).Table.set r32.toNat r34 }) (by first | omega | (simp [At] at * <;> omega)) (by rfl) (by decide) ?_
     conv=>whnf
     refine SetKids.lit rfl ?_
     conv=>whnf
     refine Cells.lit rfl rfl ?_
     conv=>whnf
     refine SetKids.lit rfl ?_
     conv=>whnf
     cases h;exact ⟨(by rfl),(by rfl)⟩
    conv=>whnf
    refine SameQ.mk ⟨rfl,?_⟩
    conv=>whnf
    refine Cells.lit rfl rfl ?_
    conv=>whnf
    refine SameQ.mk ⟨rfl,?_⟩
    conv=>whnf
    refine Kid.lit rfl rfl ?_
    conv=>whnf
    refine Len.map ?_
    conv=>whnf
    refine Ask.mk p31 ?_
    conv=>whnf
    refine SameQ.mk ⟨rfl,?_⟩
    conv=>whnf
    refine SameQ.mk ⟨rfl,?_⟩
    conv=>whnf
    refine Kid.lit rfl rfl ?_
    conv=>whnf
    refine Cells.wide (by exact fun _=>⟨rfl,rfl⟩) (by first | omega | (simp [At] at * <;> omega)) (by decide) ?_
    conv=>whnf
    refine SameQ.mk ⟨rfl,?_⟩
    conv=>whnf
    refine SameQ.mk ⟨rfl,?_⟩
    conv=>whnf
    refine SameQ.mk ⟨rfl,?_⟩
    conv=>whnf
    refine SameQ.mk ⟨rfl,?_⟩
    conv=>whnf
    refine BslQ.o Ae ([(-1:Int),r4]) (by exact fun _=>⟨rfl,rfl⟩) (by rfl) ?_
    conv=>whnf
    refine SameQ.mk ⟨rfl,?_⟩
    conv=>whnf
    refine Cells.lit rfl rfl ?_
    conv=>whnf
    refine SameQ.mk ⟨rfl,?_⟩
    conv=>whnf
    refine Kid.lit rfl rfl ?_
    conv=>whnf
    refine Len.map ?_
    conv=>whnf
    refine Ask.mk p31 ?_
    conv=>whnf
    refine SameQ.mk ⟨rfl,?_⟩
    conv=>whnf
    refine SameQ.mk ⟨rfl,?_⟩
    conv=>whnf
    refine Kid.lit rfl rfl ?_
    conv=>whnf
    refine Cells.wide (by exact fun _=>⟨rfl,rfl⟩) (by first | omega | (simp [At] at * <;> omega)) (by decide) ?_
    conv=>whnf
    refine SameQ.mk ⟨rfl,?_⟩
    conv=>whnf
    refine SameQ.mk ⟨rfl,?_⟩
    conv=>whnf
    refine SameQ.mk ⟨rfl,?_⟩
    conv=>whnf
    refine CallQ.io Ae (rP true (Aj false)) (by rfl) rfl (fun _=>rfl) (fun _=>⟨rfl,rfl⟩) rfl h (fun r h=>Bf h) (fun r37 u38 h=> ?_)
    conv=>whnf
    refine SameQ.mk ⟨rfl,?_⟩
    conv=>whnf
    refine Cells.lit rfl rfl ?_
    conv=>whnf
    refine SameQ.mk ⟨rfl,?_⟩
    conv=>whnf
    refine Kid.lit rfl rfl ?_
    conv=>whnf
    refine Len.map ?_
    conv=>whnf
    refine Ask.mk p31 ?_
    conv=>whnf
    refine SameQ.mk ⟨rfl,?_⟩
    conv=>whnf
    refine SameQ.mk ⟨rfl,?_⟩
    conv=>whnf
    refine Kid.lit rfl rfl ?_
    conv=>whnf
    refine Cells.wide (by exact fun _=>⟨rfl,rfl⟩) (by first | omega | (simp [At] at * <;> omega)) (by decide) ?_
    conv=>whnf
    refine SameQ.mk ⟨rfl,?_⟩
    conv=>whnf
    refine SameQ.mk ⟨rfl,?_⟩
    conv=>whnf
    refine CallQ.io Ae (rP true (Aj false)) (by rfl) rfl (fun _=>rfl) (fun _=>⟨rfl,rfl⟩) rfl h (fun r h=>Bj h) (fun r39 u40 h=> ?_)
    conv=>whnf
    refine SameQ.mk ⟨rfl,?_⟩
    conv=>whnf
    refine Cells.lit rfl rfl ?_
    conv=>whnf
    refine SameQ.mk ⟨rfl,?_⟩
    conv=>whnf
    refine Kid.lit rfl rfl ?_
    conv=>whnf
    refine Len.map ?_
    conv=>whnf
    refine Ask.mk p31 ?_
    conv=>whnf
    refine SameQ.mk ⟨rfl,?_⟩
    conv=>whnf
    refine SameQ.mk ⟨rfl,?_⟩
    conv=>whnf
    refine Kid.lit rfl rfl ?_
    conv=>whnf
    refine Cells.wide (by exact fun _=>⟨rfl,rfl⟩) (by first | omega | (simp [At] at * <;> omega)) (by decide) ?_
    conv=>whnf
    refine SameQ.mk ⟨rfl,?_⟩
    conv=>whnf
    refine Kid.lit rfl rfl ?_
    conv=>whnf
    refine Kid.wide (by exact fun _=>⟨rfl,rfl⟩) (by first | omega | (simp [At] at * <;> omega)) (by rfl) ?_
    conv=>whnf
    refine Len.map ?_
    conv=>whnf
    refine Ask.o h fun p41 h=> ?_
    conv=>whnf
    refine Kid.lit rfl rfl ?_
    conv=>whnf
    refine Kid.wide (by exact fun _=>⟨rfl,rfl⟩) (by first | omega | (simp [At] at * <;> omega)) (by rfl) ?_
    conv=>whnf
    refine SetKids.one (fun _=>⟨rfl,rfl⟩) (r39) (by rfl) (by first | omega | (simp [At] at * <;> omega)) ?_
    conv=>whnf
    refine Kid.lit rfl rfl ?_
    conv=>whnf
    refine Kid.wide (by exact fun _=>⟨rfl,rfl⟩) (by first | omega | (simp [At] at * <;> omega)) (by rfl) ?_
    conv=>whnf
    refine SetKids.wide (by exact fun _=>⟨rfl,rfl⟩) ({ Arity:=(nth q21_5.Ops (Int.toNat (0:Int))).Arity,Table:=(nth q21_5.Ops (Int.toNat (0:Int))).Table.set r37.toNat r39 }) (by first | omega | (simp [At] at * <;> omega)) (by rfl) (by decide) ?_
    conv=>whnf
    refine SetKids.lit rfl ?_
    conv=>whnf
    refine Cells.lit rfl rfl ?_
    conv=>whnf
    refine SetKids.lit rfl ?_
    conv=>whnf
    cases h;exact ⟨(by rfl),(by rfl)⟩
   conv=>whnf
   refine SameQ.mk ⟨rfl,?_⟩
   conv=>whnf
   refine Cells.lit rfl rfl ?_
   conv=>whnf
   refine SameQ.mk ⟨rfl,?_⟩
   conv=>whnf
   refine Kid.lit rfl rfl ?_
   conv=>whnf
   refine Len.map ?_
   conv=>whnf
   refine Ask.mk p31 ?_
   conv=>whnf
   refine SameQ.mk ⟨rfl,?_⟩
   conv=>whnf
   refine SameQ.mk ⟨rfl,?_⟩
   conv=>whnf
   refine Kid.lit rfl rfl ?_
   conv=>whnf
   refine Cells.wide (by exact fun _=>⟨rfl,rfl⟩) (by first | omega | (simp [At] at * <;> omega)) (by decide) ?_
   conv=>whnf
   refine SameQ.mk ⟨rfl,?_⟩
   conv=>whnf
   refine SameQ.mk ⟨rfl,?_⟩
   conv=>whnf
   refine SameQ.mk ⟨rfl,?_⟩
   conv=>whnf
   refine Cells.lit rfl rfl ?_
   conv=>whnf
   refine SameQ.mk ⟨rfl,?_⟩
   conv=>whnf
   refine Kid.lit rfl rfl ?_
   conv=>whnf
   refine Len.map ?_
   conv=>whnf
   refine Ask.mk p31 ?_
   conv=>whnf
   refine SameQ.mk ⟨rfl,?_⟩
   conv=>whnf
   refine SameQ.mk ⟨rfl,?_⟩
   conv=>whnf
   refine Kid.lit rfl rfl ?_
   conv=>whnf
   refine Cells.wide (by exact fun _=>⟨rfl,rfl⟩) (by first | omega | (simp [At] at * <;> omega)) (by decide) ?_
   conv=>whnf
   refine SameQ.mk ⟨rfl,?_⟩
   conv=>whnf
   refine SameQ.mk ⟨rfl,?_⟩
   conv=>whnf
   refine SameQ.mk ⟨rfl,?_⟩
   conv=>whnf
   refine BslQ.o Ae ([(-1:Int),r4]) (by exact fun _=>⟨rfl,rfl⟩) (by rfl) ?_
   conv=>whnf
   refine SameQ.mk ⟨rfl,?_⟩
   conv=>whnf
   refine Cells.lit rfl rfl ?_
   conv=>whnf
   refine SameQ.mk ⟨rfl,?_⟩
   conv=>whnf
   refine Kid.lit rfl rfl ?_
   conv=>whnf
   refine Len.map ?_
   conv=>whnf
   refine Ask.mk p31 ?_
   conv=>whnf
   refine SameQ.mk ⟨rfl,?_⟩
   conv=>whnf
   refine SameQ.mk ⟨rfl,?_⟩
   conv=>whnf
   refine Kid.lit rfl rfl ?_
   conv=>whnf
   refine Cells.wide (by exact fun _=>⟨rfl,rfl⟩) (by first | omega | (simp [At] at * <;> omega)) (by decide) ?_
   conv=>whnf
   refine SameQ.mk ⟨rfl,?_⟩
   conv=>whnf
   refine SameQ.mk ⟨rfl,?_⟩
   conv=>whnf
   refine SameQ.mk ⟨rfl,?_⟩
   conv=>whnf
   refine Cells.lit rfl rfl ?_
   conv=>whnf
   refine SameQ.mk ⟨rfl,?_⟩
   conv=>whnf
   refine Kid.lit rfl rfl ?_
   conv=>whnf
   refine Len.map ?_
   conv=>whnf
   refine Ask.mk p31 ?_
   conv=>whnf
   refine SameQ.mk ⟨rfl,?_⟩
   conv=>whnf
   refine SameQ.mk ⟨rfl,?_⟩
   conv=>whnf
   refine Kid.lit rfl rfl ?_
   conv=>whnf
   refine Cells.wide (by exact fun _=>⟨rfl,rfl⟩) (by first | omega | (simp [At] at * <;> omega)) (by decide) ?_
   conv=>whnf
   refine SameQ.mk ⟨rfl,?_⟩
   conv=>whnf
   refine SameQ.mk ⟨rfl,?_⟩
   conv=>whnf
   refine Kid.lit rfl rfl ?_
   conv=>whnf
   refine Kid.wide (by exact fun _=>⟨rfl,rfl⟩) (by first | omega | (simp [At] at * <;> omega)) (by rfl) ?_
   conv=>whnf
   refine Len.map ?_
   conv=>whnf
   refine SameQ.mk ⟨rfl,?_⟩
   conv=>whnf
   refine Cells.lit rfl rfl ?_
   conv=>whnf
   refine SameQ.mk ⟨rfl,?_⟩
   conv=>whnf
   refine Kid.lit rfl rfl ?_
   conv=>whnf
   refine Len.map ?_
   conv=>whnf
   refine Ask.mk p31 ?_
   conv=>whnf
   refine SameQ.mk ⟨rfl,?_⟩
   conv=>whnf
   refine SameQ.mk ⟨rfl,?_⟩
   conv=>whnf
   refine Kid.lit rfl rfl ?_
   conv=>whnf
   refine Cells.wide (by exact fun _=>⟨rfl,rfl⟩) (by first | omega | (simp [At] at * <;> omega)) (by decide) ?_
   conv=>whnf
   refine SameQ.mk ⟨rfl,?_⟩
   conv=>whnf
   refine SameQ.mk ⟨rfl,?_⟩
   conv=>whnf
   refine SameQ.mk ⟨rfl,?_⟩
   conv=>whnf
   refine CallQ.io Ae (rP true (Aj false)) (by rfl) rfl (fun _=>rfl) (fun _=>⟨rfl,rfl⟩) rfl h (fun r h=>Bf h) (fun r42 u43 h=> ?_)
   conv=>whnf
   refine SameQ.mk ⟨rfl,?_⟩
   conv=>whnf
   refine Cells.lit rfl rfl ?_
   conv=>whnf
   refine SameQ.mk ⟨rfl,?_⟩
   conv=>whnf
   refine Kid.lit rfl rfl ?_
   conv=>whnf
   refine Len.map ?_
   conv=>whnf
   refine Ask.mk p31 ?_
   conv=>whnf
   refine SameQ.mk ⟨rfl,?_⟩
   conv=>whnf
   refine SameQ.mk ⟨rfl,?_⟩
   conv=>whnf
   refine Kid.lit rfl rfl ?_
   conv=>whnf
   refine Cells.wide (by exact fun _=>⟨rfl,rfl⟩) (by first | omega | (simp [At] at * <;> omega)) (by decide) ?_
   conv=>whnf
   refine SameQ.mk ⟨rfl,?_⟩
   conv=>whnf
   refine SameQ.mk ⟨rfl,?_⟩
   conv=>whnf
   refine CallQ.io Ae (rP true (Aj false)) (by rfl) rfl (fun _=>rfl) (fun _=>⟨rfl,rfl⟩) rfl h (fun r h=>Bj h) (fun r44 u45 h=> ?_)
   conv=>whnf
   refine SameQ.mk ⟨rfl,?_⟩
   conv=>whnf
   refine Cells.lit rfl rfl ?_
   conv=>whnf
   refine SameQ.mk ⟨rfl,?_⟩
   conv=>whnf
   refine Kid.lit rfl rfl ?_
   conv=>whnf
   refine Len.map ?_
   conv=>whnf
   refine Ask.mk p31 ?_
   conv=>whnf
   refine SameQ.mk ⟨rfl,?_⟩
   conv=>whnf
   refine SameQ.mk ⟨rfl,?_⟩
   conv=>whnf
   refine Kid.lit rfl rfl ?_
   conv=>whnf
   refine Cells.wide (by exact fun _=>⟨rfl,rfl⟩) (by first | omega | (simp [At] at * <;> omega)) (by decide) ?_
   conv=>whnf
   refine SameQ.mk ⟨rfl,?_⟩
   conv=>whnf
   refine Kid.lit rfl rfl ?_
   conv=>whnf
   refine Kid.wide (by exact fun _=>⟨rfl,rfl⟩) (by first | omega | (simp [At] at * <;> omega)) (by rfl) ?_
   conv=>whnf
   refine Len.map ?_
   conv=>whnf
   refine Ask.o h fun p46 h=> ?_
   conv=>whnf
   refine Kid.lit rfl rfl ?_
   conv=>whnf
   refine Kid.wide (by exact fun _=>⟨rfl,rfl⟩) (by first | omega | (simp [At] at * <;> omega)) (by rfl) ?_
   conv=>whnf
   refine SetKids.one (fun _=>⟨rfl,rfl⟩) (r44) (by rfl) (by first | omega | (simp [At] at * <;> omega)) ?_
   conv=>whnf
   refine Kid.lit rfl rfl ?_
   conv=>whnf
   refine Kid.wide (by exact fun _=>⟨rfl,rfl⟩) (by first | omega | (simp [At] at * <;> omega)) (by rfl) ?_
   conv=>whnf
   refine SetKids.wide (by exact fun _=>⟨rfl,rfl⟩) ({ Arity:=(nth q21_5.Ops (Int.toNat (0:Int))).Arity,Table:=(nth q21_5.Ops (Int.toNat (0:Int))).Table.set r42.toNat r44 }) (by first | omega | (simp [At] at * <;> omega)) (by rfl) (by decide) ?_
   conv=>whnf
   refine SetKids.lit rfl ?_
   conv=>whnf
   refine Cells.lit rfl rfl ?_
   conv=>whnf
   refine SetKids.lit rfl ?_
   conv=>whnf
   cases h;exact ⟨(by rfl),(by rfl)⟩
  conv=>whnf
  refine Br.oe h (fun p47 h=> ?_) (fun p47 h=> ?_)
  ·conv=>whnf
   refine Cells.lit rfl rfl ?_
   conv=>whnf
   refine SameQ.mk ⟨rfl,?_⟩
   conv=>whnf
   refine Cells.lit rfl rfl ?_
   conv=>whnf
   refine SameQ.mk ⟨rfl,?_⟩
   conv=>whnf
   refine SameQ.mk ⟨rfl,?_⟩
   conv=>whnf
   refine BslQ.o Ae ([(-1:Int),(4:Int)]) (by exact fun _=>⟨rfl,rfl⟩) (by rfl) ?_
   conv=>whnf
   refine SameQ.mk ⟨rfl,?_⟩
   conv=>whnf
   refine Cells.lit rfl rfl ?_
   conv=>whnf
   refine SameQ.mk ⟨rfl,?_⟩
   conv=>whnf
   refine SameQ.mk ⟨rfl,?_⟩
   conv=>whnf
   refine CallQ.io Ae (rP true (Aj false)) (by rfl) rfl (fun _=>rfl) (fun _=>⟨rfl,rfl⟩) rfl h (fun r h=>Bj h) (fun r48 u49 h=> ?_)
   conv=>whnf
   refine SameQ.mk ⟨rfl,?_⟩
   conv=>whnf
   refine Cells.lit rfl rfl ?_
   conv=>whnf
   refine SameQ.mk ⟨rfl,?_⟩
   conv=>whnf
   refine Kid.lit rfl rfl ?_
   conv=>whnf
   refine Len.map ?_
   conv=>whnf
   refine Ask.o h fun p50 h=> ?_
   conv=>whnf
   refine Kid.lit rfl rfl ?_
   conv=>whnf
   refine SetKids.wide (by exact fun _=>⟨rfl,rfl⟩) ({ Arity:=r48,Table:=(nth q21_5.Ops (Int.toNat (0:Int))).Table }) (by first | omega | (simp [At] at * <;> omega)) (by rfl) (by decide) ?_
   conv=>whnf
   refine Kid.lit rfl rfl ?_
   conv=>whnf
   refine SetKids.lit rfl ?_
   conv=>whnf
   refine Cells.lit rfl rfl ?_
   conv=>whnf
   refine SetKids.lit rfl ?_
   conv=>whnf
   cases h;exact ⟨(by rfl),(by rfl)⟩
  conv=>whnf
  refine Br.oe h (fun p51 h=> ?_) (fun p51 h=> ?_)
  ·conv=>whnf
   refine LoopQ.o [5,4,2,0,132] (H4 r4) (Lw r4) h (fun s o h=>Vj s o h) (by rfl) (fun _=>rfl) ?_
   rintro ⟨q57_5,q57_132⟩ h
   try dsimp only at h
   conv=>whnf
   refine Cells.lit rfl rfl ?_
   conv=>whnf
   refine SetKids.lit rfl ?_
   conv=>whnf
   cases h;exact ⟨(by rfl),(by rfl)⟩
  conv=>whnf
  refine Cells.lit rfl rfl ?_
  conv=>whnf
  refine SetKids.lit rfl ?_
  conv=>whnf
  cases h;exact ⟨(by rfl),(by rfl)⟩
 conv=>whnf
 refine CallQ.io Ae (rP true (Aj false)) (by rfl) rfl (fun _=>rfl) (fun _=>⟨rfl,rfl⟩) rfl h (fun r h=>Bf h) (fun r58 u59 h=> ?_)
 conv=>whnf
 refine CallQ.o (Af true) (by rfl) h (fun r h=>Ai0 h) (fun r60 h=> ?_)
 conv=>whnf
 refine SetKids.lit rfl ?_
 conv=>whnf
 refine Cells.lit rfl rfl ?_
 conv=>whnf
 refine SetKids.lit rfl ?_
 conv=>whnf
 cases h;exact ⟨(by rfl),(by rfl)⟩
end Go.Proofs.Ytmmcfdfdacpjgaa.Ax
