/-
 What the functions compute, as functions on plain data, and that the program does compute it; written by program.
-/
import Derived.Test.YtmmcfdfdacpjgaaCode
import Derived.Test.YtmmcfdfdacpjgaaG1
import Derived.Test.YtmmcfdfdacpjgaaG2
import Derived.Test.YtmmcfdfdacpjgaaG3
import Derived.Test.YtmmcfdfdacpjgaaG5
import Derived.Test.YtmmcfdfdacpjgaaG6
import Derived.Test.YtmmcfdfdacpjgaaG7
import Derived.Test.YtmmcfdfdacpjgaaG8
namespace Go.Proofs.Ytmmcfdfdacpjgaa.Ax
open Go
set_option maxRecDepth 100000
set_option maxHeartbeats 4000000
noncomputable def H5 (_a0:SAlgebra) (gens0:List (List Int)):(Int×Sspan)→Option ((Int×Sspan) ⊕ Sspan):=fun (x23,x8)=>
 if x23<(↑gens0.length:Int) then
 ask ((0:Int)≤x23∧x23<(↑gens0.length:Int)) <|
 (Mu (nth gens0 x23.toNat)).bind fun r3=>
 (Fl (x8) (r3)).bind fun (_r4,u5)=>
 ask (InI (x23+(1:Int))) <|
 some (.inl (x23+(1:Int),u5))
 else
 some (.inr x8)
def Ox (a0:SAlgebra) (gens0:List (List Int)):(Int×Sspan)→St:=fun s=>[(23,A.val (Ae s.1)),(22,A.val (Ae ((↑gens0.length:Int)))),(21,A.val (slr false 1 (slr false 1 Ae) gens0)),(8,A.val (rP true Ci s.2)),(3,A.val (rP true (Af false) a0))]
def U5 (a0:SAlgebra) (_gens0:List (List Int)):Sspan→Tgt
 | s=>((Ex.exit 0),[8,3],[(8,A.val (rP true Ci s)),(3,A.val (rP true (Af false) a0))])
theorem Aga {a0} {gens0} (s) o (h:H5 a0 gens0 s=some o):vc Try.prog Vl (Co [23,22,21,8,3] (Ox a0 gens0) (U5 a0 gens0) o) (Ox a0 gens0 s):=by
 obtain ⟨x23,x8⟩:=s
 unfold H5 at h
 try dsimp only at h
 conv=>whnf
 refine Br.od h (fun p1 h=> ?_) (fun p1 h=> ?_)
 ·conv=>whnf
  refine Len.map ?_
  conv=>whnf
  refine Ask.o h fun p2 h=> ?_
  conv=>whnf
  refine Elem.o (by first | omega | (simp [At] at * <;> omega)) ?_
  conv=>whnf
  refine CallQ.o (slr true 1 Ae) (by rfl) h (fun r h=>Ap3 h) (fun r3 h=> ?_)
  conv=>whnf
  refine CallQ.io (fun r=>V.tup []) (rP true (Ci)) (by first | rfl | (simp only [slr];done) | simp [Al,V.fz,Ab,slr]) rfl (fun _=>rfl) (fun _=>⟨rfl,rfl⟩) rfl h (fun r h=>Xq h) (fun r4 u5 h=> ?_)
  conv=>whnf
  refine Ask.o h fun p6 h=> ?_
  conv=>whnf
  cases h;exact ⟨rfl,rfl⟩
 conv=>whnf
 cases h;exact ⟨rfl,rfl⟩
noncomputable def Dw (a0:SAlgebra) (x11:Int) (x8:Sspan):(Int×Sspan)→Option ((Int×Sspan) ⊕ (Unit ⊕ Sspan)):=fun (x58,x8')=>
 if x58<(↑a0.Ops.length:Int) then
 ask ((0:Int)≤x58∧x58<(↑a0.Ops.length:Int)) <|
 (He (x8') (nth a0.Ops x58.toNat) (Ar (List Int)) (x11) ((↑x8.list.length:Int)) (false)).bind fun (r15,u16,_u17)=>
 if (r15)=true then
 ask (InI (x58+(1:Int))) <|
 some (.inl (x58+(1:Int),u16))
 else
 some (.inr (.inl ()))
 else
 some (.inr (.inr x8'))
def Ou (a0:SAlgebra) (x11:Int) (x8:Sspan):(Int×Sspan)→St:=fun s=>[(58,A.val (Ae s.1)),(57,A.val (Ae ((↑a0.Ops.length:Int)))),(56,A.val (slr false 2 (Aw false) a0.Ops)),(13,A.val (Ae ((↑x8.list.length:Int)))),(11,A.val (Ae x11)),(8,A.val (rP true Ci s.2)),(3,A.val (rP true (Af false) a0))]
def Vx (a0:SAlgebra) (_x11:Int) (x8:Sspan):(Unit ⊕ Sspan)→Tgt
 | (.inl _s)=>(Ex.ret,[7,6],[(7,A.val (V.bool false)),(6,A.val V.nilp.up)])
 | (.inr s)=>((Ex.exit 4),[13,8,3],[(13,A.val (Ae ((↑x8.list.length:Int)))),(8,A.val (rP true Ci s)),(3,A.val (rP true (Af false) a0))])
theorem Ae8 {a0} {x11} {x8} (s) o (h:Dw a0 x11 x8 s=some o):vc Try.prog V1 (Co [58,57,56,13,11,8,3] (Ou a0 x11 x8) (Vx a0 x11 x8) o) (Ou a0 x11 x8 s):=by
 obtain ⟨x58,x8'⟩:=s
 unfold Dw at h
 try dsimp only at h
 conv=>whnf
 refine Br.od h (fun p13 h=> ?_) (fun p13 h=> ?_)
 ·conv=>whnf
  refine Len.map ?_
  conv=>whnf
  refine Ask.o h fun p14 h=> ?_
  conv=>whnf
  refine Elem.o (by first | omega | (simp [At] at * <;> omega)) ?_
  conv=>whnf
  refine SetKids.lit rfl ?_
  conv=>whnf
  refine Cells.lit rfl rfl ?_
  conv=>whnf
  refine Ask.mk (by decide) ?_
  conv=>whnf
  refine CallQ.io2 V.bool (rP true (Ci)) (slr true 1 (slr false 1 Ae)) (by rfl) rfl rfl (fun _=>rfl) (fun _=>⟨rfl,rfl⟩) (fun _=>⟨rfl,rfl⟩) rfl rfl h (fun r h=>Z0 h) (fun r15 u16 u17 h=> ?_)
  conv=>whnf
  refine Br.flip ?_
  conv=>whnf
  refine Br.ob h (fun p18 h=> ?_) (fun p18 h=> ?_)
  ·conv=>whnf
   refine Ask.o h fun p19 h=> ?_
   conv=>whnf
   cases h;exact ⟨rfl,rfl⟩
  conv=>whnf
  cases h;exact ⟨rfl,rfl⟩
 conv=>whnf
 cases h;exact ⟨rfl,rfl⟩
noncomputable def Hv (a0:SAlgebra):(Bool×Int×Sspan)→Option ((Bool×Int×Sspan) ⊕ (Unit ⊕ Sspan)):=fun (x12,x11,x8)=>
 ((if (x12)=true then
 some (.inl ())
 else
 if x11<(↑x8.list.length:Int) then
 some (.inl ())
 else
 some (.inr ()):Option (Unit ⊕ Unit))).bind fun t=>match t with
 | (.inl _)=>((Am (Dw a0 x11 x8) ((0:Int),x8)).bind fun t=>match t with
 | (.inl _)=>(some (.inr (.inl ())))
 | (.inr q20_8)=>(some (.inl (false,(↑x8.list.length:Int),q20_8))))
 | (.inr _)=>(some (.inr (.inr x8)))
def Of (a0:SAlgebra):(Bool×Int×Sspan)→St:=fun s=>[(12,A.val (V.bool s.1)),(11,A.val (Ae s.2.1)),(8,A.val (rP true Ci s.2.2)),(3,A.val (rP true (Af false) a0))]
def Vc (_a0:SAlgebra):(Unit ⊕ Sspan)→Tgt
 | (.inl _s)=>(Ex.ret,[7,6],[(7,A.val (V.bool false)),(6,A.val V.nilp.up)])
 | (.inr s)=>((Ex.exit 2),[8],[(8,A.val (rP true Ci s))])
theorem Af7 {a0} (s) o (h:Hv a0 s=some o):vc Try.prog Vf (Co [12,11,8,3] (Of a0) (Vc a0) o) (Of a0 s):=by
 obtain ⟨x12,x11,x8⟩:=s
 unfold Hv at h
 try dsimp only at h
 conv=>whnf
 refine CutQ.o (fun t:(Unit ⊕ Unit)=>match t with | (.inl s)=>(Ex.normal,[11,8,3],[(11,A.val (Ae (x11))),(8,A.val ((rP true (Ci)) (x8))),(3,A.val ((rP true (Af false)) (a0)))]) | (.inr s)=>((Ex.exit 2),[8],[(8,A.val ((rP true (Ci)) (x8)))])) h ?_ ?_
 ·intro t h
  conv=>whnf
  refine Br.ob h (fun p10 h=> ?_) (fun p10 h=> ?_)
  ·conv=>whnf
   refine Br.yes ?_
   conv=>whnf
   refine Br.yes ?_
   conv=>whnf
   refine Br.yes ?_
   conv=>whnf
   refine Br.yes ?_
   conv=>whnf
   refine Br.yes ?_
   conv=>whnf
   refine Br.yes ?_
   conv=>whnf
   refine Br.yes ?_
   conv=>whnf
   refine Br.yes ?_
   conv=>whnf
   cases h;exact ⟨rfl,rfl⟩
  conv=>whnf
  refine Br.no ?_
  conv=>whnf
  refine Br.no ?_
  conv=>whnf
  refine Br.no ?_
  conv=>whnf
  refine Br.no ?_
  conv=>whnf
  refine Cells.lit rfl rfl ?_
  conv=>whnf
  refine Br.no ?_
  conv=>whnf
  refine Kid.lit rfl rfl ?_
  conv=>whnf
  refine Len.map ?_
  conv=>whnf
  refine Br.no ?_
  conv=>whnf
  refine Br.no ?_
  conv=>whnf
  refine Br.od h (fun p11 h=> ?_) (fun p11 h=> ?_)
  ·conv=>whnf
   cases h;exact ⟨rfl,rfl⟩
  conv=>whnf
  cases h;exact ⟨rfl,rfl⟩
 rintro (⟨⟩ | ⟨⟩) h
 ·try dsimp only at h
  conv=>whnf
  refine Cells.lit rfl rfl ?_
  conv=>whnf
  refine Kid.lit rfl rfl ?_
  conv=>whnf
  refine Len.map ?_
  conv=>whnf
  refine Cells.lit rfl rfl ?_
  conv=>whnf
  refine Len.map ?_
  conv=>whnf
  refine LoopQ.o [58,57,56,13,11,8,3] (Ou a0 x11 x8) (Vx a0 x11 x8) h (fun s o h=>Ae8 s o h) (by rfl) (by rintro (_ | _)<;>rfl) ?_
  rintro (⟨⟩ | q20_8) h
  ·try dsimp only at h
   conv=>whnf
   cases h;exact ⟨rfl,rfl⟩
  try dsimp only at h
  conv=>whnf
  cases h;exact ⟨rfl,rfl⟩
 try dsimp only at h
 conv=>whnf
 cases h;exact ⟨rfl,rfl⟩
noncomputable def K4 (a0:SAlgebra) (k0:Int) (gens0:(List (List Int))):Option ((Option Sspan)×Bool):=
 (Am (H5 a0 gens0) ((0:Int),{ a:=a0,k:=k0,list:=Ar (List Int),at_:=Ar (ByteArray×Int) })).bind fun q7_8=>
 (Db (a0)).bind fun r8=>
 if (↑q7_8.list.length:Int)>r8 then
 some (none,false)
 else
 (Am (Hv a0) (true,(0:Int),q7_8)).bind fun t=>match t with
 | (.inl _)=>(some (none,false))
 | (.inr q21_8)=>(some (some q21_8,true))
theorem Amu {a0} {k0} {gens0} {v} (h:K4 a0 k0 gens0=some v):Ret Try.prog Ug [(Af false) a0,Ae k0,(slr false 1 (slr false 1 Ae)) gens0] ((fun r=>V.tup [(rO false (Kp false)) r.1,V.bool r.2]) v):=by
 refine Akz Amg (Nat.le_of_ble_eq_true rfl) ?_
 unfold K4 at h
 conv=>whnf
 refine Cells.lit rfl rfl ?_
 conv=>whnf
 refine Len.map ?_
 conv=>whnf
 refine LoopQ.o [23,22,21,8,3] (Ox a0 gens0) (U5 a0 gens0) h (fun s o h=>Aga s o h) (by rfl) (fun _=>rfl) ?_
 rintro q7_8 h
 try dsimp only at h
 conv=>whnf
 refine Cells.lit rfl rfl ?_
 conv=>whnf
 refine Kid.lit rfl rfl ?_
 conv=>whnf
 refine Len.map ?_
 conv=>whnf
 refine Cells.lit rfl rfl ?_
 conv=>whnf
 refine CallP.o Ae (by rfl) h (fun r h=>M2 h) (fun r8 h=> ?_)
 conv=>whnf
 refine Br.od h (fun p9 h=> ?_) (fun p9 h=> ?_)
 ·conv=>whnf
  cases h;exact (by rfl)
 conv=>whnf
 refine LoopQ.o [12,11,8,3] (Of a0) (Vc a0) h (fun s o h=>Af7 s o h) (by rfl) (by rintro (_ | _)<;>rfl) ?_
 rintro (⟨⟩ | q21_8) h
 ·try dsimp only at h
  conv=>whnf
  cases h;exact (by rfl)
 try dsimp only at h
 conv=>whnf
 cases h;exact (by first | rfl | simp only [Ah,V.fz,fzL,V.up,Ab] | simp [Ah,Aa,V.fz,fzL,V.up,upL,Ab,Ac,Ad,slr])
noncomputable def Ld (a0:SAlgebra) (b0:SAlgebra):Option (Bool×Bool):=
 (Cp (a0)).bind fun r1=>
 if (r1)=true then
 (Cp (b0)).bind fun r3=>
 if (r3)=true then
 (I6 (a0)).bind fun r5=>
 (I6 (b0)).bind fun r6=>
 (Iy (r5) (r6)).bind fun r7=>
 some (r7,true)
 else
 some (false,false)
 else
 some (false,false)
theorem Ahz {a0} {b0} {v} (h:Ld a0 b0=some v):Ret Try.prog P3 [(Af false) a0,(Af false) b0] ((fun r=>V.tup [V.bool r.1,V.bool r.2]) v):=by
 refine Ba Ag9 (Nat.le_of_ble_eq_true rfl) ?_
 unfold Ld at h
 conv=>whnf
 refine Cells.lit rfl rfl ?_
 conv=>whnf
 refine CallQ.o V.bool (by rfl) h (fun r h=>Gb h) (fun r1 h=> ?_)
 conv=>whnf
 refine Br.flip ?_
 conv=>whnf
 refine Br.ob h (fun p2 h=> ?_) (fun p2 h=> ?_)
 ·conv=>whnf
  refine Cells.lit rfl rfl ?_
  conv=>whnf
  refine Br.no ?_
  conv=>whnf
  refine CallQ.o V.bool (by rfl) h (fun r h=>Gb h) (fun r3 h=> ?_)
  conv=>whnf
  refine Br.no ?_
  conv=>whnf
  refine Br.no ?_
  conv=>whnf
  refine Br.flip ?_
  conv=>whnf
  refine Br.ob h (fun p4 h=> ?_) (fun p4 h=> ?_)
  ·conv=>whnf
   refine Cells.lit rfl rfl ?_
   conv=>whnf
   refine CallP.o (slr true 1 Ae) (by rfl) h (fun r h=>Aay h) (fun r5 h=> ?_)
   conv=>whnf
   refine Cells.lit rfl rfl ?_
   conv=>whnf
   refine CallQ.o (slr true 1 Ae) (by rfl) h (fun r h=>Aay h) (fun r6 h=> ?_)
   conv=>whnf
   refine CallQ.rd V.bool (by first | rfl | simp only [V.fz,Ab,slr] | simp [Aa,V.fz,fzL,V.up,upL,Ab,Ac,Ad,slr]) (fun _=>rfl) h (fun r h=>Aif h) (fun r7 h=> ?_)
   conv=>whnf
   cases h;exact (by rfl)
  conv=>whnf
  cases h;exact (by rfl)
 conv=>whnf
 refine Br.yes ?_
 conv=>whnf
 refine Br.yes ?_
 conv=>whnf
 refine Br.yes ?_
 conv=>whnf
 refine Br.yes ?_
 conv=>whnf
 cases h;exact (by rfl)
noncomputable def Ek (r1:SAlgebra) (_r3:Int):((List (List Int))×Int×Sl1Cur)→Option (((List (List Int))×Int×Sl1Cur) ⊕ ((List (List Int))×Sl1Cur)):=fun (x9,x8,x5)=>
 if x8>(0:Int) then
 (Cf (x5) (r1)).bind fun (r13,u14)=>
 (Cf (u14) (r1)).bind fun (r15,u16)=>
 (Cf (u16) (r1)).bind fun (r17,u18)=>
 ask ((x9).length+([[r13,r15,r17]]).length≤LIM) <|
 ask (InI (x8-(1:Int))) <|
 some (.inl (x9++[[r13,r15,r17]],x8-(1:Int),u18))
 else
 some (.inr (x9,x5))
def I8 (r1:SAlgebra) (r3:Int):((List (List Int))×Int×Sl1Cur)→St:=fun s=>[(9,A.val (slr true 1 (slr true 1 Ae) s.1)),(8,A.val (Ae s.2.1)),(7,A.val (Ae r3)),(6,A.val (rP true (Af false) r1)),(5,A.val (rP true (Aj false) s.2.2)),(2,A.val ((rP true (Af true)) ({ Size:=(0:Int),Ops:=Ar SOp })))]
def N5 (r1:SAlgebra) (r3:Int):((List (List Int))×Sl1Cur)→Tgt
 | s=>((Ex.exit 0),[9,7,6,5,2],[(9,A.val (slr true 1 (slr true 1 Ae) s.1)),(7,A.val (Ae r3)),(6,A.val (rP true (Af false) r1)),(5,A.val (rP true (Aj false) s.2)),(2,A.val ((rP true (Af true)) ({ Size:=(0:Int),Ops:=Ar SOp })))])
theorem X7 {r1} {r3} (s) o (h:Ek r1 r3 s=some o):vc Try.prog Nl (Co [9,8,7,6,5,2] (I8 r1 r3) (N5 r1 r3) o) (I8 r1 r3 s):=by
 obtain ⟨x9,x8,x5⟩:=s
 unfold Ek at h
 try dsimp only at h
 conv=>whnf
 refine Br.od h (fun p12 h=> ?_) (fun p12 h=> ?_)
 ·conv=>whnf
  refine Cells.lit rfl rfl ?_
  conv=>whnf
  refine Cells.lit rfl rfl ?_
  conv=>whnf
  refine Cells.lit rfl rfl ?_
  conv=>whnf
  refine SameQ.mk ⟨rfl,?_⟩
  conv=>whnf
  refine SameQ.mk ⟨rfl,?_⟩
  conv=>whnf
  refine Cells.lit rfl rfl ?_
  conv=>whnf
  refine SameQ.mk ⟨rfl,?_⟩
  conv=>whnf
  refine SameQ.mk ⟨rfl,?_⟩
  conv=>whnf
  refine Cells.lit rfl rfl ?_
  conv=>whnf
  refine SameQ.mk ⟨rfl,?_⟩
  conv=>whnf
  refine SameQ.mk ⟨rfl,?_⟩
  conv=>whnf
  refine Cells.lit rfl rfl ?_
  conv=>whnf
  refine SameQ.mk ⟨rfl,?_⟩
  conv=>whnf
  refine CallQ.io Ae (rP true (Aj false)) (by rfl) rfl (fun _=>rfl) (fun _=>⟨rfl,rfl⟩) rfl h (fun r h=>Hc h) (fun r13 u14 h=> ?_)
  conv=>whnf
  refine SameQ.mk ⟨rfl,?_⟩
  conv=>whnf
  refine SameQ.mk ⟨rfl,?_⟩
  conv=>whnf
  refine Cells.lit rfl rfl ?_
  conv=>whnf
  refine SameQ.mk ⟨rfl,?_⟩
  conv=>whnf
  refine SameQ.mk ⟨rfl,?_⟩
  conv=>whnf
  refine Cells.lit rfl rfl ?_
  conv=>whnf
  refine SameQ.mk ⟨rfl,?_⟩
  conv=>whnf
  refine CallQ.io Ae (rP true (Aj false)) (by rfl) rfl (fun _=>rfl) (fun _=>⟨rfl,rfl⟩) rfl h (fun r h=>Hc h) (fun r15 u16 h=> ?_)
  conv=>whnf
  refine SameQ.mk ⟨rfl,?_⟩
  conv=>whnf
  refine SameQ.mk ⟨rfl,?_⟩
  conv=>whnf
  refine Cells.lit rfl rfl ?_
  conv=>whnf
  refine SameQ.mk ⟨rfl,?_⟩
  conv=>whnf
  refine CallQ.io Ae (rP true (Aj false)) (by rfl) rfl (fun _=>rfl) (fun _=>⟨rfl,rfl⟩) rfl h (fun r h=>Hc h) (fun r17 u18 h=> ?_)
  conv=>whnf
  refine SameQ.mk ⟨rfl,?_⟩
  conv=>whnf
  refine BslQ.o Ae ([r13,r15,r17]) (by exact fun _=>⟨rfl,rfl⟩) (by rfl) ?_
  conv=>whnf
  refine SameQ.mk ⟨rfl,?_⟩
  conv=>whnf
  refine BslQ.o (slr true 1 Ae) ([[r13,r15,r17]]) (by exact fun _=>⟨rfl,rfl⟩) (by rfl) ?_
  conv=>whnf
  refine SameQ.mk ⟨rfl,?_⟩
  conv=>whnf
  refine NoOwn.own rfl ?_
  conv=>whnf
  refine AppQ.o (m:=1) (slr true 1 Ae) (by exact fun _=>⟨rfl,rfl⟩) (x9) ([[r13,r15,r17]]) (by rfl) (by rfl) h fun h=> ?_
  conv=>whnf
  refine Ask.o h fun p19 h=> ?_
  conv=>whnf
  cases h;exact ⟨rfl,rfl⟩
 conv=>whnf
 cases h;exact ⟨rfl,rfl⟩
noncomputable def Gk (code0:(List Int)):Option (SAlgebra×Int×(List (List Int))):=
 (Dy ({ code:=code0,at_:=(0:Int),seed:=(0:Int) })).bind fun (r1,u2)=>
 (Hx (u2) (r1)).bind fun (r3,u4)=>
 (((Gs (r1) (r3)).bind fun r5=>
 if (r5)=true then
 (Bz (u4) ((8:Int))).bind fun (r7,u8)=>
 if (r7)=true then
 some ((2:Int),u8)
 else
 ask ((0:Int)≤r3∧r3<(↑r1.Ops.length:Int)) <|
 some ((nth r1.Ops r3.toNat).Arity,u8)
 else
 some ((2:Int),u4):Option (Int×Sl1Cur))).bind fun (q11_8,q11_5)=>
 (Am (Ek r1 r3) (Ar (List Int),q11_8,q11_5)).bind fun (q20_9,q20_5)=>
 if (↑q20_9.length:Int)>(1:Int) then
 (Bz (q20_5) ((12:Int))).bind fun (r22,_u23)=>
 if (r22)=true then
 ask ((0:Int)≤(1:Int)∧(1:Int)<(↑q20_9.length:Int)) <|
 ask (0≤(0:Int)∧(0:Int)≤(2:Int)∧(2:Int)≤(((nth q20_9 (Int.toNat (1:Int))).length:Nat):Int)) <|
 ask ((0:Int)≤(1:Int)∧(1:Int)<(↑q20_9.length:Int)) <|
 some (r1,r3,q20_9.set (Int.toNat (1:Int)) (List.take (Int.toNat (2:Int)-Int.toNat (0:Int)) (List.drop (Int.toNat (0:Int)) (nth q20_9 (Int.toNat (1:Int))))))
 else
 some (r1,r3,q20_9)
 else
 some (r1,r3,q20_9)
theorem Abb {code0} {v} (h:Gk code0=some v):Ret Try.prog Lr [(slr false 1 (V.int IntKind.u8)) code0] ((fun r=>V.tup [(Af false) r.1,Ae r.2.1,(slr false 1 (slr false 1 Ae)) r.2.2]) v):=by
 refine Akz Acc (Nat.le_of_ble_eq_true rfl) ?_
 unfold Gk at h
 conv=>whnf
 refine CallQ.io (Af false) (rP true (Aj false)) (by rfl) rfl (fun _=>rfl) (fun _=>⟨rfl,rfl⟩) rfl h (fun r h=>Se.frz (Pm h) (by first | rfl | simp only [V.fz,fzL,Ab] | simp [Aa,V.fz,fzL,V.up,upL,Ab,Ac,Ad,slr])) (fun r1 u2 h=> ?_)
 conv=>whnf
 refine SetKids.lit rfl ?_
 conv=>whnf
 refine Cells.lit rfl rfl ?_
 conv=>whnf
 refine CallQ.io Ae (rP true (Aj false)) (by rfl) rfl (fun _=>rfl) (fun _=>⟨rfl,rfl⟩) rfl h (fun r h=>Afb h) (fun r3 u4 h=> ?_)
 conv=>whnf
 refine CutQ.o (fun t:(Int×Sl1Cur)=>match t with | s=>(Ex.normal,[8,7,6,5,2],[(8,A.val (Ae s.1)),(7,A.val (Ae (r3))),(6,A.val ((rP true (Af false)) (r1))),(5,A.val ((rP true (Aj false)) s.2)),(2,A.val ((rP true (Af true)) ({ Size:=(0:Int),Ops:=Ar SOp })))])) h ?_ ?_
 ·intro t h
  conv=>whnf
  refine Cells.lit rfl rfl ?_
  conv=>whnf
  refine CallQ.o V.bool (by rfl) h (fun r h=>Zd h) (fun r5 h=> ?_)
  conv=>whnf
  refine Br.ob h (fun p6 h=> ?_) (fun p6 h=> ?_)
  ·conv=>whnf
   refine Br.yes ?_
   conv=>whnf
   refine CallQ.io V.bool (rP true (Aj false)) (by rfl) rfl (fun _=>rfl) (fun _=>⟨rfl,rfl⟩) rfl h (fun r h=>Et h) (fun r7 u8 h=> ?_)
   conv=>whnf
   refine Br.yes ?_
   conv=>whnf
   refine Br.yes ?_
   conv=>whnf
   refine Br.flip ?_
   conv=>whnf
   refine Br.ob h (fun p9 h=> ?_) (fun p9 h=> ?_)
   ·conv=>whnf
    cases h;exact ⟨rfl,rfl⟩
   conv=>whnf
   refine Cells.lit rfl rfl ?_
   conv=>whnf
   refine Len.map ?_
   conv=>whnf
   refine Ask.o h fun p10 h=> ?_
   conv=>whnf
   refine Elem.o (by first | omega | (simp [At] at * <;> omega)) ?_
   conv=>whnf
   cases h;exact ⟨rfl,rfl⟩
  conv=>whnf
  refine Br.no ?_
  conv=>whnf
  refine Br.no ?_
  conv=>whnf
  refine Br.no ?_
  conv=>whnf
  refine Br.no ?_
  conv=>whnf
  cases h;exact ⟨rfl,rfl⟩
 rintro ⟨q11_8,q11_5⟩ h
 try dsimp only at h
 conv=>whnf
 refine BslQ.o (slr true 1 Ae) (Ar (List Int)) (by exact fun _=>⟨rfl,rfl⟩) (by rfl) ?_
 conv=>whnf
 refine LoopQ.o [9,8,7,6,5,2] (I8 r1 r3) (N5 r1 r3) h (fun s o h=>X7 s o h) (by rfl) (fun _=>rfl) ?_
 rintro ⟨q20_9,q20_5⟩ h
 try dsimp only at h
 conv=>whnf
 refine Len.map ?_
 conv=>whnf
 refine Br.od h (fun p21 h=> ?_) (fun p21 h=> ?_)
 ·conv=>whnf
  refine Br.yes ?_
  conv=>whnf
  refine CallQ.io V.bool (rP true (Aj false)) (by rfl) rfl (fun _=>rfl) (fun _=>⟨rfl,rfl⟩) rfl h (fun r h=>Et h) (fun r22 u23 h=> ?_)
  conv=>whnf
  refine Br.yes ?_
  conv=>whnf
  refine Br.ob h (fun p24 h=> ?_) (fun p24 h=> ?_)
  ·conv=>whnf
   refine FrzQ.d (V.sl true (1:Nat) (List.map (slr false (1:Nat) Ae) q20_9)) (by first | (simp only [V.fzAt,Ln,Ab,slr];done) | exact Eq.trans (b:=V.sl true (1:Nat) (List.map (slr false (1:Nat) Ae) q20_9)) rfl (by simp only [Ac])) ?_
   conv=>whnf
   refine Len.map ?_
   conv=>whnf
   refine Ask.o h fun p25 h=> ?_
   conv=>whnf
   refine Cells.one (fun _=>⟨rfl,rfl⟩) (by first | omega | (simp [At] at * <;> omega)) ?_
   conv=>whnf
   refine SlcQ.o Ae h fun h=> ?_
   conv=>whnf
   refine Len.map ?_
   conv=>whnf
   refine Ask.o h fun p26 h=> ?_
   conv=>whnf
   refine SetKids.one (fun _=>⟨rfl,rfl⟩) (List.take (Int.toNat (2:Int)-Int.toNat (0:Int)) (List.drop (Int.toNat (0:Int)) (nth q20_9 (Int.toNat (1:Int))))) (by rfl) (by first | omega | (simp [At] at * <;> omega)) ?_
   conv=>whnf
   refine Cells.lit rfl rfl ?_
   conv=>whnf
   refine SetKids.lit rfl ?_
   conv=>whnf
   cases h;exact (by first | rfl | simp only [Ah,Aa,V.fz,fzL,V.up,upL,Ab,slr] | simp [Ah,Aa,V.fz,fzL,V.up,upL,Ab,Ac,Ad,slr])
  conv=>whnf
  refine Cells.lit rfl rfl ?_
  conv=>whnf
  refine SetKids.lit rfl ?_
  conv=>whnf
  cases h;exact (by first | rfl | simp only [Ah,V.fz,fzL,V.up,upL,Ab,slr] | simp [Ah,Aa,V.fz,fzL,V.up,upL,Ab,Ac,Ad,slr])
 conv=>whnf
 refine Br.no ?_
 conv=>whnf
 refine Br.no ?_
 conv=>whnf
 refine Br.no ?_
 conv=>whnf
 refine Cells.lit rfl rfl ?_
 conv=>whnf
 refine SetKids.lit rfl ?_
 conv=>whnf
 cases h;exact (by first | rfl | simp only [Ah,V.fz,fzL,V.up,upL,Ab,slr] | simp [Ah,Aa,V.fz,fzL,V.up,upL,Ab,Ac,Ad,slr])
noncomputable def Kd (a0:SAlgebra) (op0:Int) (tuples0:(List (List Int))):Option ((List Int)×Bool):=
 (((Kn (a0) (op0)).bind fun r1=>
 if (r1)=true then
 ask ((0:Int)≤op0∧op0<(↑a0.Ops.length:Int)) <|
 if (nth a0.Ops op0.toNat).Arity=(0:Int) then
 some (.inl ())
 else
 ask ((0:Int)≤op0∧op0<(↑a0.Ops.length:Int)) <|
 if (↑tuples0.length:Int)≠(nth a0.Ops op0.toNat).Arity then
 some (.inl ())
 else
 some (.inr ())
 else
 some (.inl ()):Option (Unit ⊕ Unit))).bind fun t=>match t with
 | (.inl _)=>(some (Ar Int,false))
 | (.inr _)=>(ask ((0:Int)≤(0:Int)∧(0:Int)<(↑tuples0.length:Int)) <|
 (((G0 ((↑(nth tuples0 (Int.toNat (0:Int))).length:Int))).bind fun r9=>
 if (r9)=true then
 (Gc (a0) ((↑(nth tuples0 (Int.toNat (0:Int))).length:Int)) (tuples0)).bind fun r11=>
 if (r11)=true then
 some (.inl ())
 else
 some (.inr ())
 else
 some (.inr ()):Option (Unit ⊕ Unit))).bind fun t=>match t with
 | (.inl _)=>(ask ((0:Int)≤op0∧op0<(↑a0.Ops.length:Int)) <|
 (Cx (a0) (nth a0.Ops op0.toNat) ((↑(nth tuples0 (Int.toNat (0:Int))).length:Int)) (tuples0)).bind fun r15=>
 some (r15,true))
 | (.inr _)=>(some (Ar Int,false)))
theorem Aio {a0} {op0} {tuples0} {v} (h:Kd a0 op0 tuples0=some v):Ret Try.prog R4 [(Af false) a0,Ae op0,(slr false 1 (slr false 1 Ae)) tuples0] ((fun r=>V.tup [(slr true 1 Ae) r.1,V.bool r.2]) v):=by
 refine Ba Ak9 (Nat.le_of_ble_eq_true rfl) ?_
 unfold Kd at h
 conv=>whnf
 refine CutQ.o (fun t:(Unit ⊕ Unit)=>match t with | (.inl s)=>(Ex.ret,[7,6],[(7,A.val (V.bool (false))),(6,A.val ((slr true 1 Ae) (Ar Int)))]) | (.inr s)=>(Ex.normal,[3,1,2],[(3,A.val ((rP true (Af false)) (a0))),(1,A.val (Ae (op0))),(2,A.val ((slr false 1 (slr false 1 Ae)) (tuples0)))])) h ?_ ?_
 ·intro t h
  conv=>whnf
  refine Cells.lit rfl rfl ?_
  conv=>whnf
  refine CallQ.o V.bool (by rfl) h (fun r h=>Ad0 h) (fun r1 h=> ?_)
  conv=>whnf
  refine Br.flip ?_
  conv=>whnf
  refine Br.ob h (fun p2 h=> ?_) (fun p2 h=> ?_)
  ·conv=>whnf
   refine Br.no ?_
   conv=>whnf
   refine Cells.lit rfl rfl ?_
   conv=>whnf
   refine Br.no ?_
   conv=>whnf
   refine Br.no ?_
   conv=>whnf
   refine Len.map ?_
   conv=>whnf
   refine Ask.o h fun p3 h=> ?_
   conv=>whnf
   refine Elem.o (by first | omega | (simp [At] at * <;> omega)) ?_
   conv=>whnf
   refine Br.no ?_
   conv=>whnf
   refine Br.no ?_
   conv=>whnf
   refine Br.no ?_
   conv=>whnf
   refine Br.no ?_
   conv=>whnf
   refine Br.oe h (fun p4 h=> ?_) (fun p4 h=> ?_)
   ·conv=>whnf
    refine Br.yes ?_
    conv=>whnf
    refine Br.yes ?_
    conv=>whnf
    refine Br.yes ?_
    conv=>whnf
    refine Br.yes ?_
    conv=>whnf
    refine Br.yes ?_
    conv=>whnf
    refine Br.yes ?_
    conv=>whnf
    refine Br.yes ?_
    conv=>whnf
    refine Br.yes ?_
    conv=>whnf
    refine Br.yes ?_
    conv=>whnf
    refine Br.yes ?_
    conv=>whnf
    refine BslQ.o Ae (Ar Int) (by exact fun _=>⟨rfl,rfl⟩) (by rfl) ?_
    conv=>whnf
    cases h;exact ⟨rfl,rfl⟩
   conv=>whnf
   refine Br.no ?_
   conv=>whnf
   refine Len.map ?_
   conv=>whnf
   refine Br.no ?_
   conv=>whnf
   refine Br.no ?_
   conv=>whnf
   refine Cells.lit rfl rfl ?_
   conv=>whnf
   refine Br.no ?_
   conv=>whnf
   refine Br.no ?_
   conv=>whnf
   refine Len.map ?_
   conv=>whnf
   refine Ask.o h fun p5 h=> ?_
   conv=>whnf
   refine Elem.o (by first | omega | (simp [At] at * <;> omega)) ?_
   conv=>whnf
   refine Br.no ?_
   conv=>whnf
   refine Br.no ?_
   conv=>whnf
   refine Br.no ?_
   conv=>whnf
   refine Br.no ?_
   conv=>whnf
   refine Br.on h (fun p6 h=> ?_) (fun p6 h=> ?_)
   ·conv=>whnf
    refine BslQ.o Ae (Ar Int) (by exact fun _=>⟨rfl,rfl⟩) (by rfl) ?_
    conv=>whnf
    cases h;exact ⟨rfl,rfl⟩
   conv=>whnf
   cases h;exact ⟨rfl,rfl⟩
  conv=>whnf
  refine Br.yes ?_
  conv=>whnf
  refine Br.yes ?_
  conv=>whnf
  refine Br.yes ?_
  conv=>whnf
  refine Br.yes ?_
  conv=>whnf
  refine Br.yes ?_
  conv=>whnf
  refine Br.yes ?_
  conv=>whnf
  refine Br.yes ?_
  conv=>whnf
  refine Br.yes ?_
  conv=>whnf
  refine Br.yes ?_
  conv=>whnf
  refine Br.yes ?_
  conv=>whnf
  refine Br.yes ?_
  conv=>whnf
  refine Br.yes ?_
  conv=>whnf
  refine Br.yes ?_
  conv=>whnf
  refine Br.yes ?_
  conv=>whnf
  refine Br.yes ?_
  conv=>whnf
  refine Br.yes ?_
  conv=>whnf
  refine Br.yes ?_
  conv=>whnf
  refine Br.yes ?_
  conv=>whnf
  refine BslQ.o Ae (Ar Int) (by exact fun _=>⟨rfl,rfl⟩) (by rfl) ?_
  conv=>whnf
  cases h;exact ⟨rfl,rfl⟩
 rintro (⟨⟩ | ⟨⟩) h
 ·try dsimp only at h
  conv=>whnf
  cases h;exact (by rfl)
 try dsimp only at h
 conv=>whnf
 refine Len.map ?_
 conv=>whnf
 refine Ask.o h fun p8 h=> ?_
 conv=>whnf
 refine Elem.o (by first | omega | (simp [At] at * <;> omega)) ?_
 conv=>whnf
 refine Len.map ?_
 conv=>whnf
 refine CutQ.o (fun t:(Unit ⊕ Unit)=>match t with | (.inl s)=>(Ex.normal,[8,3,1,2],[(8,A.val (Ae ((↑(nth tuples0 (Int.toNat (0:Int))).length:Int)))),(3,A.val ((rP true (Af false)) (a0))),(1,A.val (Ae (op0))),(2,A.val ((slr false 1 (slr false 1 Ae)) (tuples0)))]) | (.inr s)=>(Ex.ret,[7,6],[(7,A.val (V.bool (false))),(6,A.val ((slr true 1 Ae) (Ar Int)))])) h ?_ ?_
 ·intro t h
  conv=>whnf
  refine CallQ.o V.bool (by rfl) h (fun r h=>Xl h) (fun r9 h=> ?_)
  conv=>whnf
  refine Br.flip ?_
  conv=>whnf
  refine Br.ob h (fun p10 h=> ?_) (fun p10 h=> ?_)
  ·conv=>whnf
   refine Cells.lit rfl rfl ?_
   conv=>whnf
   refine Br.no ?_
   conv=>whnf
   refine Br.no ?_
   conv=>whnf
   refine Br.no ?_
   conv=>whnf
   refine CallQ.o V.bool (by rfl) h (fun r h=>Vm h) (fun r11 h=> ?_)
   conv=>whnf
   refine Br.no ?_
   conv=>whnf
   refine Br.no ?_
   conv=>whnf
   refine Br.flip ?_
   conv=>whnf
   refine Br.ob h (fun p12 h=> ?_) (fun p12 h=> ?_)
   ·conv=>whnf
    cases h;exact ⟨rfl,rfl⟩
   conv=>whnf
   refine BslQ.o Ae (Ar Int) (by exact fun _=>⟨rfl,rfl⟩) (by rfl) ?_
   conv=>whnf
   cases h;exact ⟨rfl,rfl⟩
  conv=>whnf
  refine Br.yes ?_
  conv=>whnf
  refine Br.yes ?_
  conv=>whnf
  refine Br.yes ?_
  conv=>whnf
  refine Br.yes ?_
  conv=>whnf
  refine Br.yes ?_
  conv=>whnf
  refine Br.yes ?_
  conv=>whnf
  refine BslQ.o Ae (Ar Int) (by exact fun _=>⟨rfl,rfl⟩) (by rfl) ?_
  conv=>whnf
  cases h;exact ⟨rfl,rfl⟩
 rintro (⟨⟩ | ⟨⟩) h
 ·try dsimp only at h
  conv=>whnf
  refine Cells.lit rfl rfl ?_
  conv=>whnf
  refine Cells.lit rfl rfl ?_
  conv=>whnf
  refine Len.map ?_
  conv=>whnf
  refine Ask.o h fun p14 h=> ?_
  conv=>whnf
  refine Elem.o (by first | omega | (simp [At] at * <;> omega)) ?_
  conv=>whnf
  refine CallQ.o (slr true 1 Ae) (by rfl) h (fun r h=>Ll h) (fun r15 h=> ?_)
  conv=>whnf
  cases h;exact (by rfl)
 try dsimp only at h
 conv=>whnf
 cases h;exact (by rfl)
end Go.Proofs.Ytmmcfdfdacpjgaa.Ax
