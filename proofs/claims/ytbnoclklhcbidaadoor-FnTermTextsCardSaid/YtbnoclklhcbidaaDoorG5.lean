/-
 What the functions compute, as functions on plain data, and that the program does compute it; written by program.
-/
import Derived.Test.YtbnoclklhcbidaaDoorCode
import Derived.Test.YtbnoclklhcbidaaDoorG2
import Derived.Test.YtbnoclklhcbidaaDoorG3
import Derived.Test.YtbnoclklhcbidaaDoorG4
namespace Go.Proofs.YtbnoclklhcbidaaDoor.Ax
open Go
set_option maxRecDepth 100000
set_option maxHeartbeats 4000000
noncomputable def Cx (a0:SAlgebra):Int→Option (Int ⊕ (Unit ⊕ Unit)):=fun x22=>
 if x22<(↑a0.Ops.length:Int) then
 ask ((0:Int)≤x22∧x22<(↑a0.Ops.length:Int)) <|
 (L2 (nth a0.Ops x22.toNat) (a0.Size)).bind fun r7=>
 if (r7)=true then
 ask (InI (x22+(1:Int))) <|
 some (.inl (x22+(1:Int)))
 else
 some (.inr (.inl ()))
 else
 some (.inr (.inr ()))
def Ic (a0:SAlgebra):Int→St:=fun s=>[(22,A.val (Af s)),(21,A.val (Af ((↑a0.Ops.length:Int)))),(20,A.val ((slr false 2 (Bi false)) (a0.Ops))),(1,A.val ((rP true (Ag false)) (a0)))]
def Mq (_a0:SAlgebra):(Unit ⊕ Unit)→Tgt
 | (.inl _s)=>(Ex.ret,[2],[(2,A.val (V.bool (false)))])
 | (.inr _s)=>((Ex.exit 0),[],[])
theorem Vc {a0:SAlgebra} (x22:Int) (o:Int ⊕ (Unit ⊕ Unit)) (h:Cx a0 x22=some o):vc Tryd.prog Mt (Gg [22,21,20,1] (Ic a0) (Mq a0) o) (Ic a0 x22):=by
 unfold Cx at h
 try dsimp only at h
 conv=>whnf
 refine Br.od h (fun p5 h=> ?_) (fun p5 h=> ?_)
 ·conv=>whnf
  refine Len.map ?_
  conv=>whnf
  refine Ask.o h fun p6 h=> ?_
  conv=>whnf
  refine Elem.o (by first | omega | (simp [A8] at * <;> omega)) ?_
  conv=>whnf
  refine SetKids.lit rfl ?_
  conv=>whnf
  refine Cells.lit rfl rfl ?_
  conv=>whnf
  refine Cells.lit rfl rfl ?_
  conv=>whnf
  refine CallQ.o V.bool (by first | rfl | simp only [Aa,V.fz,fzL,V.up,upL,Ab,Ac,Ad,slr,List.cons_append,List.nil_append] | simp [Aa,V.fz,fzL,V.up,upL,Ab,Ac,Ad,slr]) h (fun r h=>Ak3 h) (fun r7 h=> ?_)
  conv=>whnf
  refine Br.flip ?_
  conv=>whnf
  refine Br.ob h (fun p8 h=> ?_) (fun p8 h=> ?_)
  ·conv=>whnf
   refine Ask.o h fun p9 h=> ?_
   conv=>whnf
   cases h;exact ⟨rfl,rfl⟩
  conv=>whnf
  cases h;exact ⟨rfl,rfl⟩
 conv=>whnf
 cases h;exact ⟨rfl,rfl⟩
noncomputable def E3 (a0:SAlgebra):Option Bool:=
 ((if a0.Size<(1:Int) then
 some (.inl ())
 else
 if a0.Size>(8:Int) then
 some (.inl ())
 else
 if (↑a0.Ops.length:Int)>(4:Int) then
 some (.inl ())
 else
 some (.inr ()):Option (Unit ⊕ Unit))).bind fun t=>match t with
 | (.inl _)=>(some false)
 | (.inr _)=>((A7 (Cx a0) (0:Int)).bind fun t=>match t with
 | (.inl _)=>(some false)
 | (.inr _)=>(some true))
theorem Pp {a0:SAlgebra} {v:Bool} (h:E3 a0=some v):Ret Tryd.prog Hz [(Ag false) a0] (V.bool v):=by
 refine Bp Zw (Nat.le_of_ble_eq_true rfl) ?_
 unfold E3 at h
 conv=>whnf
 refine CutQ.o (fun t:(Unit ⊕ Unit)=>match t with | (.inl s)=>(Ex.ret,[2],[(2,A.val (V.bool (false)))]) | (.inr s)=>(Ex.normal,[1],[(1,A.val ((rP true (Ag false)) (a0)))])) h ?_ ?_
 ·intro t h
  conv=>whnf
  refine Cells.lit rfl rfl ?_
  conv=>whnf
  refine Br.od h (fun p1 h=> ?_) (fun p1 h=> ?_)
  ·conv=>whnf
   refine Br.yes ?_
   conv=>whnf
   refine Br.yes ?_
   conv=>whnf
   refine Br.yes ?_
   conv=>whnf
   refine Br.yes ?_
   conv=>whnf
   refine Br.yes ?_
   conv=>whnf
   refine Br.yes ?_
   conv=>whnf
   refine Br.yes ?_
   conv=>whnf
   refine Br.yes ?_
   conv=>whnf
   refine Br.yes ?_
   conv=>whnf
   cases h;exact ⟨rfl,rfl⟩
  conv=>whnf
  refine Br.no ?_
  conv=>whnf
  refine Cells.lit rfl rfl ?_
  conv=>whnf
  refine Br.no ?_
  conv=>whnf
  refine Br.no ?_
  conv=>whnf
  refine Br.od h (fun p2 h=> ?_) (fun p2 h=> ?_)
  ·conv=>whnf
   refine Br.yes ?_
   conv=>whnf
   refine Br.yes ?_
   conv=>whnf
   refine Br.yes ?_
   conv=>whnf
   refine Br.yes ?_
   conv=>whnf
   refine Br.yes ?_
   conv=>whnf
   cases h;exact ⟨rfl,rfl⟩
  conv=>whnf
  refine Br.no ?_
  conv=>whnf
  refine Cells.lit rfl rfl ?_
  conv=>whnf
  refine Br.no ?_
  conv=>whnf
  refine Len.map ?_
  conv=>whnf
  refine Br.no ?_
  conv=>whnf
  refine Br.no ?_
  conv=>whnf
  refine Br.od h (fun p3 h=> ?_) (fun p3 h=> ?_)
  ·conv=>whnf
   cases h;exact ⟨rfl,rfl⟩
  conv=>whnf
  cases h;exact ⟨rfl,rfl⟩
 rintro (⟨⟩ | ⟨⟩) h
 ·try dsimp only at h
  conv=>whnf
  cases h;exact (by first | rfl | simp only [Ah,Aa,V.fz,fzL,V.up,upL,Ab,Ac,Ad,slr] | simp [Ah,Aa,V.fz,fzL,V.up,upL,Ab,Ac,Ad,slr])
 try dsimp only at h
 conv=>whnf
 refine Cells.lit rfl rfl ?_
 conv=>whnf
 refine Len.map ?_
 conv=>whnf
 refine LoopQ.o [22,21,20,1] (Ic a0) (Mq a0) h (fun s o h=>Vc s o h) (by first | rfl | simp [restrict,look,Aa,V.fz,fzL,V.up,upL,Ab,Ac,Ad,slr]) (by rintro (_ | _)<;>rfl) ?_
 rintro (⟨⟩ | ⟨⟩) h
 ·try dsimp only at h
  conv=>whnf
  cases h;exact (by first | rfl | simp only [Ah,Aa,V.fz,fzL,V.up,upL,Ab,Ac,Ad,slr] | simp [Ah,Aa,V.fz,fzL,V.up,upL,Ab,Ac,Ad,slr])
 try dsimp only at h
 conv=>whnf
 cases h;exact (by first | rfl | simp only [Ah,Aa,V.fz,fzL,V.up,upL,Ab,Ac,Ad,slr] | simp [Ah,Aa,V.fz,fzL,V.up,upL,Ab,Ac,Ad,slr])
noncomputable def Cg (c0:Sl1Cur) (n0:Int):Option (Bool×Sl1Cur):=
 (Am (c0) (n0)).bind fun (r1,u2)=>
 some (r1==(0:Int),u2)
theorem F7 {c0:Sl1Cur} {n0:Int} {v:(Bool×Sl1Cur)} (h:Cg c0 n0=some v):Iq Tryd.prog Dy [(rP true (Aj false)) c0,Af n0] (V.bool v.1) 0 ((rP true (Aj false)) v.2):=by
 refine M5 Zz (Nat.le_of_ble_eq_true rfl) ?_
 unfold Cg at h
 conv=>whnf
 refine CallQ.io Af (rP true (Aj false)) (by first | rfl | simp only [Aa,V.fz,fzL,V.up,upL,Ab,Ac,Ad,slr,List.cons_append,List.nil_append] | simp [Aa,V.fz,fzL,V.up,upL,Ab,Ac,Ad,slr]) rfl (fun _=>rfl) (fun _=>⟨rfl,rfl⟩) rfl h (fun r h=>Ar h) (fun r1 u2 h=> ?_)
 conv=>whnf
 cases h;exact ⟨(by first | rfl | simp only [Ah,Aa,V.fz,fzL,V.up,upL,Ab,Ac,Ad,slr] | simp [Ah,Aa,V.fz,fzL,V.up,upL,Ab,Ac,Ad,slr]),(by first | rfl | simp only [Ah,Aa,V.fz,fzL,V.up,upL,Ab,Ac,Ad,slr] | simp [Ah,Aa,V.fz,fzL,V.up,upL,Ab,Ac,Ad,slr])⟩
noncomputable def Do (c0:Sl1Cur) (t0:ByteArray) (with0:ByteArray):Option (ByteArray×Sl1Cur):=
 if (t0.toList==(ByteArray.mk #[]).toList)=true then
 ask ((0:Int)≤(0:Int)∧(0:Int)≤(1:Int)∧(1:Int)≤(↑with0.size:Int)) <|
 some (with0.extract (Int.toNat (0:Int)) (Int.toNat (1:Int)),c0)
 else
 (Am (c0) ((↑t0.size:Int))).bind fun (r3,u4)=>
 (Am (u4) ((↑with0.size:Int))).bind fun (r5,u6)=>
 ask ((0:Int)≤r5∧r5≤(↑with0.size:Int)∧(↑with0.size:Int)≤(↑with0.size:Int)) <|
 ask ((0:Int)≤(0:Int)∧(0:Int)≤(1:Int)∧(1:Int)≤(↑(with0.extract r5.toNat (↑with0.size:Int).toNat).size:Int)) <|
 (Am (u6) ((3:Int))).bind fun (r9,u10)=>
 if r9=(0:Int) then
 ask ((0:Int)≤(0:Int)∧(0:Int)≤r3∧r3≤(↑t0.size:Int)) <|
 ask ((t0.extract (Int.toNat (0:Int)) r3.toNat).size+((with0.extract r5.toNat (↑with0.size:Int).toNat).extract (Int.toNat (0:Int)) (Int.toNat (1:Int))).size≤(9223372036854775807:Nat)) <|
 ask ((0:Int)≤r3∧r3≤(↑t0.size:Int)∧(↑t0.size:Int)≤(↑t0.size:Int)) <|
 ask ((t0.extract (Int.toNat (0:Int)) r3.toNat++(with0.extract r5.toNat (↑with0.size:Int).toNat).extract (Int.toNat (0:Int)) (Int.toNat (1:Int))).size+(t0.extract r3.toNat (↑t0.size:Int).toNat).size≤(9223372036854775807:Nat)) <|
 some (t0.extract (Int.toNat (0:Int)) r3.toNat++(with0.extract r5.toNat (↑with0.size:Int).toNat).extract (Int.toNat (0:Int)) (Int.toNat (1:Int))++t0.extract r3.toNat (↑t0.size:Int).toNat,u10)
 else
 if r9=(1:Int) then
 ask ((0:Int)≤(0:Int)∧(0:Int)≤r3∧r3≤(↑t0.size:Int)) <|
 ask ((t0.extract (Int.toNat (0:Int)) r3.toNat).size+((with0.extract r5.toNat (↑with0.size:Int).toNat).extract (Int.toNat (0:Int)) (Int.toNat (1:Int))).size≤(9223372036854775807:Nat)) <|
 ask (InI (r3+(1:Int))) <|
 ask ((0:Int)≤r3+(1:Int)∧r3+(1:Int)≤(↑t0.size:Int)∧(↑t0.size:Int)≤(↑t0.size:Int)) <|
 ask ((t0.extract (Int.toNat (0:Int)) r3.toNat++(with0.extract r5.toNat (↑with0.size:Int).toNat).extract (Int.toNat (0:Int)) (Int.toNat (1:Int))).size+(t0.extract (r3+(1:Int)).toNat (↑t0.size:Int).toNat).size≤(9223372036854775807:Nat)) <|
 some (t0.extract (Int.toNat (0:Int)) r3.toNat++(with0.extract r5.toNat (↑with0.size:Int).toNat).extract (Int.toNat (0:Int)) (Int.toNat (1:Int))++t0.extract (r3+(1:Int)).toNat (↑t0.size:Int).toNat,u10)
 else
 ask ((0:Int)≤(0:Int)∧(0:Int)≤r3∧r3≤(↑t0.size:Int)) <|
 ask (InI (r3+(1:Int))) <|
 ask ((0:Int)≤r3+(1:Int)∧r3+(1:Int)≤(↑t0.size:Int)∧(↑t0.size:Int)≤(↑t0.size:Int)) <|
 ask ((t0.extract (Int.toNat (0:Int)) r3.toNat).size+(t0.extract (r3+(1:Int)).toNat (↑t0.size:Int).toNat).size≤(9223372036854775807:Nat)) <|
 some (t0.extract (Int.toNat (0:Int)) r3.toNat++t0.extract (r3+(1:Int)).toNat (↑t0.size:Int).toNat,u10)
theorem Vu {c0:Sl1Cur} {t0:ByteArray} {with0:ByteArray} {v:(ByteArray×Sl1Cur)} (h:Do c0 t0 with0=some v):Iq Tryd.prog H8 [(rP true (Aj false)) c0,V.str t0,V.str with0] (V.str v.1) 0 ((rP true (Aj false)) v.2):=by
 refine M5 Vf (Nat.le_of_ble_eq_true rfl) ?_
 unfold Do at h
 conv=>whnf
 refine Br.ob h (fun p1 h=> ?_) (fun p1 h=> ?_)
 ·conv=>whnf
  refine Ask.o h fun p2 h=> ?_
  conv=>whnf
  cases h;exact ⟨(by first | rfl | simp only [Ah,Aa,V.fz,fzL,V.up,upL,Ab,Ac,Ad,slr] | simp [Ah,Aa,V.fz,fzL,V.up,upL,Ab,Ac,Ad,slr]),(by first | rfl | simp only [Ah,Aa,V.fz,fzL,V.up,upL,Ab,Ac,Ad,slr] | simp [Ah,Aa,V.fz,fzL,V.up,upL,Ab,Ac,Ad,slr])⟩
 conv=>whnf
 refine CallQ.io Af (rP true (Aj false)) (by first | rfl | simp only [Aa,V.fz,fzL,V.up,upL,Ab,Ac,Ad,slr,List.cons_append,List.nil_append] | simp [Aa,V.fz,fzL,V.up,upL,Ab,Ac,Ad,slr]) rfl (fun _=>rfl) (fun _=>⟨rfl,rfl⟩) rfl h (fun r h=>Ar h) (fun r3 u4 h=> ?_)
 conv=>whnf
 refine CallQ.io Af (rP true (Aj false)) (by first | rfl | simp only [Aa,V.fz,fzL,V.up,upL,Ab,Ac,Ad,slr,List.cons_append,List.nil_append] | simp [Aa,V.fz,fzL,V.up,upL,Ab,Ac,Ad,slr]) rfl (fun _=>rfl) (fun _=>⟨rfl,rfl⟩) rfl h (fun r h=>Ar h) (fun r5 u6 h=> ?_)
 conv=>whnf
 refine Ask.o h fun p7 h=> ?_
 conv=>whnf
 refine Ask.o h fun p8 h=> ?_
 conv=>whnf
 refine CallQ.io Af (rP true (Aj false)) (by first | rfl | simp only [Aa,V.fz,fzL,V.up,upL,Ab,Ac,Ad,slr,List.cons_append,List.nil_append] | simp [Aa,V.fz,fzL,V.up,upL,Ab,Ac,Ad,slr]) rfl (fun _=>rfl) (fun _=>⟨rfl,rfl⟩) rfl h (fun r h=>Ar h) (fun r9 u10 h=> ?_)
 conv=>whnf
 refine Br.oe h (fun p11 h=> ?_) (fun p11 h=> ?_)
 ·conv=>whnf
  refine Ask.o h fun p12 h=> ?_
  conv=>whnf
  refine Ask.o h fun p13 h=> ?_
  conv=>whnf
  refine Ask.o h fun p14 h=> ?_
  conv=>whnf
  refine Ask.o h fun p15 h=> ?_
  conv=>whnf
  cases h;exact ⟨(by first | rfl | simp only [Ah,Aa,V.fz,fzL,V.up,upL,Ab,Ac,Ad,slr] | simp [Ah,Aa,V.fz,fzL,V.up,upL,Ab,Ac,Ad,slr]),(by first | rfl | simp only [Ah,Aa,V.fz,fzL,V.up,upL,Ab,Ac,Ad,slr] | simp [Ah,Aa,V.fz,fzL,V.up,upL,Ab,Ac,Ad,slr])⟩
 conv=>whnf
 refine Br.oe h (fun p16 h=> ?_) (fun p16 h=> ?_)
 ·conv=>whnf
  refine Ask.o h fun p17 h=> ?_
  conv=>whnf
  refine Ask.o h fun p18 h=> ?_
  conv=>whnf
  refine Ask.o h fun p19 h=> ?_
  conv=>whnf
  refine Ask.o h fun p20 h=> ?_
  conv=>whnf
  refine Ask.o h fun p21 h=> ?_
  conv=>whnf
  cases h;exact ⟨(by first | rfl | simp only [Ah,Aa,V.fz,fzL,V.up,upL,Ab,Ac,Ad,slr] | simp [Ah,Aa,V.fz,fzL,V.up,upL,Ab,Ac,Ad,slr]),(by first | rfl | simp only [Ah,Aa,V.fz,fzL,V.up,upL,Ab,Ac,Ad,slr] | simp [Ah,Aa,V.fz,fzL,V.up,upL,Ab,Ac,Ad,slr])⟩
 conv=>whnf
 refine Ask.o h fun p22 h=> ?_
 conv=>whnf
 refine Ask.o h fun p23 h=> ?_
 conv=>whnf
 refine Ask.o h fun p24 h=> ?_
 conv=>whnf
 refine Ask.o h fun p25 h=> ?_
 conv=>whnf
 cases h;exact ⟨(by first | rfl | simp only [Ah,Aa,V.fz,fzL,V.up,upL,Ab,Ac,Ad,slr] | simp [Ah,Aa,V.fz,fzL,V.up,upL,Ab,Ac,Ad,slr]),(by first | rfl | simp only [Ah,Aa,V.fz,fzL,V.up,upL,Ab,Ac,Ad,slr] | simp [Ah,Aa,V.fz,fzL,V.up,upL,Ab,Ac,Ad,slr])⟩
noncomputable def E0 (a0:SAlgebra) (t0:(List Int)):Option Bool:=
 if (↑t0.length:Int)>(0:Int) then
 if (↑t0.length:Int)≤(60:Int) then
 (Ev (a0) (t0) ((0:Int))).bind fun r3=>
 some (r3==(↑t0.length:Int))
 else
 some false
 else
 some false
theorem Lc {a0:SAlgebra} {t0:(List Int)} {v:Bool} (h:E0 a0 t0=some v):Ret Tryd.prog G3 [(Ag false) a0,(slr false 1 Af) t0] (V.bool v):=by
 refine Bp Afu (Nat.le_of_ble_eq_true rfl) ?_
 unfold E0 at h
 conv=>whnf
 refine Len.map ?_
 conv=>whnf
 refine Br.od h (fun p1 h=> ?_) (fun p1 h=> ?_)
 ·conv=>whnf
  refine Br.yes ?_
  conv=>whnf
  refine Len.map ?_
  conv=>whnf
  refine Br.yes ?_
  conv=>whnf
  refine Br.yes ?_
  conv=>whnf
  refine Br.od h (fun p2 h=> ?_) (fun p2 h=> ?_)
  ·conv=>whnf
   refine Cells.lit rfl rfl ?_
   conv=>whnf
   refine Br.yes ?_
   conv=>whnf
   refine Br.yes ?_
   conv=>whnf
   refine CallQ.o Af (by first | rfl | simp only [Aa,V.fz,fzL,V.up,upL,Ab,Ac,Ad,slr,List.cons_append,List.nil_append] | simp [Aa,V.fz,fzL,V.up,upL,Ab,Ac,Ad,slr]) h (fun r h=>Mw h) (fun r3 h=> ?_)
   conv=>whnf
   refine Br.yes ?_
   conv=>whnf
   refine Br.yes ?_
   conv=>whnf
   refine Len.map ?_
   conv=>whnf
   refine Br.yes ?_
   conv=>whnf
   refine Br.yes ?_
   conv=>whnf
   cases h;exact (by first | rfl | simp only [Ah,Aa,V.fz,fzL,V.up,upL,Ab,Ac,Ad,slr] | simp [Ah,Aa,V.fz,fzL,V.up,upL,Ab,Ac,Ad,slr])
  conv=>whnf
  refine Br.no ?_
  conv=>whnf
  refine Br.no ?_
  conv=>whnf
  refine Br.no ?_
  conv=>whnf
  refine Br.no ?_
  conv=>whnf
  refine Br.no ?_
  conv=>whnf
  refine Br.no ?_
  conv=>whnf
  cases h;exact (by first | rfl | simp only [Ah,Aa,V.fz,fzL,V.up,upL,Ab,Ac,Ad,slr] | simp [Ah,Aa,V.fz,fzL,V.up,upL,Ab,Ac,Ad,slr])
 conv=>whnf
 refine Br.no ?_
 conv=>whnf
 refine Br.no ?_
 conv=>whnf
 refine Br.no ?_
 conv=>whnf
 refine Br.no ?_
 conv=>whnf
 refine Br.no ?_
 conv=>whnf
 refine Br.no ?_
 conv=>whnf
 refine Br.no ?_
 conv=>whnf
 refine Br.no ?_
 conv=>whnf
 refine Br.no ?_
 conv=>whnf
 refine Br.no ?_
 conv=>whnf
 cases h;exact (by first | rfl | simp only [Ah,Aa,V.fz,fzL,V.up,upL,Ab,Ac,Ad,slr] | simp [Ah,Aa,V.fz,fzL,V.up,upL,Ab,Ac,Ad,slr])
noncomputable def Df (_a0:SAlgebra) (_pattern0:List Int) (_t0:List Int):(Int×(List (List Int)))→Option ((Int×(List (List Int))) ⊕ (List (List Int))):=fun (x9,x8)=>
 if x9<(6:Int) then
 ask ((x8).length+([A4 Int]).length≤LIM) <|
 ask (InI (x9+(1:Int))) <|
 some (.inl (x9+(1:Int),x8++[A4 Int]))
 else
 some (.inr x8)
def J2 (a0:SAlgebra) (pattern0:List Int) (t0:List Int):(Int×(List (List Int)))→St:=fun s=>[(9,A.val (Af s.1)),(8,A.val ((slr true 1 (slr false 1 Af)) s.2)),(3,A.val ((rP true (Ag false)) (a0))),(1,A.val ((slr false 1 Af) (pattern0))),(2,A.val ((slr false 1 Af) (t0)))]
def O6 (a0:SAlgebra) (pattern0:List Int) (t0:List Int):(List (List Int))→Tgt
 | s=>((Ex.exit 0),[8,3,1,2],[(8,A.val ((slr true 1 (slr false 1 Af)) s)),(3,A.val ((rP true (Ag false)) (a0))),(1,A.val ((slr false 1 Af) (pattern0))),(2,A.val ((slr false 1 Af) (t0)))])
theorem Xu {a0:SAlgebra} {pattern0:List Int} {t0:List Int} (s:(Int×(List (List Int)))) (o:(Int×(List (List Int))) ⊕ (List (List Int))) (h:Df a0 pattern0 t0 s=some o):vc Tryd.prog Ot (Gg [9,8,3,1,2] (J2 a0 pattern0 t0) (O6 a0 pattern0 t0) o) (J2 a0 pattern0 t0 s):=by
 obtain ⟨x9,x8⟩:=s
 unfold Df at h
 try dsimp only at h
 conv=>whnf
 refine Br.od h (fun p1 h=> ?_) (fun p1 h=> ?_)
 ·conv=>whnf
  refine BslQ.o Af (A4 Int) (by exact fun _=>⟨rfl,rfl⟩) (by first | rfl | (simp only [Aa,V.fz,fzL,V.up,upL,Ab,Ac,Ad,slr,List.cons_append,List.nil_append];done) | simp [Aa,V.fz,fzL,V.up,upL,Ab,Ac,Ad,slr]) ?_
  conv=>whnf
  refine FrzQ.d (V.sl false (1:Nat) (List.map Af (A4 Int))) (by first | (simp only [Ak,Ac];done) | (simp [Ak,V.fz,Ab,Ac,slr];done) | (simp [Ak,V.fz,fzL,Ab,slr];done)) ?_
  conv=>whnf
  refine BslQ.o (slr false 1 Af) ([A4 Int]) (by exact fun _=>⟨rfl,rfl⟩) (by first | rfl | (simp only [Aa,V.fz,fzL,V.up,upL,Ab,Ac,Ad,slr,List.cons_append,List.nil_append];done) | simp [Aa,V.fz,fzL,V.up,upL,Ab,Ac,Ad,slr]) ?_
  conv=>whnf
  refine NoOwn.o (fun _=>rfl) ?_
  conv=>whnf
  refine AppQ.o (m:=1) (slr false 1 Af) (by exact fun _=>⟨rfl,rfl⟩) (x8) ([A4 Int]) (by first | rfl | simp only [Aa,V.fz,fzL,V.up,upL,Ab,Ac,Ad,slr,List.cons_append,List.nil_append] | simp [Aa,V.fz,fzL,V.up,upL,Ab,Ac,Ad,slr]) (by first | rfl | simp only [Aa,V.fz,fzL,V.up,upL,Ab,Ac,Ad,slr,List.cons_append,List.nil_append] | simp [Aa,V.fz,fzL,V.up,upL,Ab,Ac,Ad,slr]) h fun h=> ?_
  conv=>whnf
  refine Ask.o h fun p2 h=> ?_
  conv=>whnf
  cases h;exact ⟨rfl,rfl⟩
 conv=>whnf
 cases h;exact ⟨rfl,rfl⟩
noncomputable def Cj (a0:SAlgebra) (pattern0:List Int) (t0:List Int):(Int×Int×(List (List Int)))→Option ((Int×Int×(List (List Int))) ⊕ (Unit ⊕ (Int×(List (List Int))))):=fun (x11,x10,x8)=>
 if x11<(↑pattern0.length:Int) then
 if x10≥(↑t0.length:Int) then
 some (.inr (.inl ()))
 else
 ask ((0:Int)≤x11∧x11<(↑pattern0.length:Int)) <|
 if nth pattern0 x11.toNat<(0:Int) then
 ask ((0:Int)≤x10∧x10<(↑t0.length:Int)) <|
 ask ((0:Int)≤x11∧x11<(↑pattern0.length:Int)) <|
 if nth t0 x10.toNat≠nth pattern0 x11.toNat then
 some (.inr (.inl ()))
 else
 ask (InI (x10+(1:Int))) <|
 ask (InI (x11+(1:Int))) <|
 some (.inl (x11+(1:Int),x10+(1:Int),x8))
 else
 (Ev (a0) (t0) (x10)).bind fun r13=>
 ask (0≤x10∧x10≤r13∧r13≤((t0.length:Nat):Int)) <|
 (H3 (List.take (r13.toNat-x10.toNat) (List.drop x10.toNat t0))).bind fun r14=>
 ask ((0:Int)≤x11∧x11<(↑pattern0.length:Int)) <|
 ((ask ((0:Int)≤nth pattern0 x11.toNat∧nth pattern0 x11.toNat<(↑x8.length:Int)) <|
 if (↑(nth x8 (nth pattern0 x11.toNat).toNat).length:Int)>(0:Int) then
 ask ((0:Int)≤nth pattern0 x11.toNat∧nth pattern0 x11.toNat<(↑x8.length:Int)) <|
 (Is (nth x8 (nth pattern0 x11.toNat).toNat) (r14)).bind fun r19=>
 if (r19)=true then
 some (.inl ())
 else
 some (.inr ())
 else
 some (.inl ()):Option (Unit ⊕ Unit))).bind fun t=>match t with
 | (.inl _)=>(ask ((0:Int)≤nth pattern0 x11.toNat∧nth pattern0 x11.toNat<(↑x8.length:Int)) <|
 ask (InI (x10+(↑r14.length:Int))) <|
 ask (InI (x11+(1:Int))) <|
 some (.inl (x11+(1:Int),x10+(↑r14.length:Int),x8.set (nth pattern0 x11.toNat).toNat r14)))
 | (.inr _)=>(some (.inr (.inl ())))
 else
 some (.inr (.inr (x10,x8)))
def Jq (a0:SAlgebra) (pattern0:List Int) (t0:List Int):(Int×Int×(List (List Int)))→St:=fun s=>[(11,A.val (Af s.1)),(10,A.val (Af s.2.1)),(8,A.val ((slr true 1 (slr false 1 Af)) s.2.2)),(3,A.val ((rP true (Ag false)) (a0))),(1,A.val ((slr false 1 Af) (pattern0))),(2,A.val ((slr false 1 Af) (t0)))]
def Pa (_a0:SAlgebra) (_pattern0:List Int) (t0:List Int):(Unit ⊕ (Int×(List (List Int))))→Tgt
 | (.inl _s)=>(Ex.ret,[7,6],[(7,A.val (V.bool (false))),(6,A.val ((slr true 1 (slr true 1 Af)) (A4 (List Int))))])
 | (.inr s)=>((Ex.exit 2),[10,8,2],[(10,A.val (Af s.1)),(8,A.val ((slr true 1 (slr false 1 Af)) s.2)),(2,A.val ((slr false 1 Af) (t0)))])
theorem Xl {a0:SAlgebra} {pattern0:List Int} {t0:List Int} (s:(Int×Int×(List (List Int)))) (o:(Int×Int×(List (List Int))) ⊕ (Unit ⊕ (Int×(List (List Int))))) (h:Cj a0 pattern0 t0 s=some o):vc Tryd.prog Og (Gg [11,10,8,3,1,2] (Jq a0 pattern0 t0) (Pa a0 pattern0 t0) o) (Jq a0 pattern0 t0 s):=by
 obtain ⟨x11,x10,x8⟩:=s
 unfold Cj at h
 try dsimp only at h
 conv=>whnf
 refine Len.map ?_
 conv=>whnf
 refine Br.od h (fun p4 h=> ?_) (fun p4 h=> ?_)
 ·conv=>whnf
  refine Len.map ?_
  conv=>whnf
  refine Br.od h (fun p5 h=> ?_) (fun p5 h=> ?_)
  ·conv=>whnf
   refine BslQ.o (slr true 1 Af) (A4 (List Int)) (by exact fun _=>⟨rfl,rfl⟩) (by first | rfl | (simp only [Aa,V.fz,fzL,V.up,upL,Ab,Ac,Ad,slr,List.cons_append,List.nil_append];done) | simp [Aa,V.fz,fzL,V.up,upL,Ab,Ac,Ad,slr]) ?_
   conv=>whnf
   cases h;exact ⟨rfl,rfl⟩
  conv=>whnf
  refine Len.map ?_
  conv=>whnf
  refine Ask.o h fun p6 h=> ?_
  conv=>whnf
  refine Elem.o (by first | omega | (simp [A8] at * <;> omega)) ?_
  conv=>whnf
  refine Br.od h (fun p7 h=> ?_) (fun p7 h=> ?_)
  ·conv=>whnf
   refine Len.map ?_
   conv=>whnf
   refine Ask.o h fun p8 h=> ?_
   conv=>whnf
   refine Elem.o (by first | omega | (simp [A8] at * <;> omega)) ?_
   conv=>whnf
   refine Len.map ?_
   conv=>whnf
   refine Ask.o h fun p9 h=> ?_
   conv=>whnf
   refine Elem.o (by first | omega | (simp [A8] at * <;> omega)) ?_
   conv=>whnf
   refine Br.on h (fun p10 h=> ?_) (fun p10 h=> ?_)
   ·conv=>whnf
    refine BslQ.o (slr true 1 Af) (A4 (List Int)) (by exact fun _=>⟨rfl,rfl⟩) (by first | rfl | (simp only [Aa,V.fz,fzL,V.up,upL,Ab,Ac,Ad,slr,List.cons_append,List.nil_append];done) | simp [Aa,V.fz,fzL,V.up,upL,Ab,Ac,Ad,slr]) ?_
    conv=>whnf
    cases h;exact ⟨rfl,rfl⟩
   conv=>whnf
   refine Ask.o h fun p11 h=> ?_
   conv=>whnf
   refine Ask.o h fun p12 h=> ?_
   conv=>whnf
   cases h;exact ⟨rfl,rfl⟩
  conv=>whnf
  refine Cells.lit rfl rfl ?_
  conv=>whnf
  refine CallP.o Af (by first | rfl | simp only [Aa,V.fz,fzL,V.up,upL,Ab,Ac,Ad,slr,List.cons_append,List.nil_append] | simp [Aa,V.fz,fzL,V.up,upL,Ab,Ac,Ad,slr]) h (fun r h=>Mw h) (fun r13 h=> ?_)
  conv=>whnf
  refine SlcQ.o Af h fun h=> ?_
  conv=>whnf
  refine CallP.o (slr true 1 Af) (by first | rfl | simp only [Aa,V.fz,fzL,V.up,upL,Ab,Ac,Ad,slr,List.cons_append,List.nil_append] | simp [Aa,V.fz,fzL,V.up,upL,Ab,Ac,Ad,slr]) h (fun r h=>Yv h) (fun r14 h=> ?_)
  conv=>whnf
  refine Len.map ?_
  conv=>whnf
  refine Ask.o h fun p15 h=> ?_
  conv=>whnf
  refine Elem.o (by first | omega | (simp [A8] at * <;> omega)) ?_
  conv=>whnf
  refine CutQ.o (fun t:(Unit ⊕ Unit)=>match t with | (.inl s)=>(Ex.normal,[12,13,11,10,8,3,1,2],[(12,A.val ((slr false 1 Af) (r14))),(13,A.val (Af (nth pattern0 x11.toNat))),(11,A.val (Af (x11))),(10,A.val (Af (x10))),(8,A.val ((slr true 1 (slr false 1 Af)) (x8))),(3,A.val ((rP true (Ag false)) (a0))),(1,A.val ((slr false 1 Af) (pattern0))),(2,A.val ((slr false 1 Af) (t0)))]) | (.inr s)=>(Ex.ret,[7,6],[(7,A.val (V.bool (false))),(6,A.val ((slr true 1 (slr true 1 Af)) (A4 (List Int))))])) h ?_ ?_
  ·intro t h
   conv=>whnf
   refine FrzQ.d (V.sl false (1:Nat) (List.map Af r14)) (by first | (simp only [slr];done) | (simp [Ak,V.fz,Ab,slr];done) | (simp [Ak,V.fz,fzL,Ab,slr];done)) ?_
   conv=>whnf
   refine Len.map ?_
   conv=>whnf
   refine Ask.o h fun p16 h=> ?_
   conv=>whnf
   refine Cells.one (fun _=>⟨rfl,rfl⟩) (by first | omega | (simp [A8] at * <;> omega)) ?_
   conv=>whnf
   refine Len.map ?_
   conv=>whnf
   refine Br.od h (fun p17 h=> ?_) (fun p17 h=> ?_)
   ·conv=>whnf
    refine Br.yes ?_
    conv=>whnf
    refine Br.yes ?_
    conv=>whnf
    refine Len.map ?_
    conv=>whnf
    refine Ask.o h fun p18 h=> ?_
    conv=>whnf
    refine Br.yes ?_
    conv=>whnf
    refine Cells.one (fun _=>⟨rfl,rfl⟩) (by first | omega | (simp [A8] at * <;> omega)) ?_
    conv=>whnf
    refine Br.yes ?_
    conv=>whnf
    refine Br.yes ?_
    conv=>whnf
    refine CallQ.o V.bool (by first | rfl | simp only [Aa,V.fz,fzL,V.up,upL,Ab,Ac,Ad,slr,List.cons_append,List.nil_append] | simp [Aa,V.fz,fzL,V.up,upL,Ab,Ac,Ad,slr]) h (fun r h=>Afo h) (fun r19 h=> ?_)
    conv=>whnf
    refine Br.yes ?_
    conv=>whnf
    refine Br.yes ?_
    conv=>whnf
    refine Br.flip ?_
    conv=>whnf
    refine Br.ob h (fun p20 h=> ?_) (fun p20 h=> ?_)
    ·conv=>whnf
     cases h;exact ⟨rfl,rfl⟩
    conv=>whnf
    refine BslQ.o (slr true 1 Af) (A4 (List Int)) (by exact fun _=>⟨rfl,rfl⟩) (by first | rfl | (simp only [Aa,V.fz,fzL,V.up,upL,Ab,Ac,Ad,slr,List.cons_append,List.nil_append];done) | simp [Aa,V.fz,fzL,V.up,upL,Ab,Ac,Ad,slr]) ?_
    conv=>whnf
    cases h;exact ⟨rfl,rfl⟩
   conv=>whnf
   refine Br.no ?_
   conv=>whnf
   refine Br.no ?_
   conv=>whnf
   refine Br.no ?_
   conv=>whnf
   refine Br.no ?_
   conv=>whnf
   refine Br.no ?_
   conv=>whnf
   refine Br.no ?_
   conv=>whnf
   refine Br.no ?_
   conv=>whnf
   refine Br.no ?_
   conv=>whnf
   cases h;exact ⟨rfl,rfl⟩
  rintro (⟨⟩ | ⟨⟩) h
  ·try dsimp only at h
   conv=>whnf
   refine Len.map ?_
   conv=>whnf
   refine Ask.o h fun p22 h=> ?_
   conv=>whnf
   refine SetKids.one (fun _=>⟨rfl,rfl⟩) (r14) (by first | rfl | simp only [Aa,V.fz,fzL,V.up,upL,Ab,Ac,Ad,slr,List.cons_append,List.nil_append] | simp [Aa,V.fz,fzL,V.up,upL,Ab,Ac,Ad,slr]) (by first | omega | (simp [A8] at * <;> omega)) ?_
   conv=>whnf
   refine Len.map ?_
   conv=>whnf
   refine Ask.o h fun p23 h=> ?_
   conv=>whnf
   refine Ask.o h fun p24 h=> ?_
   conv=>whnf
   cases h;exact ⟨rfl,rfl⟩
  try dsimp only at h
  conv=>whnf
  cases h;exact ⟨rfl,rfl⟩
 conv=>whnf
 cases h;exact ⟨rfl,rfl⟩
noncomputable def Hi (a0:SAlgebra) (pattern0:(List Int)) (t0:(List Int)):Option ((List (List Int))×Bool):=
 (A7 (Df a0 pattern0 t0) ((0:Int),A4 (List Int))).bind fun q3_8=>
 (A7 (Cj a0 pattern0 t0) ((0:Int),(0:Int),q3_8)).bind fun t=>match t with
 | (.inl _)=>(some (A4 (List Int),false))
 | (.inr (q25_10,q25_8))=>(some (q25_8,q25_10==(↑t0.length:Int)))
theorem Afc {a0:SAlgebra} {pattern0:(List Int)} {t0:(List Int)} {v:((List (List Int))×Bool)} (h:Hi a0 pattern0 t0=some v):Ret Tryd.prog N0 [(Ag false) a0,(slr false 1 Af) pattern0,(slr false 1 Af) t0] ((fun r=>V.tup [(slr false 1 (slr false 1 Af)) r.1,V.bool r.2]) v):=by
 refine Lo Aeh (Nat.le_of_ble_eq_true rfl) ?_
 unfold Hi at h
 conv=>whnf
 refine BslQ.o (slr true 1 Af) (A4 (List Int)) (by exact fun _=>⟨rfl,rfl⟩) (by first | rfl | (simp only [Aa,V.fz,fzL,V.up,upL,Ab,Ac,Ad,slr,List.cons_append,List.nil_append];done) | simp [Aa,V.fz,fzL,V.up,upL,Ab,Ac,Ad,slr]) ?_
 conv=>whnf
 refine LoopQ.o [9,8,3,1,2] (J2 a0 pattern0 t0) (O6 a0 pattern0 t0) h (fun s o h=>Xu s o h) (by first | rfl | simp [restrict,look,Aa,V.fz,fzL,V.up,upL,Ab,Ac,Ad,slr]) (fun _=>rfl) ?_
 rintro q3_8 h
 try dsimp only at h
 conv=>whnf
 refine LoopQ.o [11,10,8,3,1,2] (Jq a0 pattern0 t0) (Pa a0 pattern0 t0) h (fun s o h=>Xl s o h) (by first | rfl | simp [restrict,look,Aa,V.fz,fzL,V.up,upL,Ab,Ac,Ad,slr]) (by rintro (_ | _)<;>rfl) ?_
 rintro (⟨⟩ | ⟨q25_10,q25_8⟩) h
 ·try dsimp only at h
  conv=>whnf
  cases h;exact (by first | rfl | simp only [Ah,Aa,V.fz,fzL,V.up,upL,Ab,Ac,Ad,slr] | simp [Ah,Aa,V.fz,fzL,V.up,upL,Ab,Ac,Ad,slr])
 try dsimp only at h
 conv=>whnf
 refine Len.map ?_
 conv=>whnf
 cases h;exact (by first | rfl | simp only [Ah,V.fz,fzL,V.up,Ab,slr] | simp [Ah,Aa,V.fz,fzL,V.up,upL,Ab,Ac,Ad,slr])
noncomputable def C2 (a0:SAlgebra) (terms0:List (List Int)):Int→Option (Int ⊕ (Unit ⊕ Unit)):=fun x9=>
 if x9<(↑terms0.length:Int) then
 ask ((0:Int)≤x9∧x9<(↑terms0.length:Int)) <|
 (D8 (a0) (nth terms0 x9.toNat)).bind fun r3=>
 if (r3)=true then
 ask (InI (x9+(1:Int))) <|
 some (.inl (x9+(1:Int)))
 else
 some (.inr (.inl ()))
 else
 some (.inr (.inr ()))
def I9 (a0:SAlgebra) (terms0:List (List Int)):Int→St:=fun s=>[(9,A.val (Af s)),(8,A.val (Af ((↑terms0.length:Int)))),(7,A.val ((slr false 1 (slr false 1 Af)) (terms0))),(2,A.val ((rP true (Ag false)) (a0)))]
def Nh (_a0:SAlgebra) (_terms0:List (List Int)):(Unit ⊕ Unit)→Tgt
 | (.inl _s)=>(Ex.ret,[4],[(4,A.val (V.bool (false)))])
 | (.inr _s)=>((Ex.exit 0),[],[])
theorem Wg {a0:SAlgebra} {terms0:List (List Int)} (x9:Int) (o:Int ⊕ (Unit ⊕ Unit)) (h:C2 a0 terms0 x9=some o):vc Tryd.prog N9 (Gg [9,8,7,2] (I9 a0 terms0) (Nh a0 terms0) o) (I9 a0 terms0 x9):=by
 unfold C2 at h
 try dsimp only at h
 conv=>whnf
 refine Br.od h (fun p1 h=> ?_) (fun p1 h=> ?_)
 ·conv=>whnf
  refine Len.map ?_
  conv=>whnf
  refine Ask.o h fun p2 h=> ?_
  conv=>whnf
  refine Elem.o (by first | omega | (simp [A8] at * <;> omega)) ?_
  conv=>whnf
  refine Cells.lit rfl rfl ?_
  conv=>whnf
  refine CallQ.o V.bool (by first | rfl | simp only [Aa,V.fz,fzL,V.up,upL,Ab,Ac,Ad,slr,List.cons_append,List.nil_append] | simp [Aa,V.fz,fzL,V.up,upL,Ab,Ac,Ad,slr]) h (fun r h=>Io h) (fun r3 h=> ?_)
  conv=>whnf
  refine Br.flip ?_
  conv=>whnf
  refine Br.ob h (fun p4 h=> ?_) (fun p4 h=> ?_)
  ·conv=>whnf
   refine Ask.o h fun p5 h=> ?_
   conv=>whnf
   cases h;exact ⟨rfl,rfl⟩
  conv=>whnf
  cases h;exact ⟨rfl,rfl⟩
 conv=>whnf
 cases h;exact ⟨rfl,rfl⟩
noncomputable def Gx (a0:SAlgebra) (terms0:(List (List Int))):Option Bool:=
 (A7 (C2 a0 terms0) (0:Int)).bind fun t=>match t with
 | (.inl _)=>(some false)
 | (.inr _)=>(some true)
theorem Ab5 {a0:SAlgebra} {terms0:(List (List Int))} {v:Bool} (h:Gx a0 terms0=some v):Ret Tryd.prog Mf [(Ag false) a0,(slr false 1 (slr false 1 Af)) terms0] (V.bool v):=by
 refine Bp Acb (Nat.le_of_ble_eq_true rfl) ?_
 unfold Gx at h
 conv=>whnf
 refine Len.map ?_
 conv=>whnf
 refine LoopQ.o [9,8,7,2] (I9 a0 terms0) (Nh a0 terms0) h (fun s o h=>Wg s o h) (by first | rfl | simp [restrict,look,Aa,V.fz,fzL,V.up,upL,Ab,Ac,Ad,slr]) (by rintro (_ | _)<;>rfl) ?_
 rintro (⟨⟩ | ⟨⟩) h
 ·try dsimp only at h
  conv=>whnf
  cases h;exact (by first | rfl | simp only [Ah,Aa,V.fz,fzL,V.up,upL,Ab,Ac,Ad,slr] | simp [Ah,Aa,V.fz,fzL,V.up,upL,Ab,Ac,Ad,slr])
 try dsimp only at h
 conv=>whnf
 cases h;exact (by first | rfl | simp only [Ah,Aa,V.fz,fzL,V.up,upL,Ab,Ac,Ad,slr] | simp [Ah,Aa,V.fz,fzL,V.up,upL,Ab,Ac,Ad,slr])
noncomputable def D1 (a0:SAlgebra):Int→Option (Int ⊕ (Unit ⊕ Unit)):=fun x3=>
 if x3<(↑a0.Ops.length:Int) then
 ask ((0:Int)≤x3∧x3<(↑a0.Ops.length:Int)) <|
 (Ly (a0.Size) (nth a0.Ops x3.toNat)).bind fun r7=>
 if (r7)=true then
 ask (InI (x3+(1:Int))) <|
 some (.inl (x3+(1:Int)))
 else
 some (.inr (.inl ()))
 else
 some (.inr (.inr ()))
def Ko (a0:SAlgebra):Int→St:=fun s=>[(3,A.val (Af s)),(1,A.val ((rP true (Ag false)) (a0)))]
def P2 (_a0:SAlgebra):(Unit ⊕ Unit)→Tgt
 | (.inl _s)=>(Ex.ret,[2],[(2,A.val (V.bool (false)))])
 | (.inr _s)=>((Ex.exit 0),[],[])
theorem Aai {a0:SAlgebra} (x3:Int) (o:Int ⊕ (Unit ⊕ Unit)) (h:D1 a0 x3=some o):vc Tryd.prog P8 (Gg [3,1] (Ko a0) (P2 a0) o) (Ko a0 x3):=by
 unfold D1 at h
 try dsimp only at h
 conv=>whnf
 refine Cells.lit rfl rfl ?_
 conv=>whnf
 refine Len.map ?_
 conv=>whnf
 refine Br.od h (fun p5 h=> ?_) (fun p5 h=> ?_)
 ·conv=>whnf
  refine Cells.lit rfl rfl ?_
  conv=>whnf
  refine Cells.lit rfl rfl ?_
  conv=>whnf
  refine Len.map ?_
  conv=>whnf
  refine Ask.o h fun p6 h=> ?_
  conv=>whnf
  refine Elem.o (by first | omega | (simp [A8] at * <;> omega)) ?_
  conv=>whnf
  refine CallQ.o V.bool (by first | rfl | simp only [Aa,V.fz,fzL,V.up,upL,Ab,Ac,Ad,slr,List.cons_append,List.nil_append] | simp [Aa,V.fz,fzL,V.up,upL,Ab,Ac,Ad,slr]) h (fun r h=>Ak2 h) (fun r7 h=> ?_)
  conv=>whnf
  refine Br.flip ?_
  conv=>whnf
  refine Br.ob h (fun p8 h=> ?_) (fun p8 h=> ?_)
  ·conv=>whnf
   refine Ask.o h fun p9 h=> ?_
   conv=>whnf
   cases h;exact ⟨rfl,rfl⟩
  conv=>whnf
  cases h;exact ⟨rfl,rfl⟩
 conv=>whnf
 cases h;exact ⟨rfl,rfl⟩
noncomputable def G2 (a0:SAlgebra):Option Bool:=
 (((E1 (a0.Size) ((1:Int)) ((8:Int))).bind fun r1=>
 if (r1)=true then
 if (↑a0.Ops.length:Int)>(4:Int) then
 some (.inl ())
 else
 some (.inr ())
 else
 some (.inl ()):Option (Unit ⊕ Unit))).bind fun t=>match t with
 | (.inl _)=>(some false)
 | (.inr _)=>((A7 (D1 a0) (0:Int)).bind fun t=>match t with
 | (.inl _)=>(some false)
 | (.inr _)=>(some true))
theorem V8 {a0:SAlgebra} {v:Bool} (h:G2 a0=some v):Ret Tryd.prog Lb [(Ag false) a0] (V.bool v):=by
 refine Bp Afp (Nat.le_of_ble_eq_true rfl) ?_
 unfold G2 at h
 conv=>whnf
 refine CutQ.o (fun t:(Unit ⊕ Unit)=>match t with | (.inl s)=>(Ex.ret,[2],[(2,A.val (V.bool (false)))]) | (.inr s)=>(Ex.normal,[1],[(1,A.val ((rP true (Ag false)) (a0)))])) h ?_ ?_
 ·intro t h
  conv=>whnf
  refine Cells.lit rfl rfl ?_
  conv=>whnf
  refine CallQ.o V.bool (by first | rfl | simp only [Aa,V.fz,fzL,V.up,upL,Ab,Ac,Ad,slr,List.cons_append,List.nil_append] | simp [Aa,V.fz,fzL,V.up,upL,Ab,Ac,Ad,slr]) h (fun r h=>Om h) (fun r1 h=> ?_)
  conv=>whnf
  refine Br.flip ?_
  conv=>whnf
  refine Br.ob h (fun p2 h=> ?_) (fun p2 h=> ?_)
  ·conv=>whnf
   refine Br.no ?_
   conv=>whnf
   refine Cells.lit rfl rfl ?_
   conv=>whnf
   refine Br.no ?_
   conv=>whnf
   refine Len.map ?_
   conv=>whnf
   refine Br.no ?_
   conv=>whnf
   refine Br.no ?_
   conv=>whnf
   refine Br.od h (fun p3 h=> ?_) (fun p3 h=> ?_)
   ·conv=>whnf
    cases h;exact ⟨rfl,rfl⟩
   conv=>whnf
   cases h;exact ⟨rfl,rfl⟩
  conv=>whnf
  refine Br.yes ?_
  conv=>whnf
  refine Br.yes ?_
  conv=>whnf
  refine Br.yes ?_
  conv=>whnf
  refine Br.yes ?_
  conv=>whnf
  refine Br.yes ?_
  conv=>whnf
  cases h;exact ⟨rfl,rfl⟩
 rintro (⟨⟩ | ⟨⟩) h
 ·try dsimp only at h
  conv=>whnf
  cases h;exact (by first | rfl | simp only [Ah,Aa,V.fz,fzL,V.up,upL,Ab,Ac,Ad,slr] | simp [Ah,Aa,V.fz,fzL,V.up,upL,Ab,Ac,Ad,slr])
 try dsimp only at h
 conv=>whnf
 refine LoopQ.o [3,1] (Ko a0) (P2 a0) h (fun s o h=>Aai s o h) (by first | rfl | simp [restrict,look,Aa,V.fz,fzL,V.up,upL,Ab,Ac,Ad,slr]) (by rintro (_ | _)<;>rfl) ?_
 rintro (⟨⟩ | ⟨⟩) h
 ·try dsimp only at h
  conv=>whnf
  cases h;exact (by first | rfl | simp only [Ah,Aa,V.fz,fzL,V.up,upL,Ab,Ac,Ad,slr] | simp [Ah,Aa,V.fz,fzL,V.up,upL,Ab,Ac,Ad,slr])
 try dsimp only at h
 conv=>whnf
 cases h;exact (by first | rfl | simp only [Ah,Aa,V.fz,fzL,V.up,upL,Ab,Ac,Ad,slr] | simp [Ah,Aa,V.fz,fzL,V.up,upL,Ab,Ac,Ad,slr])
end Go.Proofs.YtbnoclklhcbidaaDoor.Ax
