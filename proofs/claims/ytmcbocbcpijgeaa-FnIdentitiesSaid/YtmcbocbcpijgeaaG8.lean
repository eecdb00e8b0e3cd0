/-
 What the functions compute, as functions on plain data, and that the program does compute it; written by program.
-/
import Derived.Test.YtmcbocbcpijgeaaCode
import Derived.Test.YtmcbocbcpijgeaaG1
import Derived.Test.YtmcbocbcpijgeaaG2
import Derived.Test.YtmcbocbcpijgeaaG3
import Derived.Test.YtmcbocbcpijgeaaG4
import Derived.Test.YtmcbocbcpijgeaaG5
import Derived.Test.YtmcbocbcpijgeaaG6
namespace Go.Proofs.Ytmcbocbcpijgeaa.Ax
open Go
set_option maxRecDepth 100000
set_option maxHeartbeats 4000000
noncomputable def Dl (a0:SAlgebra) (r7:List Int):(Int×Int)→Option ((Int×Int) ⊕ Int):=fun (x7,x6)=>
 if x7<(↑r7.length:Int) then
 ask (InI (x6*a0.Size)) <|
 ask (InI (x7+(1:Int))) <|
 some (.inl (x7+(1:Int),x6*a0.Size))
 else
 some (.inr x6)
def Jo (a0:SAlgebra) (r7:List Int):(Int×Int)→St:=fun s=>[(7,A.val (Af s.1)),(6,A.val (Af s.2)),(5,A.val ((slr false 1 Af) (r7))),(2,A.val ((rP true (Ag false)) (a0)))]
def N4 (_a0:SAlgebra) (_r7:List Int):Int→Tgt
 | s=>((Ex.exit 0),[6],[(6,A.val (Af s))])
theorem Xf {a0:SAlgebra} {r7:List Int} (s:(Int×Int)) (o:(Int×Int) ⊕ Int) (h:Dl a0 r7 s=some o):vc Try.prog On (Eu [7,6,5,2] (Jo a0 r7) (N4 a0 r7) o) (Jo a0 r7 s):=by
 obtain ⟨x7,x6⟩:=s
 unfold Dl at h
 try dsimp only at h
 conv=>whnf
 refine Len.map ?_
 conv=>whnf
 refine Br.od h (fun p8 h=> ?_) (fun p8 h=> ?_)
 ·conv=>whnf
  refine Cells.lit rfl rfl ?_
  conv=>whnf
  refine Ask.o h fun p9 h=> ?_
  conv=>whnf
  refine Ask.o h fun p10 h=> ?_
  conv=>whnf
  cases h;exact ⟨rfl,rfl⟩
 conv=>whnf
 cases h;exact ⟨rfl,rfl⟩
noncomputable def Eb (a0:SAlgebra) (e0:SIdentity):Option Bool:=
 (((Fj (a0) (e0.Left)).bind fun r1=>
 if (r1)=true then
 (Fj (a0) (e0.Right)).bind fun r3=>
 if (r3)=true then
 some (.inl ())
 else
 some (.inr ())
 else
 some (.inr ()):Option (Unit ⊕ Unit))).bind fun t=>match t with
 | (.inl _)=>((F6 (e0.Left)).bind fun r6=>
 ask ((r6).length+(e0.Right).length≤LIM) <|
 (E4 (r6++e0.Right)).bind fun r7=>
 (Ay (Dl a0 r7) ((0:Int),(1:Int))).bind fun q11_6=>
 some (decide (q11_6≤(5000:Int))))
 | (.inr _)=>(some false)
theorem M9 {a0:SAlgebra} {e0:SIdentity} {v:Bool} (h:Eb a0 e0=some v):Ret Try.prog Gy [(Ag false) a0,(Ak false) e0] (V.bool v):=by
 refine Bp Abn (Nat.le_of_ble_eq_true rfl) ?_
 unfold Eb at h
 conv=>whnf
 refine CutQ.o (fun t:(Unit ⊕ Unit)=>match t with | (.inl s)=>(Ex.normal,[3,2],[(3,A.val ((rP true (Ak false)) (e0))),(2,A.val ((rP true (Ag false)) (a0)))]) | (.inr s)=>(Ex.ret,[4],[(4,A.val (V.bool (false)))])) h ?_ ?_
 ·intro t h
  conv=>whnf
  refine Cells.lit rfl rfl ?_
  conv=>whnf
  refine Cells.lit rfl rfl ?_
  conv=>whnf
  refine CallQ.o V.bool (by first | rfl | simp only [Aa,V.fz,fzL,V.up,upL,Ab,Ac,Ad,slr,List.cons_append,List.nil_append] | simp [Aa,V.fz,fzL,V.up,upL,Ab,Ac,Ad,slr]) h (fun r h=>O6 h) (fun r1 h=> ?_)
  conv=>whnf
  refine Br.flip ?_
  conv=>whnf
  refine Br.ob h (fun p2 h=> ?_) (fun p2 h=> ?_)
  ·conv=>whnf
   refine Cells.lit rfl rfl ?_
   conv=>whnf
   refine Br.no ?_
   conv=>whnf
   refine Br.no ?_
   conv=>whnf
   refine Cells.lit rfl rfl ?_
   conv=>whnf
   refine Br.no ?_
   conv=>whnf
   refine CallQ.o V.bool (by first | rfl | simp only [Aa,V.fz,fzL,V.up,upL,Ab,Ac,Ad,slr,List.cons_append,List.nil_append] | simp [Aa,V.fz,fzL,V.up,upL,Ab,Ac,Ad,slr]) h (fun r h=>O6 h) (fun r3 h=> ?_)
   conv=>whnf
   refine Br.no ?_
   conv=>whnf
   refine Br.no ?_
   conv=>whnf
   refine Br.flip ?_
   conv=>whnf
   refine Br.ob h (fun p4 h=> ?_) (fun p4 h=> ?_)
   ·conv=>whnf
    cases h;exact ⟨rfl,rfl⟩
   conv=>whnf
   cases h;exact ⟨rfl,rfl⟩
  conv=>whnf
  refine Br.yes ?_
  conv=>whnf
  refine Br.yes ?_
  conv=>whnf
  refine Br.yes ?_
  conv=>whnf
  refine Br.yes ?_
  conv=>whnf
  refine Br.yes ?_
  conv=>whnf
  refine Br.yes ?_
  conv=>whnf
  cases h;exact ⟨rfl,rfl⟩
 rintro (⟨⟩ | ⟨⟩) h
 ·try dsimp only at h
  conv=>whnf
  refine Cells.lit rfl rfl ?_
  conv=>whnf
  refine CallP.o (slr true 1 Af) (by first | rfl | simp only [Aa,V.fz,fzL,V.up,upL,Ab,Ac,Ad,slr,List.cons_append,List.nil_append] | simp [Aa,V.fz,fzL,V.up,upL,Ab,Ac,Ad,slr]) h (fun r h=>Q8 h) (fun r6 h=> ?_)
  conv=>whnf
  refine Cells.lit rfl rfl ?_
  conv=>whnf
  refine AppQ.o (m:=1) Af (by exact fun _=>⟨rfl,rfl⟩) (r6) (e0.Right) (by first | rfl | simp only [Aa,V.fz,fzL,V.up,upL,Ab,Ac,Ad,slr,List.cons_append,List.nil_append] | simp [Aa,V.fz,fzL,V.up,upL,Ab,Ac,Ad,slr]) (by first | rfl | simp only [Aa,V.fz,fzL,V.up,upL,Ab,Ac,Ad,slr,List.cons_append,List.nil_append] | simp [Aa,V.fz,fzL,V.up,upL,Ab,Ac,Ad,slr]) h fun h=> ?_
  conv=>whnf
  refine CallQ.give (slr false 1 Af) (by first | rfl | simp only [Aa,V.fz,fzL,V.up,upL,Ab,Ac,Ad,slr,List.cons_append,List.nil_append] | simp [Aa,V.fz,fzL,V.up,upL,Ab,Ac,Ad,slr]) rfl (fun _=>rfl) rfl h (fun r h=>Sr h) (fun r7 h=> ?_)
  conv=>whnf
  refine LoopQ.o [7,6,5,2] (Jo a0 r7) (N4 a0 r7) h (fun s o h=>Xf s o h) (by first | rfl | simp [restrict,look,Aa,V.fz,fzL,V.up,upL,Ab,Ac,Ad,slr]) (fun _=>rfl) ?_
  rintro q11_6 h
  try dsimp only at h
  conv=>whnf
  cases h;exact (by first | rfl | simp only [Ah,Aa,V.fz,fzL,V.up,upL,Ab,Ac,Ad,slr] | simp [Ah,Aa,V.fz,fzL,V.up,upL,Ab,Ac,Ad,slr])
 try dsimp only at h
 conv=>whnf
 cases h;exact (by first | rfl | simp only [Ah,Aa,V.fz,fzL,V.up,upL,Ab,Ac,Ad,slr] | simp [Ah,Aa,V.fz,fzL,V.up,upL,Ab,Ac,Ad,slr])
noncomputable def Ec (a0:SAlgebra) (e0:SIdentity):Option Bool:=
 (De (a0) (e0)).bind fun r1=>
 some !r1.snd
theorem Sy {a0:SAlgebra} {e0:SIdentity} {v:Bool} (h:Ec a0 e0=some v):Ret Try.prog Jk [(Ag false) a0,(Ak false) e0] (V.bool v):=by
 refine Bp Abs (Nat.le_of_ble_eq_true rfl) ?_
 unfold Ec at h
 conv=>whnf
 refine Cells.lit rfl rfl ?_
 conv=>whnf
 refine Cells.lit rfl rfl ?_
 conv=>whnf
 refine CallQ.o (fun r=>V.tup [(slr true 1 Af) r.1,V.bool r.2]) (by first | rfl | simp only [Aa,V.fz,fzL,V.up,upL,Ab,Ac,Ad,slr,List.cons_append,List.nil_append] | simp [Aa,V.fz,fzL,V.up,upL,Ab,Ac,Ad,slr]) h (fun r h=>P3 h) (fun r1 h=> ?_)
 conv=>whnf
 cases h;exact (by first | rfl | simp only [Ah,Aa,V.fz,fzL,V.up,upL,Ab,Ac,Ad,slr] | simp [Ah,Aa,V.fz,fzL,V.up,upL,Ab,Ac,Ad,slr])
noncomputable def Ga (a0:SAlgebra) (t0:(List Int)):Option Bool:=
 (Dc (a0)).bind fun r1=>
 if (r1)=true then
 (Fm (a0) (t0)).bind fun r3=>
 some r3
 else
 some false
theorem U1 {a0:SAlgebra} {t0:(List Int)} {v:Bool} (h:Ga a0 t0=some v):Ret Try.prog K4 [(Ag false) a0,(slr false 1 Af) t0] (V.bool v):=by
 refine Bp Ae0 (Nat.le_of_ble_eq_true rfl) ?_
 unfold Ga at h
 conv=>whnf
 refine Cells.lit rfl rfl ?_
 conv=>whnf
 refine CallQ.o V.bool (by first | rfl | simp only [Aa,V.fz,fzL,V.up,upL,Ab,Ac,Ad,slr,List.cons_append,List.nil_append] | simp [Aa,V.fz,fzL,V.up,upL,Ab,Ac,Ad,slr]) h (fun r h=>Hg h) (fun r1 h=> ?_)
 conv=>whnf
 refine Br.ob h (fun p2 h=> ?_) (fun p2 h=> ?_)
 ·conv=>whnf
  refine Cells.lit rfl rfl ?_
  conv=>whnf
  refine Br.yes ?_
  conv=>whnf
  refine Br.yes ?_
  conv=>whnf
  refine CallQ.o V.bool (by first | rfl | simp only [Aa,V.fz,fzL,V.up,upL,Ab,Ac,Ad,slr,List.cons_append,List.nil_append] | simp [Aa,V.fz,fzL,V.up,upL,Ab,Ac,Ad,slr]) h (fun r h=>Pc h) (fun r3 h=> ?_)
  conv=>whnf
  refine Br.yes ?_
  conv=>whnf
  cases h;exact (by first | rfl | simp only [Ah,Aa,V.fz,fzL,V.up,upL,Ab,Ac,Ad,slr] | simp [Ah,Aa,V.fz,fzL,V.up,upL,Ab,Ac,Ad,slr])
 conv=>whnf
 refine Br.no ?_
 conv=>whnf
 refine Br.no ?_
 conv=>whnf
 refine Br.no ?_
 conv=>whnf
 cases h;exact (by first | rfl | simp only [Ah,Aa,V.fz,fzL,V.up,upL,Ab,Ac,Ad,slr] | simp [Ah,Aa,V.fz,fzL,V.up,upL,Ab,Ac,Ad,slr])
noncomputable def Gw (a0:SAlgebra) (t0:(List Int)):Option Bool:=
 (Di (a0)).bind fun r1=>
 if (r1)=true then
 (Fj (a0) (t0)).bind fun r3=>
 some r3
 else
 some false
theorem Acf {a0:SAlgebra} {t0:(List Int)} {v:Bool} (h:Gw a0 t0=some v):Ret Try.prog My [(Ag false) a0,(slr false 1 Af) t0] (V.bool v):=by
 refine Bp Abw (Nat.le_of_ble_eq_true rfl) ?_
 unfold Gw at h
 conv=>whnf
 refine Cells.lit rfl rfl ?_
 conv=>whnf
 refine CallQ.o V.bool (by first | rfl | simp only [Aa,V.fz,fzL,V.up,upL,Ab,Ac,Ad,slr,List.cons_append,List.nil_append] | simp [Aa,V.fz,fzL,V.up,upL,Ab,Ac,Ad,slr]) h (fun r h=>D9 h) (fun r1 h=> ?_)
 conv=>whnf
 refine Br.ob h (fun p2 h=> ?_) (fun p2 h=> ?_)
 ·conv=>whnf
  refine Cells.lit rfl rfl ?_
  conv=>whnf
  refine Br.yes ?_
  conv=>whnf
  refine Br.yes ?_
  conv=>whnf
  refine CallQ.o V.bool (by first | rfl | simp only [Aa,V.fz,fzL,V.up,upL,Ab,Ac,Ad,slr,List.cons_append,List.nil_append] | simp [Aa,V.fz,fzL,V.up,upL,Ab,Ac,Ad,slr]) h (fun r h=>O6 h) (fun r3 h=> ?_)
  conv=>whnf
  refine Br.yes ?_
  conv=>whnf
  cases h;exact (by first | rfl | simp only [Ah,Aa,V.fz,fzL,V.up,upL,Ab,Ac,Ad,slr] | simp [Ah,Aa,V.fz,fzL,V.up,upL,Ab,Ac,Ad,slr])
 conv=>whnf
 refine Br.no ?_
 conv=>whnf
 refine Br.no ?_
 conv=>whnf
 refine Br.no ?_
 conv=>whnf
 cases h;exact (by first | rfl | simp only [Ah,Aa,V.fz,fzL,V.up,upL,Ab,Ac,Ad,slr] | simp [Ah,Aa,V.fz,fzL,V.up,upL,Ab,Ac,Ad,slr])
noncomputable def Dj (_c0:Sl1Cur) (a0:SAlgebra) (_depth0:Int) (_vars0:Int):(Int×(List Int))→Option ((Int×(List Int)) ⊕ (List Int)):=fun (x10,x9)=>
 if x10<(↑a0.Ops.length:Int) then
 ask ((0:Int)≤x10∧x10<(↑a0.Ops.length:Int)) <|
 if (nth a0.Ops x10.toNat).Arity=(0:Int) then
 ask (InI ((-1:Int)-x10)) <|
 ask ((x9).length+([(-1:Int)-x10]).length≤LIM) <|
 ask (InI (x10+(1:Int))) <|
 some (.inl (x10+(1:Int),x9++[(-1:Int)-x10]))
 else
 ask (InI (x10+(1:Int))) <|
 some (.inl (x10+(1:Int),x9))
 else
 some (.inr x9)
def Fw (c0:Sl1Cur) (a0:SAlgebra) (depth0:Int) (vars0:Int):(Int×(List Int))→St:=fun s=>[(10,A.val (Af s.1)),(9,A.val ((slr true 1 Af) s.2)),(5,A.val ((rP true (Ag false)) (a0))),(0,A.ref 96 []),(96,A.val ((rP true (Aj false)) (c0))),(2,A.val (Af (depth0))),(3,A.val (Af (vars0)))]
def Jg (c0:Sl1Cur) (a0:SAlgebra) (depth0:Int) (vars0:Int):(List Int)→Tgt
 | s=>((Ex.exit 0),[9,5,0,96,2,3],[(9,A.val ((slr true 1 Af) s)),(5,A.val ((rP true (Ag false)) (a0))),(0,A.ref 96 []),(96,A.val ((rP true (Aj false)) (c0))),(2,A.val (Af (depth0))),(3,A.val (Af (vars0)))])
theorem Rl {c0:Sl1Cur} {a0:SAlgebra} {depth0:Int} {vars0:Int} (s:(Int×(List Int))) (o:(Int×(List Int)) ⊕ (List Int)) (h:Dj c0 a0 depth0 vars0 s=some o):vc Try.prog Jv (Eu [10,9,5,0,96,2,3] (Fw c0 a0 depth0 vars0) (Jg c0 a0 depth0 vars0) o) (Fw c0 a0 depth0 vars0 s):=by
 obtain ⟨x10,x9⟩:=s
 unfold Dj at h
 try dsimp only at h
 conv=>whnf
 refine Cells.lit rfl rfl ?_
 conv=>whnf
 refine Len.map ?_
 conv=>whnf
 refine Br.od h (fun p1 h=> ?_) (fun p1 h=> ?_)
 ·conv=>whnf
  refine Cells.lit rfl rfl ?_
  conv=>whnf
  refine Len.map ?_
  conv=>whnf
  refine Ask.o h fun p2 h=> ?_
  conv=>whnf
  refine Elem.o (by first | omega | (simp [Ba] at * <;> omega)) ?_
  conv=>whnf
  refine Br.oe h (fun p3 h=> ?_) (fun p3 h=> ?_)
  ·conv=>whnf
   refine Ask.o h fun p4 h=> ?_
   conv=>whnf
   refine BslQ.o Af ([(-1:Int)-x10]) (by exact fun _=>⟨rfl,rfl⟩) (by first | rfl | (simp only [Aa,V.fz,fzL,V.up,upL,Ab,Ac,Ad,slr,List.cons_append,List.nil_append];done) | simp [Aa,V.fz,fzL,V.up,upL,Ab,Ac,Ad,slr]) ?_
   conv=>whnf
   refine NoOwn.o (fun _=>rfl) ?_
   conv=>whnf
   refine AppQ.o (m:=1) Af (by exact fun _=>⟨rfl,rfl⟩) (x9) ([(-1:Int)-x10]) (by first | rfl | simp only [Aa,V.fz,fzL,V.up,upL,Ab,Ac,Ad,slr,List.cons_append,List.nil_append] | simp [Aa,V.fz,fzL,V.up,upL,Ab,Ac,Ad,slr]) (by first | rfl | simp only [Aa,V.fz,fzL,V.up,upL,Ab,Ac,Ad,slr,List.cons_append,List.nil_append] | simp [Aa,V.fz,fzL,V.up,upL,Ab,Ac,Ad,slr]) h fun h=> ?_
   conv=>whnf
   refine Ask.o h fun p5 h=> ?_
   conv=>whnf
   cases h;exact ⟨rfl,rfl⟩
  conv=>whnf
  refine Ask.o h fun p6 h=> ?_
  conv=>whnf
  cases h;exact ⟨rfl,rfl⟩
 conv=>whnf
 cases h;exact ⟨rfl,rfl⟩
noncomputable def Cr (self:Sl1Cur→SAlgebra→Int→Int→Option (List Int×Sl1Cur)) (a0:SAlgebra) (depth0:Int) (vars0:Int) (r26:Int):(Int×(List Int)×Sl1Cur)→Option ((Int×(List Int)×Sl1Cur) ⊕ ((List Int)×Sl1Cur)):=fun (x13,x12,x96)=>
 ask ((0:Int)≤r26∧r26<(↑a0.Ops.length:Int)) <|
 if x13<(nth a0.Ops r26.toNat).Arity then
 ask (InI (depth0-(1:Int))) <|
 (self (x96) (a0) (depth0-(1:Int)) (vars0)).bind fun (r32,u33)=>
 ask ((x12).length+(r32).length≤LIM) <|
 ask (InI (x13+(1:Int))) <|
 some (.inl (x13+(1:Int),x12++r32,u33))
 else
 some (.inr (x12,x96))
def F1 (a0:SAlgebra) (depth0:Int) (vars0:Int) (r26:Int):(Int×(List Int)×Sl1Cur)→St:=fun s=>[(13,A.val (Af s.1)),(12,A.val ((slr true 1 Af) s.2.1)),(11,A.val (Af (r26))),(5,A.val ((rP true (Ag false)) (a0))),(0,A.ref 96 []),(96,A.val ((rP true (Aj false)) s.2.2)),(2,A.val (Af (depth0))),(3,A.val (Af (vars0)))]
def Js (_a0:SAlgebra) (_depth0:Int) (_vars0:Int) (_r26:Int):((List Int)×Sl1Cur)→Tgt
 | s=>((Ex.exit 2),[12,96],[(12,A.val ((slr true 1 Af) s.1)),(96,A.val ((rP true (Aj false)) s.2))])
theorem Qn {self:Sl1Cur→SAlgebra→Int→Int→Option (List Int×Sl1Cur)} {a0:SAlgebra} {depth0:Int} {vars0:Int} {r26:Int} (hself : ∀ {w_0 w_1 w_2 w_3 v},self w_0 w_1 w_2 w_3=some v→Nj Try.prog Bj [(rP true (Aj false)) w_0,(Ag false) w_1,Af w_2,Af w_3] ((slr true 1 Af) v.1) 0 ((rP true (Aj false)) v.2)) (s:(Int×(List Int)×Sl1Cur)) (o:(Int×(List Int)×Sl1Cur) ⊕ ((List Int)×Sl1Cur)) (h:Cr self a0 depth0 vars0 r26 s=some o):vc Try.prog Jh (Eu [13,12,11,5,0,96,2,3] (F1 a0 depth0 vars0 r26) (Js a0 depth0 vars0 r26) o) (F1 a0 depth0 vars0 r26 s):=by
 obtain ⟨x13,x12,x96⟩:=s
 unfold Cr at h
 try dsimp only at h
 conv=>whnf
 refine Cells.lit rfl rfl ?_
 conv=>whnf
 refine Len.map ?_
 conv=>whnf
 refine Ask.o h fun p29 h=> ?_
 conv=>whnf
 refine Elem.o (by first | omega | (simp [Ba] at * <;> omega)) ?_
 conv=>whnf
 refine Br.od h (fun p30 h=> ?_) (fun p30 h=> ?_)
 ·conv=>whnf
  refine Cells.lit rfl rfl ?_
  conv=>whnf
  refine Ask.o h fun p31 h=> ?_
  conv=>whnf
  refine CallQ.io (slr true 1 Af) (rP true (Aj false)) (by first | rfl | simp only [Aa,V.fz,fzL,V.up,upL,Ab,Ac,Ad,slr,List.cons_append,List.nil_append] | simp [Aa,V.fz,fzL,V.up,upL,Ab,Ac,Ad,slr]) rfl (fun _=>rfl) (fun _=>⟨rfl,rfl⟩) rfl h (fun r h=>hself h) (fun r32 u33 h=> ?_)
  conv=>whnf
  refine NoOwn.o (fun _=>rfl) ?_
  conv=>whnf
  refine AppQ.o (m:=1) Af (by exact fun _=>⟨rfl,rfl⟩) (x12) (r32) (by first | rfl | simp only [Aa,V.fz,fzL,V.up,upL,Ab,Ac,Ad,slr,List.cons_append,List.nil_append] | simp [Aa,V.fz,fzL,V.up,upL,Ab,Ac,Ad,slr]) (by first | rfl | simp only [Aa,V.fz,fzL,V.up,upL,Ab,Ac,Ad,slr,List.cons_append,List.nil_append] | simp [Aa,V.fz,fzL,V.up,upL,Ab,Ac,Ad,slr]) h fun h=> ?_
  conv=>whnf
  refine Ask.o h fun p34 h=> ?_
  conv=>whnf
  cases h;exact ⟨rfl,rfl⟩
 conv=>whnf
 cases h;exact ⟨rfl,rfl⟩
noncomputable def B6 (self:Sl1Cur→SAlgebra→Int→Int→Option ((List Int)×Sl1Cur)) (c0:Sl1Cur) (a0:SAlgebra) (depth0:Int) (vars0:Int):Option ((List Int)×Sl1Cur):=
 (Ay (Dj c0 a0 depth0 vars0) ((0:Int),A8 Int)).bind fun q7_9=>
 ((((if depth0=(0:Int) then
 some (true,c0)
 else
 if (↑a0.Ops.length:Int)=(0:Int) then
 some (true,c0)
 else
 (Cf (c0) ((4:Int))).bind fun (r10,u11)=>
 some (r10,u11):Option (Bool×Sl1Cur))).bind fun (q12_45,q12_96)=>
 if (q12_45)=true then
 ((if vars0=(0:Int) then
 some (true,q12_96)
 else
 if (↑q7_9.length:Int)>(0:Int) then
 (Cf (q12_96) ((4:Int))).bind fun (r16,u17)=>
 some (r16,u17)
 else
 some (false,q12_96):Option (Bool×Sl1Cur))).bind fun (q18_56,q18_96)=>
 if (q18_56)=true then
 if (↑q7_9.length:Int)=(0:Int) then
 some (.inl ([(0:Int)],q18_96))
 else
 (Aq (q18_96) (q7_9)).bind fun (r21,u22)=>
 some (.inl ([r21],u22))
 else
 (Al (q18_96) (vars0)).bind fun (r23,u24)=>
 some (.inl ([r23],u24))
 else
 some (.inr q12_96):Option (((List Int)×Sl1Cur) ⊕ Sl1Cur))).bind fun t=>match t with
 | (.inl (q25_8,q25_96))=>(some (q25_8,q25_96))
 | (.inr q25_96)=>((Al (q25_96) ((↑a0.Ops.length:Int))).bind fun (r26,u27)=>
 ask (InI ((-1:Int)-r26)) <|
 (Ay (Cr self a0 depth0 vars0 r26) ((0:Int),[(-1:Int)-r26],u27)).bind fun (q35_12,q35_96)=>
 some (q35_12,q35_96))
noncomputable def A6:Nat→Sl1Cur→SAlgebra→Int→Int→Option ((List Int)×Sl1Cur)
 | 0=>fun _ _ _ _=>none
 | n+1=>B6 (A6 n)
theorem R6 {self:Sl1Cur→SAlgebra→Int→Int→Option ((List Int)×Sl1Cur)} (hself : ∀ {w_0 w_1 w_2 w_3 v},self w_0 w_1 w_2 w_3=some v→Nj Try.prog Bj [(rP true (Aj false)) w_0,(Ag false) w_1,Af w_2,Af w_3] ((slr true 1 Af) v.1) 0 ((rP true (Aj false)) v.2)) {c0:Sl1Cur} {a0:SAlgebra} {depth0:Int} {vars0:Int} {v:((List Int)×Sl1Cur)} (h:B6 self c0 a0 depth0 vars0=some v):Nj Try.prog Bj [(rP true (Aj false)) c0,(Ag false) a0,Af depth0,Af vars0] ((slr true 1 Af) v.1) 0 ((rP true (Aj false)) v.2):=by
 refine Tw T5 (Nat.le_of_ble_eq_true rfl) ?_
 unfold B6 at h
 conv=>whnf
 refine BslQ.o Af (A8 Int) (by exact fun _=>⟨rfl,rfl⟩) (by first | rfl | (simp only [Aa,V.fz,fzL,V.up,upL,Ab,Ac,Ad,slr,List.cons_append,List.nil_append];done) | simp [Aa,V.fz,fzL,V.up,upL,Ab,Ac,Ad,slr]) ?_
 conv=>whnf
 refine LoopQ.o [10,9,5,0,96,2,3] (Fw c0 a0 depth0 vars0) (Jg c0 a0 depth0 vars0) h (fun s o h=>Rl s o h) (by first | rfl | simp [restrict,look,Aa,V.fz,fzL,V.up,upL,Ab,Ac,Ad,slr]) (fun _=>rfl) ?_
 rintro q7_9 h
 try dsimp only at h
 conv=>whnf
 refine CutQ.o (fun t:(((List Int)×Sl1Cur) ⊕ Sl1Cur)=>match t with | (.inl s)=>(Ex.ret,[8,96],[(8,A.val ((slr true 1 Af) s.1)),(96,A.val ((rP true (Aj false)) s.2))]) | (.inr s)=>(Ex.normal,[5,0,96,2,3],[(5,A.val ((rP true (Ag false)) (a0))),(0,A.ref 96 []),(96,A.val ((rP true (Aj false)) s)),(2,A.val (Af (depth0))),(3,A.val (Af (vars0)))])) h ?_ ?_
 ·intro t h
  conv=>whnf
  refine CutQ.o (fun t:(Bool×Sl1Cur)=>match t with | s=>(Ex.normal,[45,9,5,0,96,2,3],[(45,A.val (V.bool s.1)),(9,A.val ((slr true 1 Af) (q7_9))),(5,A.val ((rP true (Ag false)) (a0))),(0,A.ref 96 []),(96,A.val ((rP true (Aj false)) s.2)),(2,A.val (Af (depth0))),(3,A.val (Af (vars0)))])) h ?_ ?_
  ·intro t h
   conv=>whnf
   refine Br.oe h (fun p8 h=> ?_) (fun p8 h=> ?_)
   ·conv=>whnf
    refine Br.yes ?_
    conv=>whnf
    refine Br.yes ?_
    conv=>whnf
    refine Br.yes ?_
    conv=>whnf
    refine Br.yes ?_
    conv=>whnf
    refine Br.yes ?_
    conv=>whnf
    refine Br.yes ?_
    conv=>whnf
    refine Br.yes ?_
    conv=>whnf
    cases h;exact ⟨rfl,rfl⟩
   conv=>whnf
   refine Br.no ?_
   conv=>whnf
   refine Cells.lit rfl rfl ?_
   conv=>whnf
   refine Br.no ?_
   conv=>whnf
   refine Len.map ?_
   conv=>whnf
   refine Br.no ?_
   conv=>whnf
   refine Br.no ?_
   conv=>whnf
   refine Br.oe h (fun p9 h=> ?_) (fun p9 h=> ?_)
   ·conv=>whnf
    refine Br.yes ?_
    conv=>whnf
    refine Br.yes ?_
    conv=>whnf
    cases h;exact ⟨rfl,rfl⟩
   conv=>whnf
   refine Br.no ?_
   conv=>whnf
   refine CallQ.io V.bool (rP true (Aj false)) (by first | rfl | simp only [Aa,V.fz,fzL,V.up,upL,Ab,Ac,Ad,slr,List.cons_append,List.nil_append] | simp [Aa,V.fz,fzL,V.up,upL,Ab,Ac,Ad,slr]) rfl (fun _=>rfl) (fun _=>⟨rfl,rfl⟩) rfl h (fun r h=>C9 h) (fun r10 u11 h=> ?_)
   conv=>whnf
   refine Br.no ?_
   conv=>whnf
   cases h;exact ⟨rfl,rfl⟩
  rintro ⟨q12_45,q12_96⟩ h
  try dsimp only at h
  conv=>whnf
  refine Br.ob h (fun p13 h=> ?_) (fun p13 h=> ?_)
  ·conv=>whnf
   refine CutQ.o (fun t:(Bool×Sl1Cur)=>match t with | s=>(Ex.normal,[56,9,0,96,3],[(56,A.val (V.bool s.1)),(9,A.val ((slr true 1 Af) (q7_9))),(0,A.ref 96 []),(96,A.val ((rP true (Aj false)) s.2)),(3,A.val (Af (vars0)))])) h ?_ ?_
   ·intro t h
    conv=>whnf
    refine Br.oe h (fun p14 h=> ?_) (fun p14 h=> ?_)
    ·conv=>whnf
     refine Br.yes ?_
     conv=>whnf
     refine Br.yes ?_
     conv=>whnf
     refine Br.yes ?_
     conv=>whnf
     refine Br.yes ?_
     conv=>whnf
     refine Br.yes ?_
     conv=>whnf
     cases h;exact ⟨rfl,rfl⟩
    conv=>whnf
    refine Br.no ?_
    conv=>whnf
    refine Len.map ?_
    conv=>whnf
    refine Br.no ?_
    conv=>whnf
    refine Br.no ?_
    conv=>whnf
    refine Br.od h (fun p15 h=> ?_) (fun p15 h=> ?_)
    ·conv=>whnf
     refine Br.yes ?_
     conv=>whnf
     refine CallQ.io V.bool (rP true (Aj false)) (by first | rfl | simp only [Aa,V.fz,fzL,V.up,upL,Ab,Ac,Ad,slr,List.cons_append,List.nil_append] | simp [Aa,V.fz,fzL,V.up,upL,Ab,Ac,Ad,slr]) rfl (fun _=>rfl) (fun _=>⟨rfl,rfl⟩) rfl h (fun r h=>C9 h) (fun r16 u17 h=> ?_)
     conv=>whnf
     refine Br.no ?_
     conv=>whnf
     refine Br.yes ?_
     conv=>whnf
     refine Br.no ?_
     conv=>whnf
     cases h;exact ⟨rfl,rfl⟩
    conv=>whnf
    refine Br.no ?_
    conv=>whnf
    refine Br.no ?_
    conv=>whnf
    refine Br.no ?_
    conv=>whnf
    refine Br.no ?_
    conv=>whnf
    cases h;exact ⟨rfl,rfl⟩
   rintro ⟨q18_56,q18_96⟩ h
   try dsimp only at h
   conv=>whnf
   refine Br.ob h (fun p19 h=> ?_) (fun p19 h=> ?_)
   ·conv=>whnf
    refine Len.map ?_
    conv=>whnf
    refine Br.oe h (fun p20 h=> ?_) (fun p20 h=> ?_)
    ·conv=>whnf
     refine BslQ.o Af ([(0:Int)]) (by exact fun _=>⟨rfl,rfl⟩) (by first | rfl | (simp only [Aa,V.fz,fzL,V.up,upL,Ab,Ac,Ad,slr,List.cons_append,List.nil_append];done) | simp [Aa,V.fz,fzL,V.up,upL,Ab,Ac,Ad,slr]) ?_
     conv=>whnf
     cases h;exact ⟨rfl,rfl⟩
    conv=>whnf
    refine FrzQ.d (V.sl false (1:Nat) (List.map Af q7_9)) (by first | (simp only [slr];done) | (simp [Ao,V.fz,Ab,slr];done) | (simp [Ao,V.fz,fzL,Ab,slr];done)) ?_
    conv=>whnf
    refine CallQ.io Af (rP true (Aj false)) (by first | rfl | simp only [Aa,V.fz,fzL,V.up,upL,Ab,Ac,Ad,slr,List.cons_append,List.nil_append] | simp [Aa,V.fz,fzL,V.up,upL,Ab,Ac,Ad,slr]) rfl (fun _=>rfl) (fun _=>⟨rfl,rfl⟩) rfl h (fun r h=>At h) (fun r21 u22 h=> ?_)
    conv=>whnf
    refine BslQ.o Af [r21] (by exact fun _=>⟨rfl,rfl⟩) (by first | rfl | (simp only [Aa,V.fz,fzL,V.up,upL,Ab,Ac,Ad,slr,List.cons_append,List.nil_append];done) | simp [Aa,V.fz,fzL,V.up,upL,Ab,Ac,Ad,slr]) ?_
    conv=>whnf
    cases h;exact ⟨rfl,rfl⟩
   conv=>whnf
   refine CallQ.io Af (rP true (Aj false)) (by first | rfl | simp only [Aa,V.fz,fzL,V.up,upL,Ab,Ac,Ad,slr,List.cons_append,List.nil_append] | simp [Aa,V.fz,fzL,V.up,upL,Ab,Ac,Ad,slr]) rfl (fun _=>rfl) (fun _=>⟨rfl,rfl⟩) rfl h (fun r h=>Am h) (fun r23 u24 h=> ?_)
   conv=>whnf
   refine BslQ.o Af [r23] (by exact fun _=>⟨rfl,rfl⟩) (by first | rfl | (simp only [Aa,V.fz,fzL,V.up,upL,Ab,Ac,Ad,slr,List.cons_append,List.nil_append];done) | simp [Aa,V.fz,fzL,V.up,upL,Ab,Ac,Ad,slr]) ?_
   conv=>whnf
   cases h;exact ⟨rfl,rfl⟩
  conv=>whnf
  cases h;exact ⟨rfl,rfl⟩
 rintro (⟨q25_8,q25_96⟩ | q25_96) h
 ·try dsimp only at h
  conv=>whnf
  cases h;exact ⟨(by first | rfl | simp only [Ah,Aa,V.fz,fzL,V.up,upL,Ab,Ac,Ad,slr] | simp [Ah,Aa,V.fz,fzL,V.up,upL,Ab,Ac,Ad,slr]),(by first | rfl | simp only [Ah,Aa,V.fz,fzL,V.up,upL,Ab,Ac,Ad,slr] | simp [Ah,Aa,V.fz,fzL,V.up,upL,Ab,Ac,Ad,slr])⟩
 try dsimp only at h
 conv=>whnf
 refine Cells.lit rfl rfl ?_
 conv=>whnf
 refine Len.map ?_
 conv=>whnf
 refine CallQ.io Af (rP true (Aj false)) (by first | rfl | simp only [Aa,V.fz,fzL,V.up,upL,Ab,Ac,Ad,slr,List.cons_append,List.nil_append] | simp [Aa,V.fz,fzL,V.up,upL,Ab,Ac,Ad,slr]) rfl (fun _=>rfl) (fun _=>⟨rfl,rfl⟩) rfl h (fun r h=>Am h) (fun r26 u27 h=> ?_)
 conv=>whnf
 refine Ask.o h fun p28 h=> ?_
 conv=>whnf
 refine BslQ.o Af ([(-1:Int)-r26]) (by exact fun _=>⟨rfl,rfl⟩) (by first | rfl | (simp only [Aa,V.fz,fzL,V.up,upL,Ab,Ac,Ad,slr,List.cons_append,List.nil_append];done) | simp [Aa,V.fz,fzL,V.up,upL,Ab,Ac,Ad,slr]) ?_
 conv=>whnf
 refine LoopQ.o [13,12,11,5,0,96,2,3] (F1 a0 depth0 vars0 r26) (Js a0 depth0 vars0 r26) h (fun s o h=>Qn hself s o h) (by first | rfl | simp [restrict,look,Aa,V.fz,fzL,V.up,upL,Ab,Ac,Ad,slr]) (fun _=>rfl) ?_
 rintro ⟨q35_12,q35_96⟩ h
 try dsimp only at h
 conv=>whnf
 cases h;exact ⟨(by first | rfl | simp only [Ah,Aa,V.fz,fzL,V.up,upL,Ab,Ac,Ad,slr] | simp [Ah,Aa,V.fz,fzL,V.up,upL,Ab,Ac,Ad,slr]),(by first | rfl | simp only [Ah,Aa,V.fz,fzL,V.up,upL,Ab,Ac,Ad,slr] | simp [Ah,Aa,V.fz,fzL,V.up,upL,Ab,Ac,Ad,slr])⟩
theorem J0 : ∀(n:Nat) {c0:Sl1Cur} {a0:SAlgebra} {depth0:Int} {vars0:Int} {v:((List Int)×Sl1Cur)},A6 n c0 a0 depth0 vars0=some v→Nj Try.prog Bj [(rP true (Aj false)) c0,(Ag false) a0,Af depth0,Af vars0] ((slr true 1 Af) v.1) 0 ((rP true (Aj false)) v.2)
 | 0,_,_,_,_,_,h=>by cases h
 | n+1,_,_,_,_,_,h=>R6 (fun h=>J0 n h) h
theorem El {c0:Sl1Cur} {a0:SAlgebra} {depth0:Int} {vars0:Int} {v:((List Int)×Sl1Cur)} (h:(Aak fun n=>A6 n c0 a0 depth0 vars0)=some v):Nj Try.prog Bj [(rP true (Aj false)) c0,(Ag false) a0,Af depth0,Af vars0] ((slr true 1 Af) v.1) 0 ((rP true (Aj false)) v.2):=by
 obtain ⟨n,hn⟩:=An6 h
 exact J0 n hn
noncomputable def Fe (a0:SAlgebra) (e0:SIdentity):Option (Bool×Bool):=
 (Di (a0)).bind fun r1=>
 if (r1)=true then
 (Eb (a0) (e0)).bind fun r3=>
 if (r3)=true then
 (Ec (a0) (e0)).bind fun r5=>
 some (r5,true)
 else
 some (false,false)
 else
 some (false,false)
theorem Aap {a0:SAlgebra} {e0:SIdentity} {v:(Bool×Bool)} (h:Fe a0 e0=some v):Ret Try.prog Lu [(Ag false) a0,(Ak false) e0] ((fun r=>V.tup [V.bool r.1,V.bool r.2]) v):=by
 refine Bp Aau (Nat.le_of_ble_eq_true rfl) ?_
 unfold Fe at h
 conv=>whnf
 refine Cells.lit rfl rfl ?_
 conv=>whnf
 refine CallQ.o V.bool (by first | rfl | simp only [Aa,V.fz,fzL,V.up,upL,Ab,Ac,Ad,slr,List.cons_append,List.nil_append] | simp [Aa,V.fz,fzL,V.up,upL,Ab,Ac,Ad,slr]) h (fun r h=>D9 h) (fun r1 h=> ?_)
 conv=>whnf
 refine Br.flip ?_
 conv=>whnf
 refine Br.ob h (fun p2 h=> ?_) (fun p2 h=> ?_)
 ·conv=>whnf
  refine Cells.lit rfl rfl ?_
  conv=>whnf
  refine Br.no ?_
  conv=>whnf
  refine Cells.lit rfl rfl ?_
  conv=>whnf
  refine Br.no ?_
  conv=>whnf
  refine CallQ.o V.bool (by first | rfl | simp only [Aa,V.fz,fzL,V.up,upL,Ab,Ac,Ad,slr,List.cons_append,List.nil_append] | simp [Aa,V.fz,fzL,V.up,upL,Ab,Ac,Ad,slr]) h (fun r h=>M9 h) (fun r3 h=> ?_)
  conv=>whnf
  refine Br.no ?_
  conv=>whnf
  refine Br.no ?_
  conv=>whnf
  refine Br.flip ?_
  conv=>whnf
  refine Br.ob h (fun p4 h=> ?_) (fun p4 h=> ?_)
  ·conv=>whnf
   refine Cells.lit rfl rfl ?_
   conv=>whnf
   refine Cells.lit rfl rfl ?_
   conv=>whnf
   refine CallQ.o V.bool (by first | rfl | simp only [Aa,V.fz,fzL,V.up,upL,Ab,Ac,Ad,slr,List.cons_append,List.nil_append] | simp [Aa,V.fz,fzL,V.up,upL,Ab,Ac,Ad,slr]) h (fun r h=>Sy h) (fun r5 h=> ?_)
   conv=>whnf
   cases h;exact (by first | rfl | simp only [Ah,Aa,V.fz,fzL,V.up,upL,Ab,Ac,Ad,slr] | simp [Ah,Aa,V.fz,fzL,V.up,upL,Ab,Ac,Ad,slr])
  conv=>whnf
  cases h;exact (by first | rfl | simp only [Ah,Aa,V.fz,fzL,V.up,upL,Ab,Ac,Ad,slr] | simp [Ah,Aa,V.fz,fzL,V.up,upL,Ab,Ac,Ad,slr])
 conv=>whnf
 refine Br.yes ?_
 conv=>whnf
 refine Br.yes ?_
 conv=>whnf
 refine Br.yes ?_
 conv=>whnf
 refine Br.yes ?_
 conv=>whnf
 refine Br.yes ?_
 conv=>whnf
 cases h;exact (by first | rfl | simp only [Ah,Aa,V.fz,fzL,V.up,upL,Ab,Ac,Ad,slr] | simp [Ah,Aa,V.fz,fzL,V.up,upL,Ab,Ac,Ad,slr])
noncomputable def En (a0:SAlgebra) (e0:SIdentity):Option ((List Int)×Bool):=
 (Di (a0)).bind fun r1=>
 if (r1)=true then
 (Eb (a0) (e0)).bind fun r3=>
 if (r3)=true then
 (De (a0) (e0)).bind fun r5=>
 some r5
 else
 some (A8 Int,false)
 else
 some (A8 Int,false)
theorem Ut {a0:SAlgebra} {e0:SIdentity} {v:((List Int)×Bool)} (h:En a0 e0=some v):Ret Try.prog Hs [(Ag false) a0,(Ak false) e0] ((fun r=>V.tup [(slr true 1 Af) r.1,V.bool r.2]) v):=by
 refine Bp Ui (Nat.le_of_ble_eq_true rfl) ?_
 unfold En at h
 conv=>whnf
 refine Cells.lit rfl rfl ?_
 conv=>whnf
 refine CallQ.o V.bool (by first | rfl | simp only [Aa,V.fz,fzL,V.up,upL,Ab,Ac,Ad,slr,List.cons_append,List.nil_append] | simp [Aa,V.fz,fzL,V.up,upL,Ab,Ac,Ad,slr]) h (fun r h=>D9 h) (fun r1 h=> ?_)
 conv=>whnf
 refine Br.flip ?_
 conv=>whnf
 refine Br.ob h (fun p2 h=> ?_) (fun p2 h=> ?_)
 ·conv=>whnf
  refine Cells.lit rfl rfl ?_
  conv=>whnf
  refine Br.no ?_
  conv=>whnf
  refine Cells.lit rfl rfl ?_
  conv=>whnf
  refine Br.no ?_
  conv=>whnf
  refine CallQ.o V.bool (by first | rfl | simp only [Aa,V.fz,fzL,V.up,upL,Ab,Ac,Ad,slr,List.cons_append,List.nil_append] | simp [Aa,V.fz,fzL,V.up,upL,Ab,Ac,Ad,slr]) h (fun r h=>M9 h) (fun r3 h=> ?_)
  conv=>whnf
  refine Br.no ?_
  conv=>whnf
  refine Br.no ?_
  conv=>whnf
  refine Br.flip ?_
  conv=>whnf
  refine Br.ob h (fun p4 h=> ?_) (fun p4 h=> ?_)
  ·conv=>whnf
   refine Cells.lit rfl rfl ?_
   conv=>whnf
   refine Cells.lit rfl rfl ?_
   conv=>whnf
   refine CallQ.o (fun r=>V.tup [(slr true 1 Af) r.1,V.bool r.2]) (by first | rfl | simp only [Aa,V.fz,fzL,V.up,upL,Ab,Ac,Ad,slr,List.cons_append,List.nil_append] | simp [Aa,V.fz,fzL,V.up,upL,Ab,Ac,Ad,slr]) h (fun r h=>P3 h) (fun r5 h=> ?_)
   conv=>whnf
   cases h;exact (by first | rfl | simp only [Ah,Aa,V.fz,fzL,V.up,upL,Ab,Ac,Ad,slr] | simp [Ah,Aa,V.fz,fzL,V.up,upL,Ab,Ac,Ad,slr])
  conv=>whnf
  refine BslQ.o Af (A8 Int) (by exact fun _=>⟨rfl,rfl⟩) (by first | rfl | (simp only [Aa,V.fz,fzL,V.up,upL,Ab,Ac,Ad,slr,List.cons_append,List.nil_append];done) | simp [Aa,V.fz,fzL,V.up,upL,Ab,Ac,Ad,slr]) ?_
  conv=>whnf
  cases h;exact (by first | rfl | simp only [Ah,Aa,V.fz,fzL,V.up,upL,Ab,Ac,Ad,slr] | simp [Ah,Aa,V.fz,fzL,V.up,upL,Ab,Ac,Ad,slr])
 conv=>whnf
 refine Br.yes ?_
 conv=>whnf
 refine Br.yes ?_
 conv=>whnf
 refine Br.yes ?_
 conv=>whnf
 refine Br.yes ?_
 conv=>whnf
 refine Br.yes ?_
 conv=>whnf
 refine BslQ.o Af (A8 Int) (by exact fun _=>⟨rfl,rfl⟩) (by first | rfl | (simp only [Aa,V.fz,fzL,V.up,upL,Ab,Ac,Ad,slr,List.cons_append,List.nil_append];done) | simp [Aa,V.fz,fzL,V.up,upL,Ab,Ac,Ad,slr]) ?_
 conv=>whnf
 cases h;exact (by first | rfl | simp only [Ah,Aa,V.fz,fzL,V.up,upL,Ab,Ac,Ad,slr] | simp [Ah,Aa,V.fz,fzL,V.up,upL,Ab,Ac,Ad,slr])
noncomputable def Fd (a0:SAlgebra) (t0:(List Int)) (values0:(List Int)):Option (Int×Bool):=
 (Ga (a0) (t0)).bind fun r1=>
 if (r1)=true then
 if (↑values0.length:Int)>(6:Int) then
 some ((0:Int),false)
 else
 (F9 (values0) (a0.Size)).bind fun r4=>
 if (r4)=true then
 (D4 (t0) ((↑values0.length:Int))).bind fun r6=>
 if (r6)=true then
 (Et (a0) (t0) (values0)).bind fun r8=>
 some (r8,true)
 else
 some ((0:Int),false)
 else
 some ((0:Int),false)
 else
 some ((0:Int),false)
theorem R0 {a0:SAlgebra} {t0:(List Int)} {values0:(List Int)} {v:(Int×Bool)} (h:Fd a0 t0 values0=some v):Ret Try.prog Il [(Ag false) a0,(slr false 1 Af) t0,(slr false 1 Af) values0] ((fun r=>V.tup [Af r.1,V.bool r.2]) v):=by
 refine Bp Aao (Nat.le_of_ble_eq_true rfl) ?_
 unfold Fd at h
 conv=>whnf
 refine Cells.lit rfl rfl ?_
 conv=>whnf
 refine CallQ.o V.bool (by first | rfl | simp only [Aa,V.fz,fzL,V.up,upL,Ab,Ac,Ad,slr,List.cons_append,List.nil_append] | simp [Aa,V.fz,fzL,V.up,upL,Ab,Ac,Ad,slr]) h (fun r h=>U1 h) (fun r1 h=> ?_)
 conv=>whnf
 refine Br.flip ?_
 conv=>whnf
 refine Br.ob h (fun p2 h=> ?_) (fun p2 h=> ?_)
 ·conv=>whnf
  refine Br.no ?_
  conv=>whnf
  refine Len.map ?_
  conv=>whnf
  refine Br.no ?_
  conv=>whnf
  refine Br.no ?_
  conv=>whnf
  refine Br.od h (fun p3 h=> ?_) (fun p3 h=> ?_)
  ·conv=>whnf
   refine Br.yes ?_
   conv=>whnf
   refine Br.yes ?_
   conv=>whnf
   refine Br.yes ?_
   conv=>whnf
   refine Br.yes ?_
   conv=>whnf
   refine Br.yes ?_
   conv=>whnf
   refine Br.yes ?_
   conv=>whnf
   refine Br.yes ?_
   conv=>whnf
   refine Br.yes ?_
   conv=>whnf
   refine Br.yes ?_
   conv=>whnf
   refine Br.yes ?_
   conv=>whnf
   refine Br.yes ?_
   conv=>whnf
   refine Br.yes ?_
   conv=>whnf
   cases h;exact (by first | rfl | simp only [Ah,Aa,V.fz,fzL,V.up,upL,Ab,Ac,Ad,slr] | simp [Ah,Aa,V.fz,fzL,V.up,upL,Ab,Ac,Ad,slr])
  conv=>whnf
  refine Br.no ?_
  conv=>whnf
  refine Br.no ?_
  conv=>whnf
  refine Cells.lit rfl rfl ?_
  conv=>whnf
  refine Br.no ?_
  conv=>whnf
  refine CallQ.o V.bool (by first | rfl | simp only [Aa,V.fz,fzL,V.up,upL,Ab,Ac,Ad,slr,List.cons_append,List.nil_append] | simp [Aa,V.fz,fzL,V.up,upL,Ab,Ac,Ad,slr]) h (fun r h=>Vb h) (fun r4 h=> ?_)
  conv=>whnf
  refine Br.no ?_
  conv=>whnf
  refine Br.no ?_
  conv=>whnf
  refine Br.flip ?_
  conv=>whnf
  refine Br.ob h (fun p5 h=> ?_) (fun p5 h=> ?_)
  ·conv=>whnf
   refine Br.no ?_
   conv=>whnf
   refine Br.no ?_
   conv=>whnf
   refine Len.map ?_
   conv=>whnf
   refine Br.no ?_
   conv=>whnf
   refine CallQ.o V.bool (by first | rfl | simp only [Aa,V.fz,fzL,V.up,upL,Ab,Ac,Ad,slr,List.cons_append,List.nil_append] | simp [Aa,V.fz,fzL,V.up,upL,Ab,Ac,Ad,slr]) h (fun r h=>P5 h) (fun r6 h=> ?_)
   conv=>whnf
   refine Br.no ?_
   conv=>whnf
   refine Br.no ?_
   conv=>whnf
   refine Br.flip ?_
   conv=>whnf
   refine Br.ob h (fun p7 h=> ?_) (fun p7 h=> ?_)
   ·conv=>whnf
    refine Cells.lit rfl rfl ?_
    conv=>whnf
    refine CallQ.o Af (by first | rfl | simp only [Aa,V.fz,fzL,V.up,upL,Ab,Ac,Ad,slr,List.cons_append,List.nil_append] | simp [Aa,V.fz,fzL,V.up,upL,Ab,Ac,Ad,slr]) h (fun r h=>I2 h) (fun r8 h=> ?_)
    conv=>whnf
    cases h;exact (by first | rfl | simp only [Ah,Aa,V.fz,fzL,V.up,upL,Ab,Ac,Ad,slr] | simp [Ah,Aa,V.fz,fzL,V.up,upL,Ab,Ac,Ad,slr])
   conv=>whnf
   cases h;exact (by first | rfl | simp only [Ah,Aa,V.fz,fzL,V.up,upL,Ab,Ac,Ad,slr] | simp [Ah,Aa,V.fz,fzL,V.up,upL,Ab,Ac,Ad,slr])
  conv=>whnf
  refine Br.yes ?_
  conv=>whnf
  refine Br.yes ?_
  conv=>whnf
  refine Br.yes ?_
  conv=>whnf
  refine Br.yes ?_
  conv=>whnf
  refine Br.yes ?_
  conv=>whnf
  refine Br.yes ?_
  conv=>whnf
  cases h;exact (by first | rfl | simp only [Ah,Aa,V.fz,fzL,V.up,upL,Ab,Ac,Ad,slr] | simp [Ah,Aa,V.fz,fzL,V.up,upL,Ab,Ac,Ad,slr])
 conv=>whnf
 refine Br.yes ?_
 conv=>whnf
 refine Br.yes ?_
 conv=>whnf
 refine Br.yes ?_
 conv=>whnf
 refine Br.yes ?_
 conv=>whnf
 refine Br.yes ?_
 conv=>whnf
 refine Br.yes ?_
 conv=>whnf
 refine Br.yes ?_
 conv=>whnf
 refine Br.yes ?_
 conv=>whnf
 refine Br.yes ?_
 conv=>whnf
 refine Br.yes ?_
 conv=>whnf
 refine Br.yes ?_
 conv=>whnf
 refine Br.yes ?_
 conv=>whnf
 refine Br.yes ?_
 conv=>whnf
 refine Br.yes ?_
 conv=>whnf
 refine Br.yes ?_
 conv=>whnf
 refine Br.yes ?_
 conv=>whnf
 cases h;exact (by first | rfl | simp only [Ah,Aa,V.fz,fzL,V.up,upL,Ab,Ac,Ad,slr] | simp [Ah,Aa,V.fz,fzL,V.up,upL,Ab,Ac,Ad,slr])
end Go.Proofs.Ytmcbocbcpijgeaa.Ax
