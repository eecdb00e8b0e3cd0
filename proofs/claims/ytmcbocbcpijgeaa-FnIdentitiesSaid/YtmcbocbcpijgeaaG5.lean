/-
 What the functions compute, as functions on plain data, and that the program does compute it; written by program.
-/
import Derived.Test.YtmcbocbcpijgeaaCode
import Derived.Test.YtmcbocbcpijgeaaG1
import Derived.Test.YtmcbocbcpijgeaaG2
import Derived.Test.YtmcbocbcpijgeaaG4
namespace Go.Proofs.Ytmcbocbcpijgeaa.Ax
open Go
set_option maxRecDepth 100000
set_option maxHeartbeats 4000000
noncomputable def C3 (_a0:SAlgebra) (_e0:SIdentity) (r1:List Int) (_r2:Int) (_x9:Int) (r10:List Int):(Int×(List Int))→Option ((Int×(List Int)) ⊕ (List Int)):=fun (x49,x8')=>
 if x49<(↑r10.length:Int) then
 ask ((0:Int)≤x49∧x49<(↑r10.length:Int)) <|
 ask ((0:Int)≤x49∧x49<(↑r1.length:Int)) <|
 ask ((0:Int)≤nth r1 x49.toNat∧nth r1 x49.toNat<(↑x8'.length:Int)) <|
 ask (InI (x49+(1:Int))) <|
 some (.inl (x49+(1:Int),x8'.set (nth r1 x49.toNat).toNat (nth r10 x49.toNat)))
 else
 some (.inr x8')
def H3 (a0:SAlgebra) (e0:SIdentity) (r1:List Int) (r2:Int) (x9:Int) (r10:List Int):(Int×(List Int))→St:=fun s=>[(49,A.val (Af s.1)),(48,A.val (Af ((↑r10.length:Int)))),(47,A.val ((slr true 1 Af) (r10))),(9,A.val (Af (x9))),(8,A.val ((slr true 1 Af) s.2)),(7,A.val (Af (r2))),(6,A.val ((slr true 1 Af) (r1))),(3,A.val ((rP true (Ak false)) (e0))),(2,A.val ((rP true (Ag false)) (a0)))]
def Mj (a0:SAlgebra) (e0:SIdentity) (r1:List Int) (r2:Int) (x9:Int) (_r10:List Int):(List Int)→Tgt
 | s=>((Ex.exit 2),[9,8,7,6,3,2],[(9,A.val (Af (x9))),(8,A.val ((slr true 1 Af) s)),(7,A.val (Af (r2))),(6,A.val ((slr true 1 Af) (r1))),(3,A.val ((rP true (Ak false)) (e0))),(2,A.val ((rP true (Ag false)) (a0)))])
theorem Uj {a0:SAlgebra} {e0:SIdentity} {r1:List Int} {r2:Int} {x9:Int} {r10:List Int} (s:(Int×(List Int))) (o:(Int×(List Int)) ⊕ (List Int)) (h:C3 a0 e0 r1 r2 x9 r10 s=some o):vc Try.prog Hw (Eu [49,48,47,9,8,7,6,3,2] (H3 a0 e0 r1 r2 x9 r10) (Mj a0 e0 r1 r2 x9 r10) o) (H3 a0 e0 r1 r2 x9 r10 s):=by
 obtain ⟨x49,x8'⟩:=s
 unfold C3 at h
 try dsimp only at h
 conv=>whnf
 refine Br.od h (fun p11 h=> ?_) (fun p11 h=> ?_)
 ·conv=>whnf
  refine Len.map ?_
  conv=>whnf
  refine Ask.o h fun p12 h=> ?_
  conv=>whnf
  refine Cells.one (fun _=>⟨rfl,rfl⟩) (by first | omega | (simp [Ba] at * <;> omega)) ?_
  conv=>whnf
  refine Len.map ?_
  conv=>whnf
  refine Ask.o h fun p13 h=> ?_
  conv=>whnf
  refine Cells.one (fun _=>⟨rfl,rfl⟩) (by first | omega | (simp [Ba] at * <;> omega)) ?_
  conv=>whnf
  refine Len.map ?_
  conv=>whnf
  refine Ask.o h fun p14 h=> ?_
  conv=>whnf
  refine SetKids.one (fun _=>⟨rfl,rfl⟩) (nth r10 x49.toNat) (by first | rfl | simp only [Aa,V.fz,fzL,V.up,upL,Ab,Ac,Ad,slr,List.cons_append,List.nil_append] | simp [Aa,V.fz,fzL,V.up,upL,Ab,Ac,Ad,slr]) (by first | omega | (simp [Ba] at * <;> omega)) ?_
  conv=>whnf
  refine Ask.o h fun p15 h=> ?_
  conv=>whnf
  cases h;exact ⟨rfl,rfl⟩
 conv=>whnf
 cases h;exact ⟨rfl,rfl⟩
noncomputable def Ci (a0:SAlgebra) (e0:SIdentity) (r1:List Int) (r2:Int):(Int×(List Int))→Option ((Int×(List Int)) ⊕ ((List Int) ⊕ Unit)):=fun (x9,x8)=>
 if x9<r2 then
 (Cn (x9) ((↑r1.length:Int)) (a0.Size)).bind fun r10=>
 (Ay (C3 a0 e0 r1 r2 x9 r10) ((0:Int),x8)).bind fun q16_8=>
 (Et (a0) (e0.Left) (q16_8)).bind fun r17=>
 (Et (a0) (e0.Right) (q16_8)).bind fun r18=>
 if r17≠r18 then
 some (.inr (.inl q16_8))
 else
 ask (InI (x9+(1:Int))) <|
 some (.inl (x9+(1:Int),q16_8))
 else
 some (.inr (.inr ()))
def Hy (a0:SAlgebra) (e0:SIdentity) (r1:List Int) (r2:Int):(Int×(List Int))→St:=fun s=>[(9,A.val (Af s.1)),(8,A.val ((slr true 1 Af) s.2)),(7,A.val (Af (r2))),(6,A.val ((slr true 1 Af) (r1))),(3,A.val ((rP true (Ak false)) (e0))),(2,A.val ((rP true (Ag false)) (a0)))]
def Md (_a0:SAlgebra) (_e0:SIdentity) (_r1:List Int) (_r2:Int):((List Int) ⊕ Unit)→Tgt
 | (.inl s)=>(Ex.ret,[5,4],[(5,A.val (V.bool (true))),(4,A.val ((slr false 1 Af) s))])
 | (.inr _s)=>((Ex.exit 0),[],[])
theorem Ue {a0:SAlgebra} {e0:SIdentity} {r1:List Int} {r2:Int} (s:(Int×(List Int))) (o:(Int×(List Int)) ⊕ ((List Int) ⊕ Unit)) (h:Ci a0 e0 r1 r2 s=some o):vc Try.prog Hx (Eu [9,8,7,6,3,2] (Hy a0 e0 r1 r2) (Md a0 e0 r1 r2) o) (Hy a0 e0 r1 r2 s):=by
 obtain ⟨x9,x8⟩:=s
 unfold Ci at h
 try dsimp only at h
 conv=>whnf
 refine Br.od h (fun p9 h=> ?_) (fun p9 h=> ?_)
 ·conv=>whnf
  refine Len.map ?_
  conv=>whnf
  refine Cells.lit rfl rfl ?_
  conv=>whnf
  refine CallQ.o (slr true 1 Af) (by first | rfl | simp only [Aa,V.fz,fzL,V.up,upL,Ab,Ac,Ad,slr,List.cons_append,List.nil_append] | simp [Aa,V.fz,fzL,V.up,upL,Ab,Ac,Ad,slr]) h (fun r h=>O8 h) (fun r10 h=> ?_)
  conv=>whnf
  refine Len.map ?_
  conv=>whnf
  refine LoopQ.o [49,48,47,9,8,7,6,3,2] (H3 a0 e0 r1 r2 x9 r10) (Mj a0 e0 r1 r2 x9 r10) h (fun s o h=>Uj s o h) (by first | rfl | simp [restrict,look,Aa,V.fz,fzL,V.up,upL,Ab,Ac,Ad,slr]) (fun _=>rfl) ?_
  rintro q16_8 h
  try dsimp only at h
  conv=>whnf
  refine Cells.lit rfl rfl ?_
  conv=>whnf
  refine Cells.lit rfl rfl ?_
  conv=>whnf
  refine CallP.rd Af (by first | rfl | simp only [V.fz,fzL,Ab,slr] | simp [Aa,V.fz,fzL,V.up,upL,Ab,Ac,Ad,slr]) (fun _=>rfl) h (fun r h=>I2 h) (fun r17 h=> ?_)
  conv=>whnf
  refine Cells.lit rfl rfl ?_
  conv=>whnf
  refine Cells.lit rfl rfl ?_
  conv=>whnf
  refine CallQ.rd Af (by first | rfl | simp only [V.fz,fzL,Ab,slr] | simp [Aa,V.fz,fzL,V.up,upL,Ab,Ac,Ad,slr]) (fun _=>rfl) h (fun r h=>I2 h) (fun r18 h=> ?_)
  conv=>whnf
  refine Br.on h (fun p19 h=> ?_) (fun p19 h=> ?_)
  ·conv=>whnf
   refine FrzQ.d (V.sl false (1:Nat) (List.map Af q16_8)) (by first | (simp only [slr];done) | (simp [Ao,V.fz,Ab,slr];done) | (simp [Ao,V.fz,fzL,Ab,slr];done)) ?_
   conv=>whnf
   cases h;exact ⟨rfl,rfl⟩
  conv=>whnf
  refine Ask.o h fun p20 h=> ?_
  conv=>whnf
  cases h;exact ⟨rfl,rfl⟩
 conv=>whnf
 cases h;exact ⟨rfl,rfl⟩
noncomputable def Dy (_a0:SAlgebra) (_e0:SIdentity) (r1:List Int) (_r2:Int) (_x9:Int) (r23:List Int):Unit→Option (Unit ⊕ Unit):=fun _=>
 if (0:Int)<(↑r23.length:Int) then
 ask ((0:Int)≤(0:Int)∧(0:Int)<(↑r23.length:Int)) <|
 ask ((0:Int)≤(0:Int)∧(0:Int)<(↑r1.length:Int)) <|
 none
 else
 some (.inr ())
def Gm (a0:SAlgebra) (e0:SIdentity) (r1:List Int) (r2:Int) (x9:Int) (r23:List Int):Unit→St:=fun _=>[(49,A.val (Af ((0:Int)))),(48,A.val (Af ((↑r23.length:Int)))),(47,A.val ((slr true 1 Af) (r23))),(9,A.val (Af (x9))),(8,A.val ((rEs 1) (A8 Int))),(7,A.val (Af (r2))),(6,A.val ((slr true 1 Af) (r1))),(3,A.val ((rP true (Ak false)) (e0))),(2,A.val ((rP true (Ag false)) (a0)))]
def J4 (a0:SAlgebra) (e0:SIdentity) (r1:List Int) (r2:Int) (x9:Int) (_r23:List Int):Unit→Tgt
 | _s=>((Ex.exit 2),[9,8,7,6,3,2],[(9,A.val (Af (x9))),(8,A.val ((rEs 1) (A8 Int))),(7,A.val (Af (r2))),(6,A.val ((slr true 1 Af) (r1))),(3,A.val ((rP true (Ak false)) (e0))),(2,A.val ((rP true (Ag false)) (a0)))])
theorem R5 {a0:SAlgebra} {e0:SIdentity} {r1:List Int} {r2:Int} {x9:Int} {r23:List Int} (s:Unit) (o:Unit ⊕ Unit) (h:Dy a0 e0 r1 r2 x9 r23 s=some o):vc Try.prog Hw (Eu [49,48,47,9,8,7,6,3,2] (Gm a0 e0 r1 r2 x9 r23) (J4 a0 e0 r1 r2 x9 r23) o) (Gm a0 e0 r1 r2 x9 r23 s):=by
 unfold Dy at h
 try dsimp only at h
 conv=>whnf
 refine Br.od h (fun p24 h=> ?_) (fun p24 h=> ?_)
 ·conv=>whnf
  refine Len.map ?_
  conv=>whnf
  refine Ask.o h fun p25 h=> ?_
  conv=>whnf
  refine Cells.one (fun _=>⟨rfl,rfl⟩) (by first | omega | (simp [Ba] at * <;> omega)) ?_
  conv=>whnf
  refine Len.map ?_
  conv=>whnf
  refine Ask.o h fun p26 h=> ?_
  conv=>whnf
  refine Cells.one (fun _=>⟨rfl,rfl⟩) (by first | omega | (simp at * <;> omega)) ?_
  conv=>whnf
  cases h
 conv=>whnf
 cases h;exact ⟨rfl,rfl⟩
noncomputable def Bu (a0:SAlgebra) (e0:SIdentity) (r1:List Int) (r2:Int):Int→Option (Int ⊕ (Unit ⊕ Unit)):=fun x9=>
 if x9<r2 then
 (Cn (x9) ((↑r1.length:Int)) (a0.Size)).bind fun r23=>
 (Ay (Dy a0 e0 r1 r2 x9 r23) ()).bind fun _=>
 (Et (a0) (e0.Left) (A8 Int)).bind fun r28=>
 (Et (a0) (e0.Right) (A8 Int)).bind fun r29=>
 if r28≠r29 then
 some (.inr (.inl ()))
 else
 ask (InI (x9+(1:Int))) <|
 some (.inl (x9+(1:Int)))
 else
 some (.inr (.inr ()))
def Gf (a0:SAlgebra) (e0:SIdentity) (r1:List Int) (r2:Int):Int→St:=fun s=>[(9,A.val (Af s)),(8,A.val ((rEs 1) (A8 Int))),(7,A.val (Af (r2))),(6,A.val ((slr true 1 Af) (r1))),(3,A.val ((rP true (Ak false)) (e0))),(2,A.val ((rP true (Ag false)) (a0)))]
def J6 (_a0:SAlgebra) (_e0:SIdentity) (_r1:List Int) (_r2:Int):(Unit ⊕ Unit)→Tgt
 | (.inl _s)=>(Ex.ret,[5,4],[(5,A.val (V.bool (true))),(4,A.val ((rEs 1) (A8 Int)))])
 | (.inr _s)=>((Ex.exit 0),[],[])
theorem R7 {a0:SAlgebra} {e0:SIdentity} {r1:List Int} {r2:Int} (x9:Int) (o:Int ⊕ (Unit ⊕ Unit)) (h:Bu a0 e0 r1 r2 x9=some o):vc Try.prog Hx (Eu [9,8,7,6,3,2] (Gf a0 e0 r1 r2) (J6 a0 e0 r1 r2) o) (Gf a0 e0 r1 r2 x9):=by
 unfold Bu at h
 try dsimp only at h
 conv=>whnf
 refine Br.od h (fun p22 h=> ?_) (fun p22 h=> ?_)
 ·conv=>whnf
  refine Len.map ?_
  conv=>whnf
  refine Cells.lit rfl rfl ?_
  conv=>whnf
  refine CallQ.o (slr true 1 Af) (by first | rfl | simp only [Aa,V.fz,fzL,V.up,upL,Ab,Ac,Ad,slr,List.cons_append,List.nil_append] | simp [Aa,V.fz,fzL,V.up,upL,Ab,Ac,Ad,slr]) h (fun r h=>O8 h) (fun r23 h=> ?_)
  conv=>whnf
  refine Len.map ?_
  conv=>whnf
  refine LoopQ.o [49,48,47,9,8,7,6,3,2] (Gm a0 e0 r1 r2 x9 r23) (J4 a0 e0 r1 r2 x9 r23) h (fun s o h=>R5 s o h) (by first | rfl | simp [restrict,look,Aa,V.fz,fzL,V.up,upL,Ab,Ac,Ad,slr]) (fun _=>rfl) ?_
  rintro ⟨⟩ h
  try dsimp only at h
  conv=>whnf
  refine Cells.lit rfl rfl ?_
  conv=>whnf
  refine Cells.lit rfl rfl ?_
  conv=>whnf
  refine CallP.o Af (by first | rfl | simp only [Aa,V.fz,fzL,V.up,upL,Ab,Ac,Ad,slr,List.cons_append,List.nil_append] | simp [Aa,V.fz,fzL,V.up,upL,Ab,Ac,Ad,slr]) h (fun r h=>Ret.es (vs:=[(Ag false) (a0),(slr false 1 Af) (e0.Left),(rEs 1) (A8 Int)]) rfl (I2 h)) (fun r28 h=> ?_)
  conv=>whnf
  refine Cells.lit rfl rfl ?_
  conv=>whnf
  refine Cells.lit rfl rfl ?_
  conv=>whnf
  refine CallQ.o Af (by first | rfl | simp only [Aa,V.fz,fzL,V.up,upL,Ab,Ac,Ad,slr,List.cons_append,List.nil_append] | simp [Aa,V.fz,fzL,V.up,upL,Ab,Ac,Ad,slr]) h (fun r h=>Ret.es (vs:=[(Ag false) (a0),(slr false 1 Af) (e0.Right),(rEs 1) (A8 Int)]) rfl (I2 h)) (fun r29 h=> ?_)
  conv=>whnf
  refine Br.on h (fun p30 h=> ?_) (fun p30 h=> ?_)
  ·conv=>whnf
   refine FrzQ.z ?_
   conv=>whnf
   cases h;exact ⟨rfl,rfl⟩
  conv=>whnf
  refine Ask.o h fun p31 h=> ?_
  conv=>whnf
  cases h;exact ⟨rfl,rfl⟩
 conv=>whnf
 cases h;exact ⟨rfl,rfl⟩
noncomputable def Cs (a0:SAlgebra) (e0:SIdentity):Option ((Option (Option (List Int)))×Bool):=
 (Gb ([e0.Left,e0.Right])).bind fun r1=>
 (Ct (a0.Size) ((↑r1.length:Int))).bind fun r2=>
 if r2>(5000:Int) then
 some (none,false)
 else
 if (↑r1.length:Int)>(0:Int) then
 ask (InI ((↑r1.length:Int)-(1:Int))) <|
 ask ((0:Int)≤(↑r1.length:Int)-(1:Int)∧(↑r1.length:Int)-(1:Int)<(↑r1.length:Int)) <|
 ask (InI (nth r1 ((↑r1.length:Int)-(1:Int)).toNat+(1:Int))) <|
 ask ((0:Int)≤nth r1 ((↑r1.length:Int)-(1:Int)).toNat+(1:Int)∧nth r1 ((↑r1.length:Int)-(1:Int)).toNat+(1:Int)≤(↑LIM:Int)) <|
 (Ay (Ci a0 e0 r1 r2) ((0:Int),List.replicate (nth r1 ((↑r1.length:Int)-(1:Int)).toNat+(1:Int)).toNat (0:Int))).bind fun t=>match t with
 | (.inl q21_4)=>(some (some (some q21_4),true))
 | (.inr _)=>(some (none,true))
 else
 (Ay (Bu a0 e0 r1 r2) (0:Int)).bind fun t=>match t with
 | (.inl _)=>(some (some none,true))
 | (.inr _)=>(some (none,true))
theorem Pq {a0:SAlgebra} {e0:SIdentity} {v:((Option (Option (List Int)))×Bool)} (h:Cs a0 e0=some v):Ret Try.prog Hk [(Ag false) a0,(Ak false) e0] ((fun r=>V.tup [(rOe 1 Af) r.1,V.bool r.2]) v):=by
 refine Bp X5 (Nat.le_of_ble_eq_true rfl) ?_
 unfold Cs at h
 conv=>whnf
 refine Cells.lit rfl rfl ?_
 conv=>whnf
 refine Cells.lit rfl rfl ?_
 conv=>whnf
 refine BslQ.o (slr false 1 Af) ([e0.Left,e0.Right]) (by exact fun _=>⟨rfl,rfl⟩) (by first | rfl | (simp only [Aa,V.fz,fzL,V.up,upL,Ab,Ac,Ad,slr,List.cons_append,List.nil_append];done) | simp [Aa,V.fz,fzL,V.up,upL,Ab,Ac,Ad,slr]) ?_
 conv=>whnf
 refine CallQ.rd (slr true 1 Af) (by first | rfl | simp only [Aa,V.fz,fzL,V.up,upL,Ab,Ac,Ad,slr,List.cons_append,List.nil_append] | simp [Aa,V.fz,fzL,V.up,upL,Ab,Ac,Ad,slr]) (fun _=>by simp [V.noFz,D1]) h (fun r h=>Ads h) (fun r1 h=> ?_)
 conv=>whnf
 refine Cells.lit rfl rfl ?_
 conv=>whnf
 refine Len.map ?_
 conv=>whnf
 refine CallQ.o Af (by first | rfl | simp only [Aa,V.fz,fzL,V.up,upL,Ab,Ac,Ad,slr,List.cons_append,List.nil_append] | simp [Aa,V.fz,fzL,V.up,upL,Ab,Ac,Ad,slr]) h (fun r h=>Rh h) (fun r2 h=> ?_)
 conv=>whnf
 refine Br.od h (fun p3 h=> ?_) (fun p3 h=> ?_)
 ·conv=>whnf
  cases h;exact (by first | rfl | simp only [Ah,Aa,V.fz,fzL,V.up,upL,Ab,Ac,Ad,slr] | simp [Ah,Aa,V.fz,fzL,V.up,upL,Ab,Ac,Ad,slr])
 conv=>whnf
 refine Len.map ?_
 conv=>whnf
 refine Br.od h (fun p4 h=> ?_) (fun p4 h=> ?_)
 ·conv=>whnf
  refine Len.map ?_
  conv=>whnf
  refine Ask.o h fun p5 h=> ?_
  conv=>whnf
  refine Len.map ?_
  conv=>whnf
  refine Ask.o h fun p6 h=> ?_
  conv=>whnf
  refine Cells.one (fun _=>⟨rfl,rfl⟩) (by first | omega | (simp [Ba] at * <;> omega)) ?_
  conv=>whnf
  refine Ask.o h fun p7 h=> ?_
  conv=>whnf
  refine Ask.o h fun p8 h=> ?_
  conv=>whnf
  refine MkQ.o Af ((0:Int)) rfl ?_
  conv=>whnf
  refine LoopQ.o [9,8,7,6,3,2] (Hy a0 e0 r1 r2) (Md a0 e0 r1 r2) h (fun s o h=>Ue s o h) (by first | rfl | simp [restrict,look,Aa,V.fz,fzL,V.up,upL,Ab,Ac,Ad,slr]) (by rintro (_ | _)<;>rfl) ?_
  rintro (q21_4 | ⟨⟩) h
  ·try dsimp only at h
   conv=>whnf
   cases h;exact (by first | rfl | simp only [Ah,Aa,V.fz,fzL,V.up,upL,Ab,Ac,Ad,slr] | simp [Ah,Aa,V.fz,fzL,V.up,upL,Ab,Ac,Ad,slr])
  try dsimp only at h
  conv=>whnf
  cases h;exact (by first | rfl | simp only [Ah,Aa,V.fz,fzL,V.up,upL,Ab,Ac,Ad,slr] | simp [Ah,Aa,V.fz,fzL,V.up,upL,Ab,Ac,Ad,slr])
 conv=>whnf
 refine LoopQ.o [9,8,7,6,3,2] (Gf a0 e0 r1 r2) (J6 a0 e0 r1 r2) h (fun s o h=>R7 s o h) (by first | rfl | simp [restrict,look,Aa,V.fz,fzL,V.up,upL,Ab,Ac,Ad,slr]) (by rintro (_ | _)<;>rfl) ?_
 rintro (⟨⟩ | ⟨⟩) h
 ·try dsimp only at h
  conv=>whnf
  cases h;exact (by first | rfl | simp only [Ah,Aa,V.fz,fzL,V.up,upL,Ab,Ac,Ad,slr] | simp [Ah,Aa,V.fz,fzL,V.up,upL,Ab,Ac,Ad,slr])
 try dsimp only at h
 conv=>whnf
 cases h;exact (by first | rfl | simp only [Ah,Aa,V.fz,fzL,V.up,upL,Ab,Ac,Ad,slr] | simp [Ah,Aa,V.fz,fzL,V.up,upL,Ab,Ac,Ad,slr])
noncomputable def D0 (a0:SAlgebra):Int→Option (Int ⊕ (Unit ⊕ Unit)):=fun x3=>
 if x3<(↑a0.Ops.length:Int) then
 ask ((0:Int)≤x3∧x3<(↑a0.Ops.length:Int)) <|
 (Lk (a0.Size) (nth a0.Ops x3.toNat)).bind fun r7=>
 if (r7)=true then
 ask (InI (x3+(1:Int))) <|
 some (.inl (x3+(1:Int)))
 else
 some (.inr (.inl ()))
 else
 some (.inr (.inr ()))
def Kg (a0:SAlgebra):Int→St:=fun s=>[(3,A.val (Af s)),(1,A.val ((rP true (Ag false)) (a0)))]
def Qg (_a0:SAlgebra):(Unit ⊕ Unit)→Tgt
 | (.inl _s)=>(Ex.ret,[2],[(2,A.val (V.bool (false)))])
 | (.inr _s)=>((Ex.exit 0),[],[])
theorem Ys {a0:SAlgebra} (x3:Int) (o:Int ⊕ (Unit ⊕ Unit)) (h:D0 a0 x3=some o):vc Try.prog P4 (Eu [3,1] (Kg a0) (Qg a0) o) (Kg a0 x3):=by
 unfold D0 at h
 try dsimp only at h
 conv=>whnf
 refine Cells.lit rfl rfl ?_
 conv=>whnf
 refine Len.map ?_
 conv=>whnf
 refine Br.od h (fun p5 h=> ?_) (fun p5 h=> ?_)
 ·conv=>whnf
  refine Cells.lit rfl rfl ?_
  conv=>whnf
  refine Cells.lit rfl rfl ?_
  conv=>whnf
  refine Len.map ?_
  conv=>whnf
  refine Ask.o h fun p6 h=> ?_
  conv=>whnf
  refine Elem.o (by first | omega | (simp [Ba] at * <;> omega)) ?_
  conv=>whnf
  refine CallQ.o V.bool (by first | rfl | simp only [Aa,V.fz,fzL,V.up,upL,Ab,Ac,Ad,slr,List.cons_append,List.nil_append] | simp [Aa,V.fz,fzL,V.up,upL,Ab,Ac,Ad,slr]) h (fun r h=>Aj8 h) (fun r7 h=> ?_)
  conv=>whnf
  refine Br.flip ?_
  conv=>whnf
  refine Br.ob h (fun p8 h=> ?_) (fun p8 h=> ?_)
  ·conv=>whnf
   refine Ask.o h fun p9 h=> ?_
   conv=>whnf
   cases h;exact ⟨rfl,rfl⟩
  conv=>whnf
  cases h;exact ⟨rfl,rfl⟩
 conv=>whnf
 cases h;exact ⟨rfl,rfl⟩
noncomputable def Di (a0:SAlgebra):Option Bool:=
 (((Ds (a0.Size) ((1:Int)) ((8:Int))).bind fun r1=>
 if (r1)=true then
 if (↑a0.Ops.length:Int)>(4:Int) then
 some (.inl ())
 else
 some (.inr ())
 else
 some (.inl ()):Option (Unit ⊕ Unit))).bind fun t=>match t with
 | (.inl _)=>(some false)
 | (.inr _)=>((Ay (D0 a0) (0:Int)).bind fun t=>match t with
 | (.inl _)=>(some false)
 | (.inr _)=>(some true))
theorem D9 {a0:SAlgebra} {v:Bool} (h:Di a0=some v):Ret Try.prog Es [(Ag false) a0] (V.bool v):=by
 refine Bp Aeo (Nat.le_of_ble_eq_true rfl) ?_
 unfold Di at h
 conv=>whnf
 refine CutQ.o (fun t:(Unit ⊕ Unit)=>match t with | (.inl s)=>(Ex.ret,[2],[(2,A.val (V.bool (false)))]) | (.inr s)=>(Ex.normal,[1],[(1,A.val ((rP true (Ag false)) (a0)))])) h ?_ ?_
 ·intro t h
  conv=>whnf
  refine Cells.lit rfl rfl ?_
  conv=>whnf
  refine CallQ.o V.bool (by first | rfl | simp only [Aa,V.fz,fzL,V.up,upL,Ab,Ac,Ad,slr,List.cons_append,List.nil_append] | simp [Aa,V.fz,fzL,V.up,upL,Ab,Ac,Ad,slr]) h (fun r h=>Lj h) (fun r1 h=> ?_)
  conv=>whnf
  refine Br.flip ?_
  conv=>whnf
  refine Br.ob h (fun p2 h=> ?_) (fun p2 h=> ?_)
  ·conv=>whnf
   refine Br.no ?_
   conv=>whnf
   refine Cells.lit rfl rfl ?_
   conv=>whnf
   refine Br.no ?_
   conv=>whnf
   refine Len.map ?_
   conv=>whnf
   refine Br.no ?_
   conv=>whnf
   refine Br.no ?_
   conv=>whnf
   refine Br.od h (fun p3 h=> ?_) (fun p3 h=> ?_)
   ·conv=>whnf
    cases h;exact ⟨rfl,rfl⟩
   conv=>whnf
   cases h;exact ⟨rfl,rfl⟩
  conv=>whnf
  refine Br.yes ?_
  conv=>whnf
  refine Br.yes ?_
  conv=>whnf
  refine Br.yes ?_
  conv=>whnf
  refine Br.yes ?_
  conv=>whnf
  refine Br.yes ?_
  conv=>whnf
  cases h;exact ⟨rfl,rfl⟩
 rintro (⟨⟩ | ⟨⟩) h
 ·try dsimp only at h
  conv=>whnf
  cases h;exact (by first | rfl | simp only [Ah,Aa,V.fz,fzL,V.up,upL,Ab,Ac,Ad,slr] | simp [Ah,Aa,V.fz,fzL,V.up,upL,Ab,Ac,Ad,slr])
 try dsimp only at h
 conv=>whnf
 refine LoopQ.o [3,1] (Kg a0) (Qg a0) h (fun s o h=>Ys s o h) (by first | rfl | simp [restrict,look,Aa,V.fz,fzL,V.up,upL,Ab,Ac,Ad,slr]) (by rintro (_ | _)<;>rfl) ?_
 rintro (⟨⟩ | ⟨⟩) h
 ·try dsimp only at h
  conv=>whnf
  cases h;exact (by first | rfl | simp only [Ah,Aa,V.fz,fzL,V.up,upL,Ab,Ac,Ad,slr] | simp [Ah,Aa,V.fz,fzL,V.up,upL,Ab,Ac,Ad,slr])
 try dsimp only at h
 conv=>whnf
 cases h;exact (by first | rfl | simp only [Ah,Aa,V.fz,fzL,V.up,upL,Ab,Ac,Ad,slr] | simp [Ah,Aa,V.fz,fzL,V.up,upL,Ab,Ac,Ad,slr])
noncomputable def Jc (t0:List Int):(Int×(List Int))→Option ((Int×(List Int)) ⊕ (List Int)):=fun (x4,x3)=>
 if x4<(↑t0.length:Int) then
 ask ((0:Int)≤x4∧x4<(↑t0.length:Int)) <|
 if nth t0 x4.toNat≥(0:Int) then
 ask ((0:Int)≤x4∧x4<(↑t0.length:Int)) <|
 (Hj (x3) (nth t0 x4.toNat)).bind fun r5=>
 ask (InI (x4+(1:Int))) <|
 some (.inl (x4+(1:Int),r5))
 else
 ask (InI (x4+(1:Int))) <|
 some (.inl (x4+(1:Int),x3))
 else
 some (.inr x3)
def Ja (t0:List Int):(Int×(List Int))→St:=fun s=>[(4,A.val (Af s.1)),(3,A.val ((slr false 1 Af) s.2)),(0,A.ref 24 []),(24,A.val ((slr true 1 Af) (t0)))]
def Of (_t0:List Int):(List Int)→Tgt
 | s=>((Ex.exit 0),[3],[(3,A.val ((slr false 1 Af) s))])
theorem Wl {t0:List Int} (s:(Int×(List Int))) (o:(Int×(List Int)) ⊕ (List Int)) (h:Jc t0 s=some o):vc Try.prog Kq (Eu [4,3,0,24] (Ja t0) (Of t0) o) (Ja t0 s):=by
 obtain ⟨x4,x3⟩:=s
 unfold Jc at h
 try dsimp only at h
 conv=>whnf
 refine Len.map ?_
 conv=>whnf
 refine Br.od h (fun p1 h=> ?_) (fun p1 h=> ?_)
 ·conv=>whnf
  refine Len.map ?_
  conv=>whnf
  refine Ask.o h fun p2 h=> ?_
  conv=>whnf
  refine Cells.one (fun _=>⟨rfl,rfl⟩) (by first | omega | (simp [Ba] at * <;> omega)) ?_
  conv=>whnf
  refine Br.od h (fun p3 h=> ?_) (fun p3 h=> ?_)
  ·conv=>whnf
   refine Len.map ?_
   conv=>whnf
   refine Ask.o h fun p4 h=> ?_
   conv=>whnf
   refine Cells.one (fun _=>⟨rfl,rfl⟩) (by first | omega | (simp [Ba] at * <;> omega)) ?_
   conv=>whnf
   refine CallQ.o (slr false 1 Af) (by first | rfl | simp only [Aa,V.fz,fzL,V.up,upL,Ab,Ac,Ad,slr,List.cons_append,List.nil_append] | simp [Aa,V.fz,fzL,V.up,upL,Ab,Ac,Ad,slr]) h (fun r h=>Wu h) (fun r5 h=> ?_)
   conv=>whnf
   refine Ask.o h fun p6 h=> ?_
   conv=>whnf
   cases h;exact ⟨rfl,rfl⟩
  conv=>whnf
  refine Ask.o h fun p7 h=> ?_
  conv=>whnf
  cases h;exact ⟨rfl,rfl⟩
 conv=>whnf
 cases h;exact ⟨rfl,rfl⟩
noncomputable def E4 (t0:(List Int)):Option (List Int):=
 (Ay (Jc t0) ((0:Int),A8 Int)).bind fun q8_3=>
 some q8_3
theorem Sr {t0:(List Int)} {v:(List Int)} (h:E4 t0=some v):Nj Try.prog Tg [(slr true 1 Af) t0] ((slr false 1 Af) v) 0 V.dead:=by
 refine Arz Acm (Nat.le_of_ble_eq_true rfl) ?_
 unfold E4 at h
 conv=>whnf
 refine BslQ.o Af (A8 Int) (by exact fun _=>⟨rfl,rfl⟩) (by first | rfl | (simp only [Aa,V.fz,fzL,V.up,upL,Ab,Ac,Ad,slr,List.cons_append,List.nil_append];done) | simp [Aa,V.fz,fzL,V.up,upL,Ab,Ac,Ad,slr]) ?_
 conv=>whnf
 refine LoopQ.o [4,3,0,24] (Ja t0) (Of t0) h (fun s o h=>Wl s o h) (by first | rfl | simp [restrict,look,Aa,V.fz,fzL,V.up,upL,Ab,Ac,Ad,slr]) (fun _=>rfl) ?_
 rintro q8_3 h
 try dsimp only at h
 conv=>whnf
 cases h;exact ⟨(by first | rfl | simp only [Ah,Aa,V.fz,fzL,V.up,upL,Ab,Ac,Ad,slr] | simp [Ah,Aa,V.fz,fzL,V.up,upL,Ab,Ac,Ad,slr]),(by first | rfl | simp only [Ah,Aa,V.fz,fzL,V.up,upL,Ab,Ac,Ad,slr] | simp [Ah,Aa,V.fz,fzL,V.up,upL,Ab,Ac,Ad,slr])⟩
noncomputable def Cj (_a0:SAlgebra) (_e0:SIdentity) (r2:List Int):(List Int)→Option ((List Int) ⊕ (List Int)):=fun x7=>
 if (↑r2.length:Int)>(0:Int) then
 ask (InI ((↑r2.length:Int)-(1:Int))) <|
 ask ((0:Int)≤(↑r2.length:Int)-(1:Int)∧(↑r2.length:Int)-(1:Int)<(↑r2.length:Int)) <|
 if (↑x7.length:Int)≤nth r2 ((↑r2.length:Int)-(1:Int)).toNat then
 ask ((x7).length+([(0:Int)]).length≤LIM) <|
 some (.inl (x7++[(0:Int)]))
 else
 some (.inr x7)
 else
 some (.inr x7)
def Hr (a0:SAlgebra) (e0:SIdentity) (r2:List Int):(List Int)→St:=fun s=>[(7,A.val ((slr true 1 Af) s)),(6,A.val ((slr false 1 Af) (r2))),(3,A.val ((rP true (Ak false)) (e0))),(2,A.val ((rP true (Ag false)) (a0)))]
def Mc (a0:SAlgebra) (e0:SIdentity) (r2:List Int):(List Int)→Tgt
 | s=>((Ex.exit 0),[7,6,3,2],[(7,A.val ((slr true 1 Af) s)),(6,A.val ((slr false 1 Af) (r2))),(3,A.val ((rP true (Ak false)) (e0))),(2,A.val ((rP true (Ag false)) (a0)))])
theorem T7 {a0:SAlgebra} {e0:SIdentity} {r2:List Int} (x7:(List Int)) (o:(List Int) ⊕ (List Int)) (h:Cj a0 e0 r2 x7=some o):vc Try.prog Mb (Eu [7,6,3,2] (Hr a0 e0 r2) (Mc a0 e0 r2) o) (Hr a0 e0 r2 x7):=by
 unfold Cj at h
 try dsimp only at h
 conv=>whnf
 refine Len.map ?_
 conv=>whnf
 refine Br.od h (fun p3 h=> ?_) (fun p3 h=> ?_)
 ·conv=>whnf
  refine Br.yes ?_
  conv=>whnf
  refine Len.map ?_
  conv=>whnf
  refine Br.yes ?_
  conv=>whnf
  refine Br.yes ?_
  conv=>whnf
  refine Br.yes ?_
  conv=>whnf
  refine Len.map ?_
  conv=>whnf
  refine Br.yes ?_
  conv=>whnf
  refine Ask.o h fun p4 h=> ?_
  conv=>whnf
  refine Br.yes ?_
  conv=>whnf
  refine Len.map ?_
  conv=>whnf
  refine Ask.o h fun p5 h=> ?_
  conv=>whnf
  refine Elem.o (by first | omega | (simp [Ba] at * <;> omega)) ?_
  conv=>whnf
  refine Br.yes ?_
  conv=>whnf
  refine Br.yes ?_
  conv=>whnf
  refine Br.yes ?_
  conv=>whnf
  refine Br.od h (fun p6 h=> ?_) (fun p6 h=> ?_)
  ·conv=>whnf
   refine BslQ.o Af ([(0:Int)]) (by exact fun _=>⟨rfl,rfl⟩) (by first | rfl | (simp only [Aa,V.fz,fzL,V.up,upL,Ab,Ac,Ad,slr,List.cons_append,List.nil_append];done) | simp [Aa,V.fz,fzL,V.up,upL,Ab,Ac,Ad,slr]) ?_
   conv=>whnf
   refine NoOwn.o (fun _=>rfl) ?_
   conv=>whnf
   refine AppQ.o (m:=1) Af (by exact fun _=>⟨rfl,rfl⟩) (x7) ([(0:Int)]) (by first | rfl | simp only [Aa,V.fz,fzL,V.up,upL,Ab,Ac,Ad,slr,List.cons_append,List.nil_append] | simp [Aa,V.fz,fzL,V.up,upL,Ab,Ac,Ad,slr]) (by first | rfl | simp only [Aa,V.fz,fzL,V.up,upL,Ab,Ac,Ad,slr,List.cons_append,List.nil_append] | simp [Aa,V.fz,fzL,V.up,upL,Ab,Ac,Ad,slr]) h fun h=> ?_
   conv=>whnf
   cases h;exact ⟨rfl,rfl⟩
  conv=>whnf
  cases h;exact ⟨rfl,rfl⟩
 conv=>whnf
 refine Br.no ?_
 conv=>whnf
 refine Br.no ?_
 conv=>whnf
 refine Br.no ?_
 conv=>whnf
 refine Br.no ?_
 conv=>whnf
 refine Br.no ?_
 conv=>whnf
 refine Br.no ?_
 conv=>whnf
 refine Br.no ?_
 conv=>whnf
 refine Br.no ?_
 conv=>whnf
 refine Br.no ?_
 conv=>whnf
 refine Br.no ?_
 conv=>whnf
 cases h;exact ⟨rfl,rfl⟩
noncomputable def C0 (_a0:SAlgebra) (_e0:SIdentity) (r2:List Int) (_x8:Int) (r10:List Int):(Int×(List Int))→Option ((Int×(List Int)) ⊕ (List Int)):=fun (x10,x7')=>
 if x10<(↑r2.length:Int) then
 ask ((0:Int)≤x10∧x10<(↑r2.length:Int)) <|
 ask ((0:Int)≤x10∧x10<(↑r10.length:Int)) <|
 ask ((0:Int)≤nth r2 x10.toNat∧nth r2 x10.toNat<(↑x7'.length:Int)) <|
 ask (InI (x10+(1:Int))) <|
 some (.inl (x10+(1:Int),x7'.set (nth r2 x10.toNat).toNat (nth r10 x10.toNat)))
 else
 some (.inr x7')
def Hz (a0:SAlgebra) (e0:SIdentity) (r2:List Int) (x8:Int) (r10:List Int):(Int×(List Int))→St:=fun s=>[(10,A.val (Af s.1)),(9,A.val ((slr true 1 Af) (r10))),(8,A.val (Af (x8))),(7,A.val ((slr true 1 Af) s.2)),(6,A.val ((slr false 1 Af) (r2))),(3,A.val ((rP true (Ak false)) (e0))),(2,A.val ((rP true (Ag false)) (a0)))]
def Me (a0:SAlgebra) (e0:SIdentity) (r2:List Int) (x8:Int) (_r10:List Int):(List Int)→Tgt
 | s=>((Ex.exit 4),[8,7,6,3,2],[(8,A.val (Af (x8))),(7,A.val ((slr true 1 Af) s)),(6,A.val ((slr false 1 Af) (r2))),(3,A.val ((rP true (Ak false)) (e0))),(2,A.val ((rP true (Ag false)) (a0)))])
theorem Up {a0:SAlgebra} {e0:SIdentity} {r2:List Int} {x8:Int} {r10:List Int} (s:(Int×(List Int))) (o:(Int×(List Int)) ⊕ (List Int)) (h:C0 a0 e0 r2 x8 r10 s=some o):vc Try.prog Mf (Eu [10,9,8,7,6,3,2] (Hz a0 e0 r2 x8 r10) (Me a0 e0 r2 x8 r10) o) (Hz a0 e0 r2 x8 r10 s):=by
 obtain ⟨x10,x7'⟩:=s
 unfold C0 at h
 try dsimp only at h
 conv=>whnf
 refine Len.map ?_
 conv=>whnf
 refine Br.od h (fun p11 h=> ?_) (fun p11 h=> ?_)
 ·conv=>whnf
  refine Len.map ?_
  conv=>whnf
  refine Ask.o h fun p12 h=> ?_
  conv=>whnf
  refine Elem.o (by first | omega | (simp [Ba] at * <;> omega)) ?_
  conv=>whnf
  refine Len.map ?_
  conv=>whnf
  refine Ask.o h fun p13 h=> ?_
  conv=>whnf
  refine Cells.one (fun _=>⟨rfl,rfl⟩) (by first | omega | (simp [Ba] at * <;> omega)) ?_
  conv=>whnf
  refine Len.map ?_
  conv=>whnf
  refine Ask.o h fun p14 h=> ?_
  conv=>whnf
  refine SetKids.one (fun _=>⟨rfl,rfl⟩) (nth r10 x10.toNat) (by first | rfl | simp only [Aa,V.fz,fzL,V.up,upL,Ab,Ac,Ad,slr,List.cons_append,List.nil_append] | simp [Aa,V.fz,fzL,V.up,upL,Ab,Ac,Ad,slr]) (by first | omega | (simp [Ba] at * <;> omega)) ?_
  conv=>whnf
  refine Ask.o h fun p15 h=> ?_
  conv=>whnf
  cases h;exact ⟨rfl,rfl⟩
 conv=>whnf
 cases h;exact ⟨rfl,rfl⟩
noncomputable def Bw (a0:SAlgebra) (e0:SIdentity) (r2:List Int):(Int×(List Int))→Option ((Int×(List Int)) ⊕ ((List Int) ⊕ Unit)):=fun (x8,x7)=>
 (Cb (a0.Size) ((↑r2.length:Int))).bind fun r8=>
 if x8<r8 then
 (Co (a0.Size) ((↑r2.length:Int)) (x8)).bind fun r10=>
 (Ay (C0 a0 e0 r2 x8 r10) ((0:Int),x7)).bind fun q16_7=>
 (E3 (a0) (e0.Left) (q16_7)).bind fun r17=>
 (E3 (a0) (e0.Right) (q16_7)).bind fun r18=>
 if r17≠r18 then
 some (.inr (.inl q16_7))
 else
 ask (InI (x8+(1:Int))) <|
 some (.inl (x8+(1:Int),q16_7))
 else
 some (.inr (.inr ()))
def Ht (a0:SAlgebra) (e0:SIdentity) (r2:List Int):(Int×(List Int))→St:=fun s=>[(8,A.val (Af s.1)),(7,A.val ((slr true 1 Af) s.2)),(6,A.val ((slr false 1 Af) (r2))),(3,A.val ((rP true (Ak false)) (e0))),(2,A.val ((rP true (Ag false)) (a0)))]
def Mi (_a0:SAlgebra) (_e0:SIdentity) (_r2:List Int):((List Int) ⊕ Unit)→Tgt
 | (.inl s)=>(Ex.ret,[5,4],[(5,A.val (V.bool (true))),(4,A.val ((slr true 1 Af) s))])
 | (.inr _s)=>((Ex.exit 2),[],[])
theorem Uq {a0:SAlgebra} {e0:SIdentity} {r2:List Int} (s:(Int×(List Int))) (o:(Int×(List Int)) ⊕ ((List Int) ⊕ Unit)) (h:Bw a0 e0 r2 s=some o):vc Try.prog L4 (Eu [8,7,6,3,2] (Ht a0 e0 r2) (Mi a0 e0 r2) o) (Ht a0 e0 r2 s):=by
 obtain ⟨x8,x7⟩:=s
 unfold Bw at h
 try dsimp only at h
 conv=>whnf
 refine Cells.lit rfl rfl ?_
 conv=>whnf
 refine Len.map ?_
 conv=>whnf
 refine CallQ.o Af (by first | rfl | simp only [Aa,V.fz,fzL,V.up,upL,Ab,Ac,Ad,slr,List.cons_append,List.nil_append] | simp [Aa,V.fz,fzL,V.up,upL,Ab,Ac,Ad,slr]) h (fun r h=>Mk h) (fun r8 h=> ?_)
 conv=>whnf
 refine Br.od h (fun p9 h=> ?_) (fun p9 h=> ?_)
 ·conv=>whnf
  refine Cells.lit rfl rfl ?_
  conv=>whnf
  refine Len.map ?_
  conv=>whnf
  refine CallQ.o (slr true 1 Af) (by first | rfl | simp only [Aa,V.fz,fzL,V.up,upL,Ab,Ac,Ad,slr,List.cons_append,List.nil_append] | simp [Aa,V.fz,fzL,V.up,upL,Ab,Ac,Ad,slr]) h (fun r h=>U9 h) (fun r10 h=> ?_)
  conv=>whnf
  refine LoopQ.o [10,9,8,7,6,3,2] (Hz a0 e0 r2 x8 r10) (Me a0 e0 r2 x8 r10) h (fun s o h=>Up s o h) (by first | rfl | simp [restrict,look,Aa,V.fz,fzL,V.up,upL,Ab,Ac,Ad,slr]) (fun _=>rfl) ?_
  rintro q16_7 h
  try dsimp only at h
  conv=>whnf
  refine Cells.lit rfl rfl ?_
  conv=>whnf
  refine Cells.lit rfl rfl ?_
  conv=>whnf
  refine CallP.rd Af (by first | rfl | simp only [V.fz,fzL,Ab,slr] | simp [Aa,V.fz,fzL,V.up,upL,Ab,Ac,Ad,slr]) (fun _=>rfl) h (fun r h=>Nm h) (fun r17 h=> ?_)
  conv=>whnf
  refine Cells.lit rfl rfl ?_
  conv=>whnf
  refine Cells.lit rfl rfl ?_
  conv=>whnf
  refine CallQ.rd Af (by first | rfl | simp only [V.fz,fzL,Ab,slr] | simp [Aa,V.fz,fzL,V.up,upL,Ab,Ac,Ad,slr]) (fun _=>rfl) h (fun r h=>Nm h) (fun r18 h=> ?_)
  conv=>whnf
  refine Br.on h (fun p19 h=> ?_) (fun p19 h=> ?_)
  ·conv=>whnf
   cases h;exact ⟨rfl,rfl⟩
  conv=>whnf
  refine Ask.o h fun p20 h=> ?_
  conv=>whnf
  cases h;exact ⟨rfl,rfl⟩
 conv=>whnf
 cases h;exact ⟨rfl,rfl⟩
noncomputable def De (a0:SAlgebra) (e0:SIdentity):Option ((List Int)×Bool):=
 (F6 (e0.Left)).bind fun r1=>
 ask ((r1).length+(e0.Right).length≤LIM) <|
 (E4 (r1++e0.Right)).bind fun r2=>
 (Ay (Cj a0 e0 r2) (A8 Int)).bind fun q7_7=>
 (Ay (Bw a0 e0 r2) ((0:Int),q7_7)).bind fun t=>match t with
 | (.inl q21_4)=>(some (q21_4,true))
 | (.inr _)=>(some (A8 Int,false))
theorem P3 {a0:SAlgebra} {e0:SIdentity} {v:((List Int)×Bool)} (h:De a0 e0=some v):Ret Try.prog Hd [(Ag false) a0,(Ak false) e0] ((fun r=>V.tup [(slr true 1 Af) r.1,V.bool r.2]) v):=by
 refine Bp Y3 (Nat.le_of_ble_eq_true rfl) ?_
 unfold De at h
 conv=>whnf
 refine Cells.lit rfl rfl ?_
 conv=>whnf
 refine CallP.o (slr true 1 Af) (by first | rfl | simp only [Aa,V.fz,fzL,V.up,upL,Ab,Ac,Ad,slr,List.cons_append,List.nil_append] | simp [Aa,V.fz,fzL,V.up,upL,Ab,Ac,Ad,slr]) h (fun r h=>Q8 h) (fun r1 h=> ?_)
 conv=>whnf
 refine Cells.lit rfl rfl ?_
 conv=>whnf
 refine AppQ.o (m:=1) Af (by exact fun _=>⟨rfl,rfl⟩) (r1) (e0.Right) (by first | rfl | simp only [Aa,V.fz,fzL,V.up,upL,Ab,Ac,Ad,slr,List.cons_append,List.nil_append] | simp [Aa,V.fz,fzL,V.up,upL,Ab,Ac,Ad,slr]) (by first | rfl | simp only [Aa,V.fz,fzL,V.up,upL,Ab,Ac,Ad,slr,List.cons_append,List.nil_append] | simp [Aa,V.fz,fzL,V.up,upL,Ab,Ac,Ad,slr]) h fun h=> ?_
 conv=>whnf
 refine CallQ.give (slr false 1 Af) (by first | rfl | simp only [Aa,V.fz,fzL,V.up,upL,Ab,Ac,Ad,slr,List.cons_append,List.nil_append] | simp [Aa,V.fz,fzL,V.up,upL,Ab,Ac,Ad,slr]) rfl (fun _=>rfl) rfl h (fun r h=>Sr h) (fun r2 h=> ?_)
 conv=>whnf
 refine BslQ.o Af (A8 Int) (by exact fun _=>⟨rfl,rfl⟩) (by first | rfl | (simp only [Aa,V.fz,fzL,V.up,upL,Ab,Ac,Ad,slr,List.cons_append,List.nil_append];done) | simp [Aa,V.fz,fzL,V.up,upL,Ab,Ac,Ad,slr]) ?_
 conv=>whnf
 refine LoopQ.o [7,6,3,2] (Hr a0 e0 r2) (Mc a0 e0 r2) h (fun s o h=>T7 s o h) (by first | rfl | simp [restrict,look,Aa,V.fz,fzL,V.up,upL,Ab,Ac,Ad,slr]) (fun _=>rfl) ?_
 rintro q7_7 h
 try dsimp only at h
 conv=>whnf
 refine LoopQ.o [8,7,6,3,2] (Ht a0 e0 r2) (Mi a0 e0 r2) h (fun s o h=>Uq s o h) (by first | rfl | simp [restrict,look,Aa,V.fz,fzL,V.up,upL,Ab,Ac,Ad,slr]) (by rintro (_ | _)<;>rfl) ?_
 rintro (q21_4 | ⟨⟩) h
 ·try dsimp only at h
  conv=>whnf
  cases h;exact (by first | rfl | simp only [Ah,Aa,V.fz,fzL,V.up,upL,Ab,Ac,Ad,slr] | simp [Ah,Aa,V.fz,fzL,V.up,upL,Ab,Ac,Ad,slr])
 try dsimp only at h
 conv=>whnf
 refine BslQ.o Af (A8 Int) (by exact fun _=>⟨rfl,rfl⟩) (by first | rfl | (simp only [Aa,V.fz,fzL,V.up,upL,Ab,Ac,Ad,slr,List.cons_append,List.nil_append];done) | simp [Aa,V.fz,fzL,V.up,upL,Ab,Ac,Ad,slr]) ?_
 conv=>whnf
 cases h;exact (by first | rfl | simp only [Ah,Aa,V.fz,fzL,V.up,upL,Ab,Ac,Ad,slr] | simp [Ah,Aa,V.fz,fzL,V.up,upL,Ab,Ac,Ad,slr])
end Go.Proofs.Ytmcbocbcpijgeaa.Ax
