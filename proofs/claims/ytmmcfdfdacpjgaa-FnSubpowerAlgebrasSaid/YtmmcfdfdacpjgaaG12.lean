/-
 What the functions compute, as functions on plain data, and that the program does compute it; written by program.
-/
import Derived.Test.YtmmcfdfdacpjgaaCode
import Derived.Test.YtmmcfdfdacpjgaaG1
import Derived.Test.YtmmcfdfdacpjgaaG2
import Derived.Test.YtmmcfdfdacpjgaaG4
import Derived.Test.YtmmcfdfdacpjgaaG5
import Derived.Test.YtmmcfdfdacpjgaaG6
import Derived.Test.YtmmcfdfdacpjgaaG8
import Derived.Test.YtmmcfdfdacpjgaaG11
namespace Go.Proofs.Ytmmcfdfdacpjgaa.Ax
open Go
set_option maxRecDepth 100000
set_option maxHeartbeats 4000000
noncomputable def De (a0:SAlgebra) (r1:Int) (_x10:Int) (_x9:List (List Int)):(Int×(List Int)×Sl1Cur)→Option ((Int×(List Int)×Sl1Cur) ⊕ ((List Int)×Sl1Cur)):=fun (x12,x11,x100')=>
 if x12<r1 then
 (Cf (x100') (a0)).bind fun (r8,u9)=>
 ask ((x11).length+([r8]).length≤LIM) <|
 ask (InI (x12+(1:Int))) <|
 some (.inl (x12+(1:Int),x11++[r8],u9))
 else
 some (.inr (x11,x100'))
def Je (a0:SAlgebra) (r1:Int) (x10:Int) (x9:List (List Int)):(Int×(List Int)×Sl1Cur)→St:=fun s=>[(12,A.val (Ae s.1)),(11,A.val (slr true 1 Ae s.2.1)),(10,A.val (Ae x10)),(9,A.val (slr true 1 (slr true 1 Ae) x9)),(8,A.val (Ae r1)),(4,A.val (rP true (Af false) a0)),(0,A.ref 100 []),(100,A.val (rP true (Aj false) s.2.2))]
def Nh (a0:SAlgebra) (r1:Int) (x10:Int) (x9:List (List Int)):((List Int)×Sl1Cur)→Tgt
 | s=>((Ex.exit 2),[11,10,9,8,4,0,100],[(11,A.val (slr true 1 Ae s.1)),(10,A.val (Ae x10)),(9,A.val (slr true 1 (slr true 1 Ae) x9)),(8,A.val (Ae r1)),(4,A.val (rP true (Af false) a0)),(0,A.ref 100 []),(100,A.val (rP true (Aj false) s.2))])
theorem X1 {a0} {r1} {x10} {x9} (s) o (h:De a0 r1 x10 x9 s=some o):vc Try.prog Nr (Co [12,11,10,9,8,4,0,100] (Je a0 r1 x10 x9) (Nh a0 r1 x10 x9) o) (Je a0 r1 x10 x9 s):=by
 obtain ⟨x12,x11,x100'⟩:=s
 unfold De at h
 try dsimp only at h
 conv=>whnf
 refine Br.od h (fun p7 h=> ?_) (fun p7 h=> ?_)
 ·conv=>whnf
  refine Cells.lit rfl rfl ?_
  conv=>whnf
  refine CallQ.io Ae (rP true (Aj false)) (by rfl) rfl (fun _=>rfl) (fun _=>⟨rfl,rfl⟩) rfl h (fun r h=>Hc h) (fun r8 u9 h=> ?_)
  conv=>whnf
  refine BslQ.o Ae [r8] (by exact fun _=>⟨rfl,rfl⟩) (by rfl) ?_
  conv=>whnf
  refine NoOwn.o (fun _=>rfl) ?_
  conv=>whnf
  refine AppQ.o (m:=1) Ae (by exact fun _=>⟨rfl,rfl⟩) (x11) ([r8]) (by rfl) (by rfl) h fun h=> ?_
  conv=>whnf
  refine Ask.o h fun p10 h=> ?_
  conv=>whnf
  cases h;exact ⟨rfl,rfl⟩
 conv=>whnf
 cases h;exact ⟨rfl,rfl⟩
noncomputable def Dd (a0:SAlgebra) (r1:Int):(Int×(List (List Int))×Sl1Cur)→Option ((Int×(List (List Int))×Sl1Cur) ⊕ ((List (List Int))×Sl1Cur)):=fun (x10,x9,x100)=>
 if x10>(0:Int) then
 (Am (De a0 r1 x10 x9) ((0:Int),Ar Int,x100)).bind fun (q11_11,q11_100)=>
 ask ((x9).length+([q11_11]).length≤LIM) <|
 ask (InI (x10-(1:Int))) <|
 some (.inl (x10-(1:Int),x9++[q11_11],q11_100))
 else
 some (.inr (x9,x100))
def Jd (a0:SAlgebra) (r1:Int):(Int×(List (List Int))×Sl1Cur)→St:=fun s=>[(10,A.val (Ae s.1)),(9,A.val (slr true 1 (slr true 1 Ae) s.2.1)),(8,A.val (Ae r1)),(4,A.val (rP true (Af false) a0)),(0,A.ref 100 []),(100,A.val (rP true (Aj false) s.2.2))]
def Nf (a0:SAlgebra) (r1:Int):((List (List Int))×Sl1Cur)→Tgt
 | s=>((Ex.exit 0),[9,8,4,0,100],[(9,A.val (slr true 1 (slr true 1 Ae) s.1)),(8,A.val (Ae r1)),(4,A.val (rP true (Af false) a0)),(0,A.ref 100 []),(100,A.val (rP true (Aj false) s.2))])
theorem Yc {a0} {r1} (s) o (h:Dd a0 r1 s=some o):vc Try.prog Ni (Co [10,9,8,4,0,100] (Jd a0 r1) (Nf a0 r1) o) (Jd a0 r1 s):=by
 obtain ⟨x10,x9,x100⟩:=s
 unfold Dd at h
 try dsimp only at h
 conv=>whnf
 refine Br.od h (fun p6 h=> ?_) (fun p6 h=> ?_)
 ·conv=>whnf
  refine BslQ.o Ae (Ar Int) (by exact fun _=>⟨rfl,rfl⟩) (by rfl) ?_
  conv=>whnf
  refine LoopQ.o [12,11,10,9,8,4,0,100] (Je a0 r1 x10 x9) (Nh a0 r1 x10 x9) h (fun s o h=>X1 s o h) (by rfl) (fun _=>rfl) ?_
  rintro ⟨q11_11,q11_100⟩ h
  try dsimp only at h
  conv=>whnf
  refine BslQ.o (slr true 1 Ae) [q11_11] (by exact fun _=>⟨rfl,rfl⟩) (by rfl) ?_
  conv=>whnf
  refine NoOwn.own rfl ?_
  conv=>whnf
  refine AppQ.o (m:=1) (slr true 1 Ae) (by exact fun _=>⟨rfl,rfl⟩) (x9) ([q11_11]) (by rfl) (by rfl) h fun h=> ?_
  conv=>whnf
  refine Ask.o h fun p12 h=> ?_
  conv=>whnf
  cases h;exact ⟨rfl,rfl⟩
 conv=>whnf
 cases h;exact ⟨rfl,rfl⟩
noncomputable def Dc (a0:SAlgebra) (r1:Int) (x13:Int):(Int×(List (List Int))×Sl1Cur)→Option ((Int×(List (List Int))×Sl1Cur) ⊕ ((List (List Int))×Sl1Cur)):=fun (x14,x9',x100')=>
 if x14<r1 then
 ask ((0:Int)≤x13∧x13<(↑x9'.length:Int)) <|
 (E1 (a0.Size) ((8:Int))).bind fun r22=>
 (A7 (x100') (r22)).bind fun (r23,u24)=>
 ask ((0:Int)≤x14∧x14<(↑(nth x9' x13.toNat).length:Int)) <|
 ask (InI (x14+(1:Int))) <|
 some (.inl (x14+(1:Int),x9'.set x13.toNat ((nth x9' x13.toNat).set x14.toNat r23),u24))
 else
 some (.inr (x9',x100'))
def Jb (a0:SAlgebra) (r1:Int) (x13:Int):(Int×(List (List Int))×Sl1Cur)→St:=fun s=>[(14,A.val (Ae s.1)),(13,A.val (Ae x13)),(9,A.val (slr true 1 (slr true 1 Ae) s.2.1)),(8,A.val (Ae r1)),(4,A.val (rP true (Af false) a0)),(0,A.ref 100 []),(100,A.val (rP true (Aj false) s.2.2))]
def N0 (a0:SAlgebra) (r1:Int) (x13:Int):((List (List Int))×Sl1Cur)→Tgt
 | s=>((Ex.exit 6),[13,9,8,4,0,100],[(13,A.val (Ae x13)),(9,A.val (slr true 1 (slr true 1 Ae) s.1)),(8,A.val (Ae r1)),(4,A.val (rP true (Af false) a0)),(0,A.ref 100 []),(100,A.val (rP true (Aj false) s.2))])
theorem X8 {a0} {r1} {x13} (s) o (h:Dc a0 r1 x13 s=some o):vc Try.prog Nx (Co [14,13,9,8,4,0,100] (Jb a0 r1 x13) (N0 a0 r1 x13) o) (Jb a0 r1 x13 s):=by
 obtain ⟨x14,x9',x100'⟩:=s
 unfold Dc at h
 try dsimp only at h
 conv=>whnf
 refine Br.od h (fun p20 h=> ?_) (fun p20 h=> ?_)
 ·conv=>whnf
  refine Len.map ?_
  conv=>whnf
  refine Ask.o h fun p21 h=> ?_
  conv=>whnf
  refine Cells.one (fun _=>⟨rfl,rfl⟩) (by first | omega | (simp [At] at * <;> omega)) ?_
  conv=>whnf
  refine Cells.lit rfl rfl ?_
  conv=>whnf
  refine CallP.o Ae (by rfl) h (fun r h=>Yx h) (fun r22 h=> ?_)
  conv=>whnf
  refine LendP.io Ae (rP true (Aj false)) (by rfl) (fun _=>rfl) (fun _=>⟨rfl,rfl⟩) (fun _=>rfl) h (fun r h=>Bf h) (fun r23 u24 h=> ?_)
  conv=>whnf
  refine Kid.one (fun _=>⟨rfl,rfl⟩) (by first | omega | (simp [At] at * <;> omega)) ?_
  conv=>whnf
  refine Len.map ?_
  conv=>whnf
  refine Ask.o h fun p25 h=> ?_
  conv=>whnf
  refine Kid.one (fun _=>⟨rfl,rfl⟩) (by first | omega | (simp [At] at * <;> omega)) ?_
  conv=>whnf
  refine SetKids.one (fun _=>⟨rfl,rfl⟩) (r23) (by rfl) (by first | omega | (simp [At] at * <;> omega)) ?_
  conv=>whnf
  refine Kid.one (fun _=>⟨rfl,rfl⟩) (by first | omega | (simp [At] at * <;> omega)) ?_
  conv=>whnf
  refine SetKids.one (fun _=>⟨rfl,rfl⟩) ((nth x9' x13.toNat).set x14.toNat r23) (by rfl) (by first | omega | (simp [At] at * <;> omega)) ?_
  conv=>whnf
  refine Ask.o h fun p26 h=> ?_
  conv=>whnf
  cases h;exact ⟨rfl,rfl⟩
 conv=>whnf
 cases h;exact ⟨rfl,rfl⟩
noncomputable def Cs (a0:SAlgebra) (r1:Int):(Int×(List (List Int))×Sl1Cur)→Option ((Int×(List (List Int))×Sl1Cur) ⊕ ((List (List Int))×Sl1Cur)):=fun (x13,x9,x100)=>
 ((if x13<(↑x9.length:Int) then
 (Bz (x100) ((2:Int))).bind fun (r16,u17)=>
 if (r16)=true then
 some (.inl u17)
 else
 some (.inr u17)
 else
 some (.inr x100):Option (Sl1Cur ⊕ Sl1Cur))).bind fun t=>match t with
 | (.inl q19_100)=>((Am (Dc a0 r1 x13) ((0:Int),x9,q19_100)).bind fun (q27_9,q27_100)=>
 ask (InI (x13+(1:Int))) <|
 some (.inl (x13+(1:Int),q27_9,q27_100)))
 | (.inr q19_100)=>(some (.inr (x9,q19_100)))
def Jj (a0:SAlgebra) (r1:Int):(Int×(List (List Int))×Sl1Cur)→St:=fun s=>[(13,A.val (Ae s.1)),(9,A.val (slr true 1 (slr true 1 Ae) s.2.1)),(8,A.val (Ae r1)),(4,A.val (rP true (Af false) a0)),(0,A.ref 100 []),(100,A.val (rP true (Aj false) s.2.2))]
def N3 (_a0:SAlgebra) (r1:Int):((List (List Int))×Sl1Cur)→Tgt
 | s=>((Ex.exit 4),[9,8,0,100],[(9,A.val (slr true 1 (slr true 1 Ae) s.1)),(8,A.val (Ae r1)),(0,A.ref 100 []),(100,A.val (rP true (Aj false) s.2))])
theorem Yd {a0} {r1} (s) o (h:Cs a0 r1 s=some o):vc Try.prog Ny (Co [13,9,8,4,0,100] (Jj a0 r1) (N3 a0 r1) o) (Jj a0 r1 s):=by
 obtain ⟨x13,x9,x100⟩:=s
 unfold Cs at h
 try dsimp only at h
 conv=>whnf
 refine CutQ.o (fun t:(Sl1Cur ⊕ Sl1Cur)=>match t with | (.inl s)=>(Ex.normal,[13,9,8,4,0,100],[(13,A.val (Ae (x13))),(9,A.val ((slr true 1 (slr true 1 Ae)) (x9))),(8,A.val (Ae (r1))),(4,A.val ((rP true (Af false)) (a0))),(0,A.ref 100 []),(100,A.val ((rP true (Aj false)) s))]) | (.inr s)=>((Ex.exit 4),[9,8,0,100],[(9,A.val ((slr true 1 (slr true 1 Ae)) (x9))),(8,A.val (Ae (r1))),(0,A.ref 100 []),(100,A.val ((rP true (Aj false)) s))])) h ?_ ?_
 ·intro t h
  conv=>whnf
  refine Len.map ?_
  conv=>whnf
  refine Br.od h (fun p15 h=> ?_) (fun p15 h=> ?_)
  ·conv=>whnf
   refine Br.yes ?_
   conv=>whnf
   refine CallQ.io V.bool (rP true (Aj false)) (by rfl) rfl (fun _=>rfl) (fun _=>⟨rfl,rfl⟩) rfl h (fun r h=>Et h) (fun r16 u17 h=> ?_)
   conv=>whnf
   refine Br.yes ?_
   conv=>whnf
   refine Br.ob h (fun p18 h=> ?_) (fun p18 h=> ?_)
   ·conv=>whnf
    cases h;exact ⟨rfl,rfl⟩
   conv=>whnf
   cases h;exact ⟨rfl,rfl⟩
  conv=>whnf
  refine Br.no ?_
  conv=>whnf
  refine Br.no ?_
  conv=>whnf
  refine Br.no ?_
  conv=>whnf
  cases h;exact ⟨rfl,rfl⟩
 rintro (q19_100 | q19_100) h
 ·try dsimp only at h
  conv=>whnf
  refine LoopQ.o [14,13,9,8,4,0,100] (Jb a0 r1 x13) (N0 a0 r1 x13) h (fun s o h=>X8 s o h) (by rfl) (fun _=>rfl) ?_
  rintro ⟨q27_9,q27_100⟩ h
  try dsimp only at h
  conv=>whnf
  refine Ask.o h fun p28 h=> ?_
  conv=>whnf
  cases h;exact ⟨rfl,rfl⟩
 try dsimp only at h
 conv=>whnf
 cases h;exact ⟨rfl,rfl⟩
noncomputable def Dg (r1:Int):((List (List Int))×Sl1Cur)→Option (((List (List Int))×Sl1Cur) ⊕ ((List (List Int))×Sl1Cur)):=fun (x9,x100)=>
 (A7 (x100) ((2:Int))).bind fun (r38,u39)=>
 ask (InI ((20:Int)+r38)) <|
 if (↑x9.length:Int)<(20:Int)+r38 then
 ask ((0:Int)≤r1∧r1≤(↑LIM:Int)) <|
 ask ((x9).length+([List.replicate r1.toNat (0:Int)]).length≤LIM) <|
 some (.inl (x9++[List.replicate r1.toNat (0:Int)],u39))
 else
 some (.inr (x9,u39))
def I9 (r1:Int):((List (List Int))×Sl1Cur)→St:=fun s=>[(9,A.val (slr true 1 (slr true 1 Ae) s.1)),(8,A.val (Ae r1)),(0,A.ref 100 []),(100,A.val (rP true (Aj false) s.2))]
def Nk (r1:Int):((List (List Int))×Sl1Cur)→Tgt
 | s=>((Ex.exit 9),[9,8,100],[(9,A.val (slr true 1 (slr true 1 Ae) s.1)),(8,A.val (Ae r1)),(100,A.val (rP true (Aj false) s.2))])
theorem Ya {r1} (s) o (h:Dg r1 s=some o):vc Try.prog Nj (Co [9,8,0,100] (I9 r1) (Nk r1) o) (I9 r1 s):=by
 obtain ⟨x9,x100⟩:=s
 unfold Dg at h
 try dsimp only at h
 conv=>whnf
 refine Len.map ?_
 conv=>whnf
 refine CallQ.io Ae (rP true (Aj false)) (by rfl) rfl (fun _=>rfl) (fun _=>⟨rfl,rfl⟩) rfl h (fun r h=>Bf h) (fun r38 u39 h=> ?_)
 conv=>whnf
 refine Ask.o h fun p40 h=> ?_
 conv=>whnf
 refine Br.od h (fun p41 h=> ?_) (fun p41 h=> ?_)
 ·conv=>whnf
  refine Ask.o h fun p42 h=> ?_
  conv=>whnf
  refine MkQ.o Ae ((0:Int)) rfl ?_
  conv=>whnf
  refine BslQ.o (slr true 1 Ae) ([List.replicate r1.toNat (0:Int)]) (by exact fun _=>⟨rfl,rfl⟩) (by rfl) ?_
  conv=>whnf
  refine NoOwn.own rfl ?_
  conv=>whnf
  refine AppQ.o (m:=1) (slr true 1 Ae) (by exact fun _=>⟨rfl,rfl⟩) (x9) ([List.replicate r1.toNat (0:Int)]) (by rfl) (by rfl) h fun h=> ?_
  conv=>whnf
  cases h;exact ⟨rfl,rfl⟩
 conv=>whnf
 cases h;exact ⟨rfl,rfl⟩
noncomputable def Gq (c0:Sl1Cur) (a0:SAlgebra) (most0:Int):Option ((Int×(List (List Int)))×Sl1Cur):=
 (Bc (c0) ([(1:Int),(2:Int),(2:Int),(3:Int),(4:Int),(2:Int),(5:Int)])).bind fun (r1,u2)=>
 ask (InI (most0+(1:Int))) <|
 (A7 (u2) (most0+(1:Int))).bind fun (r4,u5)=>
 (Am (Dd a0 r1) (r4,Ar (List Int),u5)).bind fun (q13_9,q13_100)=>
 ((if a0.Size>(0:Int) then
 (Am (Cs a0 r1) ((0:Int),q13_9,q13_100)).bind fun (q29_9,q29_100)=>
 some (q29_9,q29_100)
 else
 some (q13_9,q13_100):Option ((List (List Int))×Sl1Cur))).bind fun (q30_9,q30_100)=>
 (A7 (q30_100) ((40:Int))).bind fun (r31,u32)=>
 if r31=(0:Int) then
 (Bc (u32) ([(0:Int),(65:Int),(-1:Int),(64:Int)])).bind fun (r34,u35)=>
 some ((r34,q30_9),u35)
 else
 if r31=(1:Int) then
 ask ((q30_9).length+([[(0:Int)]]).length≤LIM) <|
 some ((r1,q30_9++[[(0:Int)]]),u32)
 else
 if r31=(2:Int) then
 (Am (Dg r1) (q30_9,u32)).bind fun (q43_9,q43_100)=>
 some ((r1,q43_9),q43_100)
 else
 some ((r1,q30_9),u32)
theorem Aa4 {c0} {a0} {most0} {v} (h:Gq c0 a0 most0=some v):Se Try.prog Lj [(rP true (Aj false)) c0,(Af false) a0,Ae most0] ((fun r=>V.tup [Ae r.1,(slr true 1 (slr true 1 Ae)) r.2]) v.1) 0 (rP true (Aj false) v.2):=by
 refine Q9 Ab5 (Nat.le_of_ble_eq_true rfl) ?_
 unfold Gq at h
 conv=>whnf
 refine BslQ.o Ae ([(1:Int),(2:Int),(2:Int),(3:Int),(4:Int),(2:Int),(5:Int)]) (by exact fun _=>⟨rfl,rfl⟩) (by rfl) ?_
 conv=>whnf
 refine CallQ.io Ae (rP true (Aj false)) (by rfl) rfl (fun _=>rfl) (fun _=>⟨rfl,rfl⟩) rfl h (fun r h=>Bj h) (fun r1 u2 h=> ?_)
 conv=>whnf
 refine BslQ.o (slr true 1 Ae) (Ar (List Int)) (by exact fun _=>⟨rfl,rfl⟩) (by rfl) ?_
 conv=>whnf
 refine Ask.o h fun p3 h=> ?_
 conv=>whnf
 refine CallQ.io Ae (rP true (Aj false)) (by rfl) rfl (fun _=>rfl) (fun _=>⟨rfl,rfl⟩) rfl h (fun r h=>Bf h) (fun r4 u5 h=> ?_)
 conv=>whnf
 refine LoopQ.o [10,9,8,4,0,100] (Jd a0 r1) (Nf a0 r1) h (fun s o h=>Yc s o h) (by rfl) (fun _=>rfl) ?_
 rintro ⟨q13_9,q13_100⟩ h
 try dsimp only at h
 conv=>whnf
 refine CutQ.o (fun t:((List (List Int))×Sl1Cur)=>match t with | s=>(Ex.normal,[9,8,0,100],[(9,A.val ((slr true 1 (slr true 1 Ae)) s.1)),(8,A.val (Ae (r1))),(0,A.ref 100 []),(100,A.val ((rP true (Aj false)) s.2))])) h ?_ ?_
 ·intro t h
  conv=>whnf
  refine Cells.lit rfl rfl ?_
  conv=>whnf
  refine Br.od h (fun p14 h=> ?_) (fun p14 h=> ?_)
  ·conv=>whnf
   refine LoopQ.o [13,9,8,4,0,100] (Jj a0 r1) (N3 a0 r1) h (fun s o h=>Yd s o h) (by rfl) (fun _=>rfl) ?_
   rintro ⟨q29_9,q29_100⟩ h
   try dsimp only at h
   conv=>whnf
   cases h;exact ⟨rfl,rfl⟩
  conv=>whnf
  cases h;exact ⟨rfl,rfl⟩
 rintro ⟨q30_9,q30_100⟩ h
 try dsimp only at h
 conv=>whnf
 refine CallQ.io Ae (rP true (Aj false)) (by rfl) rfl (fun _=>rfl) (fun _=>⟨rfl,rfl⟩) rfl h (fun r h=>Bf h) (fun r31 u32 h=> ?_)
 conv=>whnf
 refine Br.oe h (fun p33 h=> ?_) (fun p33 h=> ?_)
 ·conv=>whnf
  refine BslQ.o Ae ([(0:Int),(65:Int),(-1:Int),(64:Int)]) (by exact fun _=>⟨rfl,rfl⟩) (by rfl) ?_
  conv=>whnf
  refine CallQ.io Ae (rP true (Aj false)) (by rfl) rfl (fun _=>rfl) (fun _=>⟨rfl,rfl⟩) rfl h (fun r h=>Bj h) (fun r34 u35 h=> ?_)
  conv=>whnf
  cases h;exact ⟨(by rfl),(by rfl)⟩
 conv=>whnf
 refine Br.oe h (fun p36 h=> ?_) (fun p36 h=> ?_)
 ·conv=>whnf
  refine BslQ.o Ae ([(0:Int)]) (by exact fun _=>⟨rfl,rfl⟩) (by rfl) ?_
  conv=>whnf
  refine BslQ.o (slr true 1 Ae) ([[(0:Int)]]) (by exact fun _=>⟨rfl,rfl⟩) (by rfl) ?_
  conv=>whnf
  refine NoOwn.own rfl ?_
  conv=>whnf
  refine AppQ.o (m:=1) (slr true 1 Ae) (by exact fun _=>⟨rfl,rfl⟩) (q30_9) ([[(0:Int)]]) (by rfl) (by rfl) h fun h=> ?_
  conv=>whnf
  cases h;exact ⟨(by rfl),(by rfl)⟩
 conv=>whnf
 refine Br.oe h (fun p37 h=> ?_) (fun p37 h=> ?_)
 ·conv=>whnf
  refine LoopQ.o [9,8,0,100] (I9 r1) (Nk r1) h (fun s o h=>Ya s o h) (by rfl) (fun _=>rfl) ?_
  rintro ⟨q43_9,q43_100⟩ h
  try dsimp only at h
  conv=>whnf
  cases h;exact ⟨(by rfl),(by rfl)⟩
 conv=>whnf
 cases h;exact ⟨(by rfl),(by rfl)⟩
noncomputable def I5 (a0:SAlgebra) (k0:Int) (gens0:(List (List Int))):Option Bool:=
 (Hj (a0)).bind fun r1=>
 if (r1)=true then
 if (↑gens0.length:Int)≤(20:Int) then
 (Fr (a0.Size) (k0) (gens0)).bind fun r4=>
 some r4
 else
 some false
 else
 some false
theorem Amb {a0} {k0} {gens0} {v} (h:I5 a0 k0 gens0=some v):Ret Try.prog Ul [(Af false) a0,Ae k0,(slr false 1 (slr false 1 Ae)) gens0] (V.bool v):=by
 refine Ba Amo (Nat.le_of_ble_eq_true rfl) ?_
 unfold I5 at h
 conv=>whnf
 refine Cells.lit rfl rfl ?_
 conv=>whnf
 refine CallQ.o V.bool (by rfl) h (fun r h=>Uc h) (fun r1 h=> ?_)
 conv=>whnf
 refine Br.ob h (fun p2 h=> ?_) (fun p2 h=> ?_)
 ·conv=>whnf
  refine Br.yes ?_
  conv=>whnf
  refine Len.map ?_
  conv=>whnf
  refine Br.yes ?_
  conv=>whnf
  refine Br.yes ?_
  conv=>whnf
  refine Br.od h (fun p3 h=> ?_) (fun p3 h=> ?_)
  ·conv=>whnf
   refine Br.yes ?_
   conv=>whnf
   refine Cells.lit rfl rfl ?_
   conv=>whnf
   refine Br.yes ?_
   conv=>whnf
   refine Br.yes ?_
   conv=>whnf
   refine Br.yes ?_
   conv=>whnf
   refine CallQ.o V.bool (by rfl) h (fun r h=>P6 h) (fun r4 h=> ?_)
   conv=>whnf
   refine Br.yes ?_
   conv=>whnf
   cases h;exact (by rfl)
  conv=>whnf
  refine Br.no ?_
  conv=>whnf
  refine Br.no ?_
  conv=>whnf
  refine Br.no ?_
  conv=>whnf
  refine Br.no ?_
  conv=>whnf
  refine Br.no ?_
  conv=>whnf
  cases h;exact (by rfl)
 conv=>whnf
 refine Br.no ?_
 conv=>whnf
 refine Br.no ?_
 conv=>whnf
 refine Br.no ?_
 conv=>whnf
 refine Br.no ?_
 conv=>whnf
 refine Br.no ?_
 conv=>whnf
 refine Br.no ?_
 conv=>whnf
 refine Br.no ?_
 conv=>whnf
 refine Br.no ?_
 conv=>whnf
 refine Br.no ?_
 conv=>whnf
 cases h;exact (by rfl)
noncomputable def Ew (a0:SAlgebra) (k0:Int) (tuples0:(List (List Int))):Option Bool:=
 (Cp (a0)).bind fun r1=>
 if (r1)=true then
 (G0 (k0)).bind fun r3=>
 if (r3)=true then
 (Hf (a0) (k0) (tuples0)).bind fun r5=>
 some r5
 else
 some false
 else
 some false
theorem R3 {a0} {k0} {tuples0} {v} (h:Ew a0 k0 tuples0=some v):Ret Try.prog Ik [(Af false) a0,Ae k0,(slr false 1 (slr false 1 Ae)) tuples0] (V.bool v):=by
 refine Ba Ab0 (Nat.le_of_ble_eq_true rfl) ?_
 unfold Ew at h
 conv=>whnf
 refine Cells.lit rfl rfl ?_
 conv=>whnf
 refine CallQ.o V.bool (by rfl) h (fun r h=>Gb h) (fun r1 h=> ?_)
 conv=>whnf
 refine Br.ob h (fun p2 h=> ?_) (fun p2 h=> ?_)
 ·conv=>whnf
  refine Br.yes ?_
  conv=>whnf
  refine CallQ.o V.bool (by rfl) h (fun r h=>Xl h) (fun r3 h=> ?_)
  conv=>whnf
  refine Br.yes ?_
  conv=>whnf
  refine Br.ob h (fun p4 h=> ?_) (fun p4 h=> ?_)
  ·conv=>whnf
   refine Cells.lit rfl rfl ?_
   conv=>whnf
   refine Br.yes ?_
   conv=>whnf
   refine Br.yes ?_
   conv=>whnf
   refine Br.yes ?_
   conv=>whnf
   refine CallQ.o V.bool (by rfl) h (fun r h=>Adw h) (fun r5 h=> ?_)
   conv=>whnf
   refine Br.yes ?_
   conv=>whnf
   cases h;exact (by rfl)
  conv=>whnf
  refine Br.no ?_
  conv=>whnf
  refine Br.no ?_
  conv=>whnf
  refine Br.no ?_
  conv=>whnf
  refine Br.no ?_
  conv=>whnf
  cases h;exact (by rfl)
 conv=>whnf
 refine Br.no ?_
 conv=>whnf
 refine Br.no ?_
 conv=>whnf
 refine Br.no ?_
 conv=>whnf
 refine Br.no ?_
 conv=>whnf
 refine Br.no ?_
 conv=>whnf
 refine Br.no ?_
 conv=>whnf
 refine Br.no ?_
 conv=>whnf
 cases h;exact (by rfl)
noncomputable def Hu (a0:SAlgebra) (k0:Int) (tuples0:(List (List Int))):Option Bool:=
 (Hj (a0)).bind fun r1=>
 if (r1)=true then
 (Ec (k0) ((1:Int)) ((64:Int))).bind fun r3=>
 if (r3)=true then
 (Pl (a0) (k0) (tuples0)).bind fun r5=>
 some r5
 else
 some false
 else
 some false
theorem Yr {a0} {k0} {tuples0} {v} (h:Hu a0 k0 tuples0=some v):Ret Try.prog Mf [(Af false) a0,Ae k0,(slr false 1 (slr false 1 Ae)) tuples0] (V.bool v):=by
 refine Ba Ajn (Nat.le_of_ble_eq_true rfl) ?_
 unfold Hu at h
 conv=>whnf
 refine Cells.lit rfl rfl ?_
 conv=>whnf
 refine CallQ.o V.bool (by rfl) h (fun r h=>Uc h) (fun r1 h=> ?_)
 conv=>whnf
 refine Br.ob h (fun p2 h=> ?_) (fun p2 h=> ?_)
 ·conv=>whnf
  refine Br.yes ?_
  conv=>whnf
  refine CallQ.o V.bool (by rfl) h (fun r h=>Ib h) (fun r3 h=> ?_)
  conv=>whnf
  refine Br.yes ?_
  conv=>whnf
  refine Br.ob h (fun p4 h=> ?_) (fun p4 h=> ?_)
  ·conv=>whnf
   refine Cells.lit rfl rfl ?_
   conv=>whnf
   refine Br.yes ?_
   conv=>whnf
   refine Br.yes ?_
   conv=>whnf
   refine Br.yes ?_
   conv=>whnf
   refine CallQ.o V.bool (by rfl) h (fun r h=>Ary h) (fun r5 h=> ?_)
   conv=>whnf
   refine Br.yes ?_
   conv=>whnf
   cases h;exact (by rfl)
  conv=>whnf
  refine Br.no ?_
  conv=>whnf
  refine Br.no ?_
  conv=>whnf
  refine Br.no ?_
  conv=>whnf
  refine Br.no ?_
  conv=>whnf
  cases h;exact (by rfl)
 conv=>whnf
 refine Br.no ?_
 conv=>whnf
 refine Br.no ?_
 conv=>whnf
 refine Br.no ?_
 conv=>whnf
 refine Br.no ?_
 conv=>whnf
 refine Br.no ?_
 conv=>whnf
 refine Br.no ?_
 conv=>whnf
 refine Br.no ?_
 conv=>whnf
 cases h;exact (by rfl)
noncomputable def Iw (a0:SAlgebra) (b0:SAlgebra):Option Bool:=
 (Cp (a0)).bind fun r1=>
 if (r1)=true then
 (Cp (b0)).bind fun r3=>
 if (r3)=true then
 (Rb (a0) (b0)).bind fun r5=>
 some r5
 else
 some false
 else
 some false
theorem Aia {a0} {b0} {v} (h:Iw a0 b0=some v):Ret Try.prog P5 [(Af false) a0,(Af false) b0] (V.bool v):=by
 refine Ba Ah8 (Nat.le_of_ble_eq_true rfl) ?_
 unfold Iw at h
 conv=>whnf
 refine Cells.lit rfl rfl ?_
 conv=>whnf
 refine CallQ.o V.bool (by rfl) h (fun r h=>Gb h) (fun r1 h=> ?_)
 conv=>whnf
 refine Br.ob h (fun p2 h=> ?_) (fun p2 h=> ?_)
 ·conv=>whnf
  refine Cells.lit rfl rfl ?_
  conv=>whnf
  refine Br.yes ?_
  conv=>whnf
  refine CallQ.o V.bool (by rfl) h (fun r h=>Gb h) (fun r3 h=> ?_)
  conv=>whnf
  refine Br.yes ?_
  conv=>whnf
  refine Br.ob h (fun p4 h=> ?_) (fun p4 h=> ?_)
  ·conv=>whnf
   refine Cells.lit rfl rfl ?_
   conv=>whnf
   refine Br.yes ?_
   conv=>whnf
   refine Cells.lit rfl rfl ?_
   conv=>whnf
   refine Br.yes ?_
   conv=>whnf
   refine CallQ.o V.bool (by rfl) h (fun r h=>Aoo h) (fun r5 h=> ?_)
   conv=>whnf
   refine Br.yes ?_
   conv=>whnf
   cases h;exact (by rfl)
  conv=>whnf
  refine Br.no ?_
  conv=>whnf
  refine Br.no ?_
  conv=>whnf
  refine Br.no ?_
  conv=>whnf
  cases h;exact (by rfl)
 conv=>whnf
 refine Br.no ?_
 conv=>whnf
 refine Br.no ?_
 conv=>whnf
 refine Br.no ?_
 conv=>whnf
 refine Br.no ?_
 conv=>whnf
 refine Br.no ?_
 conv=>whnf
 refine Br.no ?_
 conv=>whnf
 cases h;exact (by rfl)
end Go.Proofs.Ytmmcfdfdacpjgaa.Ax
