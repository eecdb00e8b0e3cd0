/-
 What the functions compute, as functions on plain data, and that the program does compute it; written by program.
-/
import Derived.Test.YtmmcfdfdacpjgaaCode
import Derived.Test.YtmmcfdfdacpjgaaG2
import Derived.Test.YtmmcfdfdacpjgaaG3
import Derived.Test.YtmmcfdfdacpjgaaG4
import Derived.Test.YtmmcfdfdacpjgaaG5
import Derived.Test.YtmmcfdfdacpjgaaG6
namespace Go.Proofs.Ytmmcfdfdacpjgaa.Ax
open Go
set_option maxRecDepth 100000
set_option maxHeartbeats 4000000
noncomputable def Da (line0:List (List Int)) (numbers0:List Int):(Int×(List (List Int)))→Option ((Int×(List (List Int))) ⊕ (List (List Int))):=fun (x6,x5)=>
 if x6<(↑numbers0.length:Int) then
 ask ((0:Int)≤x6∧x6<(↑numbers0.length:Int)) <|
 ask ((0:Int)≤nth numbers0 x6.toNat∧nth numbers0 x6.toNat<(↑line0.length:Int)) <|
 ask ((x5).length+([nth line0 (nth numbers0 x6.toNat).toNat]).length≤LIM) <|
 ask (InI (x6+(1:Int))) <|
 some (.inl (x6+(1:Int),x5++[nth line0 (nth numbers0 x6.toNat).toNat]))
 else
 some (.inr x5)
def Kw (line0:List (List Int)) (numbers0:List Int):(Int×(List (List Int)))→St:=fun s=>[(6,A.val (Ae s.1)),(5,A.val (slr true 1 (slr false 1 Ae) s.2)),(0,A.ref 25 []),(25,A.val (slr true 1 (slr false 1 Ae) line0)),(1,A.val (slr false 1 Ae numbers0))]
def Qw (line0:List (List Int)) (_numbers0:List Int):(List (List Int))→Tgt
 | s=>((Ex.exit 0),[5,25],[(5,A.val (slr true 1 (slr false 1 Ae) s)),(25,A.val (slr true 1 (slr false 1 Ae) line0))])
theorem Aaj {line0} {numbers0} (s) o (h:Da line0 numbers0 s=some o):vc Try.prog Lm (Co [6,5,0,25,1] (Kw line0 numbers0) (Qw line0 numbers0) o) (Kw line0 numbers0 s):=by
 obtain ⟨x6,x5⟩:=s
 unfold Da at h
 try dsimp only at h
 conv=>whnf
 refine Len.map ?_
 conv=>whnf
 refine Br.od h (fun p1 h=> ?_) (fun p1 h=> ?_)
 ·conv=>whnf
  refine Len.map ?_
  conv=>whnf
  refine Ask.o h fun p2 h=> ?_
  conv=>whnf
  refine Elem.o (by first | omega | (simp [At] at * <;> omega)) ?_
  conv=>whnf
  refine Len.map ?_
  conv=>whnf
  refine Ask.o h fun p3 h=> ?_
  conv=>whnf
  refine Cells.one (fun _=>⟨rfl,rfl⟩) (by first | omega | (simp [At] at * <;> omega)) ?_
  conv=>whnf
  refine BslQ.o (slr false 1 Ae) ([nth line0 (nth numbers0 x6.toNat).toNat]) (by exact fun _=>⟨rfl,rfl⟩) (by rfl) ?_
  conv=>whnf
  refine NoOwn.o (fun _=>rfl) ?_
  conv=>whnf
  refine AppQ.o (m:=1) (slr false 1 Ae) (by exact fun _=>⟨rfl,rfl⟩) (x5) ([nth line0 (nth numbers0 x6.toNat).toNat]) (by rfl) (by rfl) h fun h=> ?_
  conv=>whnf
  refine Ask.o h fun p4 h=> ?_
  conv=>whnf
  cases h;exact ⟨rfl,rfl⟩
 conv=>whnf
 cases h;exact ⟨rfl,rfl⟩
noncomputable def Hs (line0:(List (List Int))) (numbers0:(List Int)):Option ((List (List Int))×(List (List Int))):=
 (Am (Da line0 numbers0) ((0:Int),Ar (List Int))).bind fun q5_5=>
 some (q5_5,line0)
theorem Aey {line0} {numbers0} {v} (h:Hs line0 numbers0=some v):Se Try.prog Va [(slr true 1 (slr false 1 Ae)) line0,(slr false 1 Ae) numbers0] (slr false 1 (slr false 1 Ae) v.1) 0 (slr true 1 (slr false 1 Ae) v.2):=by
 refine Ans Agi (Nat.le_of_ble_eq_true rfl) ?_
 unfold Hs at h
 conv=>whnf
 refine BslQ.o (slr true 1 Ae) (Ar (List Int)) (by exact fun _=>⟨rfl,rfl⟩) (by rfl) ?_
 conv=>whnf
 refine LoopQ.o [6,5,0,25,1] (Kw line0 numbers0) (Qw line0 numbers0) h (fun s o h=>Aaj s o h) (by rfl) (fun _=>rfl) ?_
 rintro q5_5 h
 try dsimp only at h
 conv=>whnf
 cases h;exact ⟨(by first | rfl | simp only [Ah,Ac,slr] | simp [Ah,Aa,V.fz,fzL,V.up,upL,Ab,Ac,Ad,slr]),(by rfl)⟩
noncomputable def D8 (_a0:SAlgebra) (_k0:Int) (gens0:List (List Int)) (_r1:Int):(Int×(List (List Int)))→Option ((Int×(List (List Int))) ⊕ (List (List Int))):=fun (x12,x11)=>
 if x12<(↑gens0.length:Int) then
 ask ((0:Int)≤x12∧x12<(↑gens0.length:Int)) <|
 (Kg (nth gens0 x12.toNat)).bind fun r4=>
 ask ((x11).length+([r4]).length≤LIM) <|
 ask (InI (x12+(1:Int))) <|
 some (.inl (x12+(1:Int),x11++[r4]))
 else
 some (.inr x11)
def Ml (a0:SAlgebra) (k0:Int) (gens0:List (List Int)) (r1:Int):(Int×(List (List Int)))→St:=fun s=>[(12,A.val (Ae s.1)),(11,A.val (slr true 1 (slr true 1 Ae) s.2)),(10,A.val (Ae r1)),(9,A.val ((slr true 1 (slr true 1 Ae)) (Ar (List Int)))),(8,A.val ((slr true 1 (slr true 1 Ae)) (Ar (List Int)))),(3,A.val (rP true (Af false) a0)),(1,A.val (Ae k0)),(2,A.val (slr false 1 (slr false 1 Ae) gens0))]
def S9 (a0:SAlgebra) (k0:Int) (_gens0:List (List Int)) (r1:Int):(List (List Int))→Tgt
 | s=>((Ex.exit 0),[11,10,9,8,3,1],[(11,A.val (slr true 1 (slr true 1 Ae) s)),(10,A.val (Ae r1)),(9,A.val ((slr true 1 (slr true 1 Ae)) (Ar (List Int)))),(8,A.val ((slr true 1 (slr true 1 Ae)) (Ar (List Int)))),(3,A.val (rP true (Af false) a0)),(1,A.val (Ae k0))])
theorem Adg {a0} {k0} {gens0} {r1} (s) o (h:D8 a0 k0 gens0 r1 s=some o):vc Try.prog S8 (Co [12,11,10,9,8,3,1,2] (Ml a0 k0 gens0 r1) (S9 a0 k0 gens0 r1) o) (Ml a0 k0 gens0 r1 s):=by
 obtain ⟨x12,x11⟩:=s
 unfold D8 at h
 try dsimp only at h
 conv=>whnf
 refine Len.map ?_
 conv=>whnf
 refine Br.od h (fun p2 h=> ?_) (fun p2 h=> ?_)
 ·conv=>whnf
  refine Len.map ?_
  conv=>whnf
  refine Ask.o h fun p3 h=> ?_
  conv=>whnf
  refine Elem.o (by first | omega | (simp [At] at * <;> omega)) ?_
  conv=>whnf
  refine CallQ.o (slr true 1 Ae) (by rfl) h (fun r h=>Adv h) (fun r4 h=> ?_)
  conv=>whnf
  refine BslQ.o (slr true 1 Ae) [r4] (by exact fun _=>⟨rfl,rfl⟩) (by rfl) ?_
  conv=>whnf
  refine NoOwn.own rfl ?_
  conv=>whnf
  refine AppQ.o (m:=1) (slr true 1 Ae) (by exact fun _=>⟨rfl,rfl⟩) (x11) ([r4]) (by rfl) (by rfl) h fun h=> ?_
  conv=>whnf
  refine Ask.o h fun p5 h=> ?_
  conv=>whnf
  cases h;exact ⟨rfl,rfl⟩
 conv=>whnf
 cases h;exact ⟨rfl,rfl⟩
noncomputable def Ha (a0:SAlgebra) (k0:Int) (_r1:Int):(Int×(List (List Int)))→Option ((Int×(List (List Int))) ⊕ (List (List Int))):=fun (x13,x11)=>
 if x13<(↑a0.Ops.length:Int) then
 ask ((0:Int)≤x13∧x13<(↑a0.Ops.length:Int)) <|
 if (nth a0.Ops x13.toNat).Arity=(0:Int) then
 (D5 (a0) (x13) (Ar (List Int)) (k0)).bind fun r10=>
 ask ((x11).length+([r10]).length≤LIM) <|
 ask (InI (x13+(1:Int))) <|
 some (.inl (x13+(1:Int),x11++[r10]))
 else
 ask (InI (x13+(1:Int))) <|
 some (.inl (x13+(1:Int),x11))
 else
 some (.inr x11)
def Mx (a0:SAlgebra) (k0:Int) (r1:Int):(Int×(List (List Int)))→St:=fun s=>[(13,A.val (Ae s.1)),(11,A.val (slr true 1 (slr true 1 Ae) s.2)),(10,A.val (Ae r1)),(9,A.val ((slr true 1 (slr true 1 Ae)) (Ar (List Int)))),(8,A.val ((slr true 1 (slr true 1 Ae)) (Ar (List Int)))),(3,A.val (rP true (Af false) a0)),(1,A.val (Ae k0))]
def T5 (a0:SAlgebra) (k0:Int) (r1:Int):(List (List Int))→Tgt
 | s=>((Ex.exit 2),[11,10,9,8,3,1],[(11,A.val (slr true 1 (slr true 1 Ae) s)),(10,A.val (Ae r1)),(9,A.val ((slr true 1 (slr true 1 Ae)) (Ar (List Int)))),(8,A.val ((slr true 1 (slr true 1 Ae)) (Ar (List Int)))),(3,A.val (rP true (Af false) a0)),(1,A.val (Ae k0))])
theorem Ad4 {a0} {k0} {r1} (s) o (h:Ha a0 k0 r1 s=some o):vc Try.prog S7 (Co [13,11,10,9,8,3,1] (Mx a0 k0 r1) (T5 a0 k0 r1) o) (Mx a0 k0 r1 s):=by
 obtain ⟨x13,x11⟩:=s
 unfold Ha at h
 try dsimp only at h
 conv=>whnf
 refine Cells.lit rfl rfl ?_
 conv=>whnf
 refine Len.map ?_
 conv=>whnf
 refine Br.od h (fun p7 h=> ?_) (fun p7 h=> ?_)
 ·conv=>whnf
  refine Cells.lit rfl rfl ?_
  conv=>whnf
  refine Len.map ?_
  conv=>whnf
  refine Ask.o h fun p8 h=> ?_
  conv=>whnf
  refine Elem.o (by first | omega | (simp [At] at * <;> omega)) ?_
  conv=>whnf
  refine Br.oe h (fun p9 h=> ?_) (fun p9 h=> ?_)
  ·conv=>whnf
   refine Cells.lit rfl rfl ?_
   conv=>whnf
   refine BslQ.o (slr true 1 Ae) (Ar (List Int)) (by exact fun _=>⟨rfl,rfl⟩) (by rfl) ?_
   conv=>whnf
   refine CallQ.rd (slr true 1 Ae) (by rfl) (fun _=>by simp [V.noFz,Ch]) h (fun r h=>Ka h) (fun r10 h=> ?_)
   conv=>whnf
   refine BslQ.o (slr true 1 Ae) [r10] (by exact fun _=>⟨rfl,rfl⟩) (by rfl) ?_
   conv=>whnf
   refine NoOwn.own rfl ?_
   conv=>whnf
   refine AppQ.o (m:=1) (slr true 1 Ae) (by exact fun _=>⟨rfl,rfl⟩) (x11) ([r10]) (by rfl) (by rfl) h fun h=> ?_
   conv=>whnf
   refine Ask.o h fun p11 h=> ?_
   conv=>whnf
   cases h;exact ⟨rfl,rfl⟩
  conv=>whnf
  refine Ask.o h fun p12 h=> ?_
  conv=>whnf
  cases h;exact ⟨rfl,rfl⟩
 conv=>whnf
 cases h;exact ⟨rfl,rfl⟩
noncomputable def G5 (_a0:SAlgebra) (_k0:Int) (_r1:Int) (q13_11:List (List Int)):(Int×(List (List Int))×(List (List Int)))→Option ((Int×(List (List Int))×(List (List Int))) ⊕ ((List (List Int))×(List (List Int)))):=fun (x14,x9,x8)=>
 if x14<(↑q13_11.length:Int) then
 ask ((0:Int)≤x14∧x14<(↑q13_11.length:Int)) <|
 (C1 (x8) (nth q13_11 x14.toNat)).bind fun r16=>
 if (r16.snd)=true then
 ask (InI (x14+(1:Int))) <|
 some (.inl (x14+(1:Int),x9,x8))
 else
 ask ((0:Int)≤x14∧x14<(↑q13_11.length:Int)) <|
 (Ih (x8) (nth q13_11 x14.toNat)).bind fun r20=>
 ask ((0:Int)≤x14∧x14<(↑q13_11.length:Int)) <|
 ask ((x9).length+([nth q13_11 x14.toNat]).length≤LIM) <|
 ask (InI (x14+(1:Int))) <|
 some (.inl (x14+(1:Int),x9++[nth q13_11 x14.toNat],r20))
 else
 some (.inr (x9,x8))
def Mw (a0:SAlgebra) (k0:Int) (r1:Int) (q13_11:List (List Int)):(Int×(List (List Int))×(List (List Int)))→St:=fun s=>[(11,A.val (slr true 1 (slr false 1 Ae) q13_11)),(14,A.val (Ae s.1)),(10,A.val (Ae r1)),(9,A.val (slr true 1 (slr false 1 Ae) s.2.1)),(8,A.val (slr true 1 (slr false 1 Ae) s.2.2)),(3,A.val (rP true (Af false) a0)),(1,A.val (Ae k0))]
def T7 (a0:SAlgebra) (k0:Int) (r1:Int) (_q13_11:List (List Int)):((List (List Int))×(List (List Int)))→Tgt
 | s=>((Ex.exit 4),[10,9,8,3,1],[(10,A.val (Ae r1)),(9,A.val (slr true 1 (slr false 1 Ae) s.1)),(8,A.val (slr true 1 (slr false 1 Ae) s.2)),(3,A.val (rP true (Af false) a0)),(1,A.val (Ae k0))])
theorem Acu {a0} {k0} {r1} {q13_11} (s) o (h:G5 a0 k0 r1 q13_11 s=some o):vc Try.prog Tk (Co [11,14,10,9,8,3,1] (Mw a0 k0 r1 q13_11) (T7 a0 k0 r1 q13_11) o) (Mw a0 k0 r1 q13_11 s):=by
 obtain ⟨x14,x9,x8⟩:=s
 unfold G5 at h
 try dsimp only at h
 conv=>whnf
 refine Len.map ?_
 conv=>whnf
 refine Br.od h (fun p14 h=> ?_) (fun p14 h=> ?_)
 ·conv=>whnf
  refine Len.map ?_
  conv=>whnf
  refine Ask.o h fun p15 h=> ?_
  conv=>whnf
  refine Cells.one (fun _=>⟨rfl,rfl⟩) (by first | omega | (simp [At] at * <;> omega)) ?_
  conv=>whnf
  refine CallQ.rd (fun r=>V.tup [Ae r.1,V.bool r.2]) (by first | rfl | simp only [Aa,V.fz,Ab,slr] | simp [Aa,V.fz,fzL,V.up,upL,Ab,Ac,Ad,slr]) (fun _=>by simp [V.noFz,Ce]) h (fun r h=>K6 h) (fun r16 h=> ?_)
  conv=>whnf
  refine Br.flip ?_
  conv=>whnf
  refine Br.ob h (fun p17 h=> ?_) (fun p17 h=> ?_)
  ·conv=>whnf
   refine Ask.o h fun p18 h=> ?_
   conv=>whnf
   cases h;exact ⟨rfl,rfl⟩
  conv=>whnf
  refine Len.map ?_
  conv=>whnf
  refine Ask.o h fun p19 h=> ?_
  conv=>whnf
  refine Cells.one (fun _=>⟨rfl,rfl⟩) (by first | omega | (simp [At] at * <;> omega)) ?_
  conv=>whnf
  refine CallQ.give (slr true 1 (slr false 1 Ae)) (by rfl) rfl (fun _=>rfl) rfl h (fun r h=>Aet h) (fun r20 h=> ?_)
  conv=>whnf
  refine Len.map ?_
  conv=>whnf
  refine Ask.o h fun p21 h=> ?_
  conv=>whnf
  refine Cells.one (fun _=>⟨rfl,rfl⟩) (by first | omega | (simp [At] at * <;> omega)) ?_
  conv=>whnf
  refine BslQ.o (slr false 1 Ae) ([nth q13_11 x14.toNat]) (by exact fun _=>⟨rfl,rfl⟩) (by rfl) ?_
  conv=>whnf
  refine NoOwn.o (fun _=>rfl) ?_
  conv=>whnf
  refine AppQ.o (m:=1) (slr false 1 Ae) (by exact fun _=>⟨rfl,rfl⟩) (x9) ([nth q13_11 x14.toNat]) (by rfl) (by rfl) h fun h=> ?_
  conv=>whnf
  refine Ask.o h fun p22 h=> ?_
  conv=>whnf
  cases h;exact ⟨rfl,rfl⟩
 conv=>whnf
 cases h;exact ⟨rfl,rfl⟩
noncomputable def Fa (a0:SAlgebra) (k0:Int) (r1:Int) (x17:Int) (x18:Int):(Bool×(List Int)×(List (List Int))×(List (List Int)))→Option ((Bool×(List Int)×(List (List Int))×(List (List Int))) ⊕ ((List (List Int))×(List (List Int)))):=fun (x20,x19,x9'',x8'')=>
 ((if (x20)=true then
 if (↑x9''.length:Int)≤r1 then
 some (.inl ())
 else
 some (.inr ())
 else
 some (.inr ()):Option (Unit ⊕ Unit))).bind fun t=>match t with
 | (.inl _)=>((((Mg (x19) (x17)).bind fun r34=>
 if (r34)=true then
 (Hs (x9'') (x19)).bind fun (r36,u37)=>
 (D5 (a0) (x18) (r36) (k0)).bind fun r38=>
 (C1 (x8'') (r38)).bind fun r39=>
 if (r39.snd)=true then
 some (u37,x8'')
 else
 (Ih (x8'') (r38)).bind fun r41=>
 ask ((u37).length+([r38]).length≤LIM) <|
 some (u37++[r38],r41)
 else
 some (x9'',x8''):Option ((List (List Int))×(List (List Int))))).bind fun (q42_9,q42_8)=>
 ask (InI (x17+(1:Int))) <|
 (Dj (x19) (x17+(1:Int))).bind fun r44=>
 some (.inl (r44.snd,r44.fst,q42_9,q42_8)))
 | (.inr _)=>(some (.inr (x9'',x8'')))
def M7 (a0:SAlgebra) (k0:Int) (r1:Int) (x17:Int) (x18:Int):(Bool×(List Int)×(List (List Int))×(List (List Int)))→St:=fun s=>[(20,A.val (V.bool s.1)),(19,A.val (slr true 1 Ae s.2.1)),(18,A.val (Ae x18)),(17,A.val (Ae x17)),(10,A.val (Ae r1)),(9,A.val (slr true 1 (slr false 1 Ae) s.2.2.1)),(8,A.val (slr true 1 (slr false 1 Ae) s.2.2.2)),(3,A.val (rP true (Af false) a0)),(1,A.val (Ae k0))]
def Tv (a0:SAlgebra) (k0:Int) (r1:Int) (x17:Int) (x18:Int):((List (List Int))×(List (List Int)))→Tgt
 | s=>((Ex.exit 10),[18,17,10,9,8,3,1],[(18,A.val (Ae x18)),(17,A.val (Ae x17)),(10,A.val (Ae r1)),(9,A.val (slr true 1 (slr false 1 Ae) s.1)),(8,A.val (slr true 1 (slr false 1 Ae) s.2)),(3,A.val (rP true (Af false) a0)),(1,A.val (Ae k0))])
theorem Ad3 {a0} {k0} {r1} {x17} {x18} (s) o (h:Fa a0 k0 r1 x17 x18 s=some o):vc Try.prog To (Co [20,19,18,17,10,9,8,3,1] (M7 a0 k0 r1 x17 x18) (Tv a0 k0 r1 x17 x18) o) (M7 a0 k0 r1 x17 x18 s):=by
 obtain ⟨x20,x19,x9'',x8''⟩:=s
 unfold Fa at h
 try dsimp only at h
 conv=>whnf
 refine CutQ.o (fun t:(Unit ⊕ Unit)=>match t with | (.inl s)=>(Ex.normal,[19,18,17,10,9,8,3,1],[(19,A.val ((slr true 1 Ae) (x19))),(18,A.val (Ae (x18))),(17,A.val (Ae (x17))),(10,A.val (Ae (r1))),(9,A.val ((slr true 1 (slr false 1 Ae)) (x9''))),(8,A.val ((slr true 1 (slr false 1 Ae)) (x8''))),(3,A.val ((rP true (Af false)) (a0))),(1,A.val (Ae (k0)))]) | (.inr s)=>((Ex.exit 10),[18,17,10,9,8,3,1],[(18,A.val (Ae (x18))),(17,A.val (Ae (x17))),(10,A.val (Ae (r1))),(9,A.val ((slr true 1 (slr false 1 Ae)) (x9''))),(8,A.val ((slr true 1 (slr false 1 Ae)) (x8''))),(3,A.val ((rP true (Af false)) (a0))),(1,A.val (Ae (k0)))])) h ?_ ?_
 ·intro t h
  conv=>whnf
  refine Br.ob h (fun p31 h=> ?_) (fun p31 h=> ?_)
  ·conv=>whnf
   refine Br.yes ?_
   conv=>whnf
   refine Len.map ?_
   conv=>whnf
   refine Br.yes ?_
   conv=>whnf
   refine Br.yes ?_
   conv=>whnf
   refine Br.yes ?_
   conv=>whnf
   refine Br.od h (fun p32 h=> ?_) (fun p32 h=> ?_)
   ·conv=>whnf
    cases h;exact ⟨rfl,rfl⟩
   conv=>whnf
   cases h;exact ⟨rfl,rfl⟩
  conv=>whnf
  refine Br.no ?_
  conv=>whnf
  refine Br.no ?_
  conv=>whnf
  refine Br.no ?_
  conv=>whnf
  refine Br.no ?_
  conv=>whnf
  refine Br.no ?_
  conv=>whnf
  cases h;exact ⟨rfl,rfl⟩
 rintro (⟨⟩ | ⟨⟩) h
 ·try dsimp only at h
  conv=>whnf
  refine FrzQ.d (V.sl false (1:Nat) (List.map Ae x19)) (by first | (simp only [slr];done) | exact (Al _).trans (Eq.trans (b:=V.fz (V.sl true (1:Nat) (List.map Ae x19))) rfl (Ac _ _ _)) | (simp [Al,V.fz,Ab,Ac,slr];done) | (simp [Al,V.fz,fzL,Ab,slr];done)) ?_
  conv=>whnf
  refine CutQ.o (fun t:((List (List Int))×(List (List Int)))=>match t with | s=>(Ex.normal,[19,18,17,10,9,8,3,1],[(19,A.val ((slr false 1 Ae) (x19))),(18,A.val (Ae (x18))),(17,A.val (Ae (x17))),(10,A.val (Ae (r1))),(9,A.val ((slr true 1 (slr false 1 Ae)) s.1)),(8,A.val ((slr true 1 (slr false 1 Ae)) s.2)),(3,A.val ((rP true (Af false)) (a0))),(1,A.val (Ae (k0)))])) h ?_ ?_
  ·intro t h
   conv=>whnf
   refine CallQ.o V.bool (by rfl) h (fun r h=>Aqc h) (fun r34 h=> ?_)
   conv=>whnf
   refine Br.ob h (fun p35 h=> ?_) (fun p35 h=> ?_)
   ·conv=>whnf
    refine Cells.lit rfl rfl ?_
    conv=>whnf
    refine LendP.io (slr false 1 (slr false 1 Ae)) (slr true 1 (slr false 1 Ae)) (by rfl) (fun _=>rfl) (fun _=>⟨rfl,rfl⟩) (fun _=>rfl) h (fun r h=>Aey h) (fun r36 u37 h=> ?_)
    conv=>whnf
    refine CallQ.o (slr true 1 Ae) (by rfl) h (fun r h=>Ka h) (fun r38 h=> ?_)
    conv=>whnf
    refine CallQ.rd (fun r=>V.tup [Ae r.1,V.bool r.2]) (by first | rfl | simp only [V.fz,V.up,Ab,slr] | simp [Aa,V.fz,fzL,V.up,upL,Ab,Ac,Ad,slr]) (fun _=>by simp [V.noFz,Ce]) h (fun r h=>K6 h) (fun r39 h=> ?_)
    conv=>whnf
    refine Br.flip ?_
    conv=>whnf
    refine Br.ob h (fun p40 h=> ?_) (fun p40 h=> ?_)
    ·conv=>whnf
     cases h;exact ⟨rfl,rfl⟩
    conv=>whnf
    refine CallQ.give (slr true 1 (slr false 1 Ae)) (by first | rfl | simp only [V.fz,V.up,Ab,slr] | simp [Aa,V.fz,fzL,V.up,upL,Ab,Ac,Ad,slr]) rfl (fun _=>rfl) rfl h (fun r h=>Aet h) (fun r41 h=> ?_)
    conv=>whnf
    refine BslQ.o (slr false 1 Ae) [r38] (by exact fun _=>⟨rfl,rfl⟩) (by first | rfl | (simp only [V.fz,V.up,Ab];done) | simp [V.fz,V.up,Ab,slr]) ?_
    conv=>whnf
    refine NoOwn.o (fun _=>rfl) ?_
    conv=>whnf
    refine AppQ.o (m:=1) (slr false 1 Ae) (by exact fun _=>⟨rfl,rfl⟩) (u37) ([r38]) (by rfl) (by rfl) h fun h=> ?_
    conv=>whnf
    cases h;exact ⟨rfl,rfl⟩
   conv=>whnf
   cases h;exact ⟨rfl,rfl⟩
  rintro ⟨q42_9,q42_8⟩ h
  try dsimp only at h
  conv=>whnf
  refine Ask.o h fun p43 h=> ?_
  conv=>whnf
  refine CallQ.o (fun r=>V.tup [(slr true 1 Ae) r.1,V.bool r.2]) (by rfl) h (fun r h=>Aa0 h) (fun r44 h=> ?_)
  conv=>whnf
  cases h;exact ⟨rfl,rfl⟩
 try dsimp only at h
 conv=>whnf
 cases h;exact ⟨rfl,rfl⟩
noncomputable def Fe (a0:SAlgebra) (k0:Int) (r1:Int) (x17:Int):(Int×(List (List Int))×(List (List Int)))→Option ((Int×(List (List Int))×(List (List Int))) ⊕ ((List (List Int))×(List (List Int)))):=fun (x18,x9',x8')=>
 if x18<(↑a0.Ops.length:Int) then
 ask ((0:Int)≤x18∧x18<(↑a0.Ops.length:Int)) <|
 ask ((0:Int)≤(nth a0.Ops x18.toNat).Arity∧(nth a0.Ops x18.toNat).Arity≤(↑LIM:Int)) <|
 ask ((0:Int)≤x18∧x18<(↑a0.Ops.length:Int)) <|
 (Am (Fa a0 k0 r1 x17 x18) (decide ((nth a0.Ops x18.toNat).Arity>(0:Int)),List.replicate (nth a0.Ops x18.toNat).Arity.toNat (0:Int),x9',x8')).bind fun (q45_9,q45_8)=>
 ask (InI (x18+(1:Int))) <|
 some (.inl (x18+(1:Int),q45_9,q45_8))
 else
 some (.inr (x9',x8'))
def Me (a0:SAlgebra) (k0:Int) (r1:Int) (x17:Int):(Int×(List (List Int))×(List (List Int)))→St:=fun s=>[(18,A.val (Ae s.1)),(17,A.val (Ae x17)),(10,A.val (Ae r1)),(9,A.val (slr true 1 (slr false 1 Ae) s.2.1)),(8,A.val (slr true 1 (slr false 1 Ae) s.2.2)),(3,A.val (rP true (Af false) a0)),(1,A.val (Ae k0))]
def Tz (a0:SAlgebra) (k0:Int) (r1:Int) (x17:Int):((List (List Int))×(List (List Int)))→Tgt
 | s=>((Ex.exit 8),[17,10,9,8,3,1],[(17,A.val (Ae x17)),(10,A.val (Ae r1)),(9,A.val (slr true 1 (slr false 1 Ae) s.1)),(8,A.val (slr true 1 (slr false 1 Ae) s.2)),(3,A.val (rP true (Af false) a0)),(1,A.val (Ae k0))])
theorem Adl {a0} {k0} {r1} {x17} (s) o (h:Fe a0 k0 r1 x17 s=some o):vc Try.prog Tr (Co [18,17,10,9,8,3,1] (Me a0 k0 r1 x17) (Tz a0 k0 r1 x17) o) (Me a0 k0 r1 x17 s):=by
 obtain ⟨x18,x9',x8'⟩:=s
 unfold Fe at h
 try dsimp only at h
 conv=>whnf
 refine Cells.lit rfl rfl ?_
 conv=>whnf
 refine Len.map ?_
 conv=>whnf
 refine Br.od h (fun p27 h=> ?_) (fun p27 h=> ?_)
 ·conv=>whnf
  refine Cells.lit rfl rfl ?_
  conv=>whnf
  refine Len.map ?_
  conv=>whnf
  refine Ask.o h fun p28 h=> ?_
  conv=>whnf
  refine Elem.o (by first | omega | (simp [At] at * <;> omega)) ?_
  conv=>whnf
  refine Ask.o h fun p29 h=> ?_
  conv=>whnf
  refine MkQ.o Ae ((0:Int)) rfl ?_
  conv=>whnf
  refine Cells.lit rfl rfl ?_
  conv=>whnf
  refine Len.map ?_
  conv=>whnf
  refine Ask.o h fun p30 h=> ?_
  conv=>whnf
  refine Elem.o (by first | omega | (simp [At] at * <;> omega)) ?_
  conv=>whnf
  refine LoopQ.o [20,19,18,17,10,9,8,3,1] (M7 a0 k0 r1 x17 x18) (Tv a0 k0 r1 x17 x18) h (fun s o h=>Ad3 s o h) (by rfl) (fun _=>rfl) ?_
  rintro ⟨q45_9,q45_8⟩ h
  try dsimp only at h
  conv=>whnf
  refine Ask.o h fun p46 h=> ?_
  conv=>whnf
  cases h;exact ⟨rfl,rfl⟩
 conv=>whnf
 cases h;exact ⟨rfl,rfl⟩
noncomputable def Hb (a0:SAlgebra) (k0:Int) (r1:Int):(Int×(List (List Int))×(List (List Int)))→Option ((Int×(List (List Int))×(List (List Int))) ⊕ (List (List Int))):=fun (x17,x9,x8)=>
 ((if x17<(↑x9.length:Int) then
 if (↑x9.length:Int)≤r1 then
 some (.inl ())
 else
 some (.inr ())
 else
 some (.inr ()):Option (Unit ⊕ Unit))).bind fun t=>match t with
 | (.inl _)=>((Am (Fe a0 k0 r1 x17) ((0:Int),x9,x8)).bind fun (q47_9,q47_8)=>
 ask (InI (x17+(1:Int))) <|
 some (.inl (x17+(1:Int),q47_9,q47_8)))
 | (.inr _)=>(some (.inr x8))
def Nb (a0:SAlgebra) (k0:Int) (r1:Int):(Int×(List (List Int))×(List (List Int)))→St:=fun s=>[(17,A.val (Ae s.1)),(10,A.val (Ae r1)),(9,A.val (slr true 1 (slr false 1 Ae) s.2.1)),(8,A.val (slr true 1 (slr false 1 Ae) s.2.2)),(3,A.val (rP true (Af false) a0)),(1,A.val (Ae k0))]
def Ta (_a0:SAlgebra) (_k0:Int) (r1:Int):(List (List Int))→Tgt
 | s=>((Ex.exit 6),[10,8],[(10,A.val (Ae r1)),(8,A.val (slr true 1 (slr false 1 Ae) s))])
theorem Aeq {a0} {k0} {r1} (s) o (h:Hb a0 k0 r1 s=some o):vc Try.prog S3 (Co [17,10,9,8,3,1] (Nb a0 k0 r1) (Ta a0 k0 r1) o) (Nb a0 k0 r1 s):=by
 obtain ⟨x17,x9,x8⟩:=s
 unfold Hb at h
 try dsimp only at h
 conv=>whnf
 refine CutQ.o (fun t:(Unit ⊕ Unit)=>match t with | (.inl s)=>(Ex.normal,[17,10,9,8,3,1],[(17,A.val (Ae (x17))),(10,A.val (Ae (r1))),(9,A.val ((slr true 1 (slr false 1 Ae)) (x9))),(8,A.val ((slr true 1 (slr false 1 Ae)) (x8))),(3,A.val ((rP true (Af false)) (a0))),(1,A.val (Ae (k0)))]) | (.inr s)=>((Ex.exit 6),[10,8],[(10,A.val (Ae (r1))),(8,A.val ((slr true 1 (slr false 1 Ae)) (x8)))])) h ?_ ?_
 ·intro t h
  conv=>whnf
  refine Len.map ?_
  conv=>whnf
  refine Br.od h (fun p24 h=> ?_) (fun p24 h=> ?_)
  ·conv=>whnf
   refine Br.yes ?_
   conv=>whnf
   refine Len.map ?_
   conv=>whnf
   refine Br.yes ?_
   conv=>whnf
   refine Br.yes ?_
   conv=>whnf
   refine Br.yes ?_
   conv=>whnf
   refine Br.od h (fun p25 h=> ?_) (fun p25 h=> ?_)
   ·conv=>whnf
    cases h;exact ⟨rfl,rfl⟩
   conv=>whnf
   cases h;exact ⟨rfl,rfl⟩
  conv=>whnf
  refine Br.no ?_
  conv=>whnf
  refine Br.no ?_
  conv=>whnf
  refine Br.no ?_
  conv=>whnf
  refine Br.no ?_
  conv=>whnf
  refine Br.no ?_
  conv=>whnf
  cases h;exact ⟨rfl,rfl⟩
 rintro (⟨⟩ | ⟨⟩) h
 ·try dsimp only at h
  conv=>whnf
  refine LoopQ.o [18,17,10,9,8,3,1] (Me a0 k0 r1 x17) (Tz a0 k0 r1 x17) h (fun s o h=>Adl s o h) (by rfl) (fun _=>rfl) ?_
  rintro ⟨q47_9,q47_8⟩ h
  try dsimp only at h
  conv=>whnf
  refine Ask.o h fun p48 h=> ?_
  conv=>whnf
  cases h;exact ⟨rfl,rfl⟩
 try dsimp only at h
 conv=>whnf
 cases h;exact ⟨rfl,rfl⟩
noncomputable def Hw (a0:SAlgebra) (k0:Int) (gens0:(List (List Int))):Option ((List (List Int))×Bool):=
 (F7 (a0)).bind fun r1=>
 (Am (D8 a0 k0 gens0 r1) ((0:Int),Ar (List Int))).bind fun q6_11=>
 (Am (Ha a0 k0 r1) ((0:Int),q6_11)).bind fun q13_11=>
 (Am (G5 a0 k0 r1 q13_11) ((0:Int),Ar (List Int),Ar (List Int))).bind fun (q23_9,q23_8)=>
 (Am (Hb a0 k0 r1) ((0:Int),q23_9,q23_8)).bind fun q49_8=>
 some (q49_8,decide ((↑q49_8.length:Int)≤r1))
theorem Ai8 {a0} {k0} {gens0} {v} (h:Hw a0 k0 gens0=some v):Ret Try.prog Rx [(Af false) a0,Ae k0,(slr false 1 (slr false 1 Ae)) gens0] ((fun r=>V.tup [(slr true 1 (slr false 1 Ae)) r.1,V.bool r.2]) v):=by
 refine Ba Akg (Nat.le_of_ble_eq_true rfl) ?_
 unfold Hw at h
 conv=>whnf
 refine BslQ.o (slr true 1 Ae) (Ar (List Int)) (by exact fun _=>⟨rfl,rfl⟩) (by rfl) ?_
 conv=>whnf
 refine BslQ.o (slr true 1 Ae) (Ar (List Int)) (by exact fun _=>⟨rfl,rfl⟩) (by rfl) ?_
 conv=>whnf
 refine Cells.lit rfl rfl ?_
 conv=>whnf
 refine CallQ.o Ae (by rfl) h (fun r h=>Aas h) (fun r1 h=> ?_)
 conv=>whnf
 refine BslQ.o (slr true 1 Ae) (Ar (List Int)) (by exact fun _=>⟨rfl,rfl⟩) (by rfl) ?_
 conv=>whnf
 refine LoopQ.o [12,11,10,9,8,3,1,2] (Ml a0 k0 gens0 r1) (S9 a0 k0 gens0 r1) h (fun s o h=>Adg s o h) (by rfl) (fun _=>rfl) ?_
 rintro q6_11 h
 try dsimp only at h
 conv=>whnf
 refine LoopQ.o [13,11,10,9,8,3,1] (Mx a0 k0 r1) (T5 a0 k0 r1) h (fun s o h=>Ad4 s o h) (by rfl) (fun _=>rfl) ?_
 rintro q13_11 h
 try dsimp only at h
 conv=>whnf
 refine FrzQ.d (V.sl true (1:Nat) (List.map (slr false (1:Nat) Ae) q13_11)) (by first | (simp only [V.fzAt,Ln,Ab,slr];done) | exact Eq.trans (b:=V.sl true (1:Nat) (List.map (slr false (1:Nat) Ae) q13_11)) rfl (by simp only [Ac])) ?_
 conv=>whnf
 refine LoopQ.o [11,14,10,9,8,3,1] (Mw a0 k0 r1 q13_11) (T7 a0 k0 r1 q13_11) h (fun s o h=>Acu s o h) (by rfl) (fun _=>rfl) ?_
 rintro ⟨q23_9,q23_8⟩ h
 try dsimp only at h
 conv=>whnf
 refine LoopQ.o [17,10,9,8,3,1] (Nb a0 k0 r1) (Ta a0 k0 r1) h (fun s o h=>Aeq s o h) (by rfl) (fun _=>rfl) ?_
 rintro q49_8 h
 try dsimp only at h
 conv=>whnf
 refine Len.map ?_
 conv=>whnf
 cases h;exact (by rfl)
end Go.Proofs.Ytmmcfdfdacpjgaa.Ax
