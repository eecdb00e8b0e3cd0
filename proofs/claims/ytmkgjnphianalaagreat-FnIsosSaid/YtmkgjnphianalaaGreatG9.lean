/-
 What the functions compute, as functions on plain data, and that the program does compute it; written by program.
-/
import Derived.Test.YtmkgjnphianalaaGreatCode
import Derived.Test.YtmkgjnphianalaaGreatG3
import Derived.Test.YtmkgjnphianalaaGreatG4
import Derived.Test.YtmkgjnphianalaaGreatG7
import Derived.Test.YtmkgjnphianalaaGreatG8
namespace Go.Proofs.YtmkgjnphianalaaGreat.Ax
open Go
set_option maxRecDepth 100000
set_option maxHeartbeats 4000000
noncomputable def F9 (a0:SAlgebra):(Int×SAlgebra)→Option ((Int×SAlgebra) ⊕ SAlgebra):=fun (x4,x3)=>
 if x4<(↑a0.Ops.length:Int) then
 ask ((0:Int)≤x4∧x4<(↑a0.Ops.length:Int)) <|
 (Qq (nth a0.Ops x4.toNat)).bind fun r3=>
 ask ((x3.Ops).length+([r3]).length≤LIM) <|
 ask (InI (x4+(1:Int))) <|
 some (.inl (x4+(1:Int),{ Size:=x3.Size,Ops:=x3.Ops++[r3] }))
 else
 some (.inr x3)
def Sk (a0:SAlgebra):(Int×SAlgebra)→St:=fun s=>[(4,A.val (Ag s.1)),(3,A.val ((rP true (Ae true)) s.2)),(2,A.val ((rP true (Ae true)) ({ Size:=(0:Int),Ops:=Al SOp }))),(1,A.val ((rP true (Ae false)) (a0)))]
def Z8 (_a0:SAlgebra):SAlgebra→Tgt
 | s=>((Ex.exit 0),[3,2],[(3,A.val ((rP true (Ae true)) s)),(2,A.val ((rP true (Ae true)) ({ Size:=(0:Int),Ops:=Al SOp })))])
theorem Al9 {a0:SAlgebra} (s:(Int×SAlgebra)) (o:(Int×SAlgebra) ⊕ SAlgebra) (h:F9 a0 s=some o):vc Tryz.prog Aao (Cr [4,3,2,1] (Sk a0) (Z8 a0) o) (Sk a0 s):=by
 obtain ⟨x4,x3⟩:=s
 unfold F9 at h
 try dsimp only at h
 refine Cells.lit rfl rfl<|Len.map<|Br.od h (fun p1 h=> ?_) (fun p1 h=> ?_)
 ·refine Cells.lit rfl rfl<|Cells.lit rfl rfl<|Len.map<|Ask.o h fun p2 h=>Elem.o (by first | omega | (simp [Aq] at * <;> omega))<|CallP.o (Aw true) (by rfl) h (fun r h=>Aqi h) (fun r3 h=> ?_)
  refine BslQ.o (Aw true) [r3] (by exact fun _=>⟨rfl,rfl⟩) (by first | rfl | (simp only [Aa,V.fz,fzL,V.up,upL,Ab,Ac,Ad,slr,List.cons_append,List.nil_append];done) | simp [Aa,V.fz,fzL,V.up,upL,Ab,Ac,Ad,slr])<|NoOwn.own rfl<|Kid.lit rfl rfl<|Kid.lit rfl rfl<|SetKids.lit rfl<|AppQ.o (m:=2) (Aw true) (by exact fun _=>⟨rfl,rfl⟩) (x3.Ops) ([r3]) (by rfl) (by rfl) h fun h=>SetKids.lit rfl<|Ask.o h fun p4 h=> ?_
  cases h;exact ⟨rfl,rfl⟩
 cases h;exact ⟨rfl,rfl⟩
noncomputable def I4 (a0:SAlgebra):Option SAlgebra:=
 (Aj (F9 a0) ((0:Int),{ Size:=a0.Size,Ops:=Al SOp })).bind fun q5_3=>
 some q5_3
theorem Af0 {a0:SAlgebra} {v:SAlgebra} (h:I4 a0=some v):Ret Tryz.prog Sq [(Ae false) a0] ((Ae true) v):=by
 refine A6 Awv (Nat.le_of_ble_eq_true rfl) ?_
 unfold I4 at h
 refine Cells.lit rfl rfl<|SetKids.lit rfl<|LoopQ.o [4,3,2,1] (Sk a0) (Z8 a0) h (fun s o h=>Al9 s o h) (by rfl) (fun _=>rfl) ?_
 rintro q5_3 h
 try dsimp only at h
 refine Cells.lit rfl rfl<|SetKids.lit rfl ?_
 cases h;exact (by rfl)
noncomputable def E9 (l0:List Int) (n0:Int):(Int×(List Bool))→Option ((Int×(List Bool)) ⊕ (Unit ⊕ Unit)):=fun (x6,x5)=>
 if x6<n0 then
 ask ((0:Int)≤x6∧x6<(↑l0.length:Int)) <|
 ask ((0:Int)≤nth l0 x6.toNat∧nth l0 x6.toNat<(↑x5.length:Int)) <|
 if (nth x5 (nth l0 x6.toNat).toNat)=true then
 some (.inr (.inl ()))
 else
 ask ((0:Int)≤x6∧x6<(↑l0.length:Int)) <|
 ask ((0:Int)≤nth l0 x6.toNat∧nth l0 x6.toNat<(↑x5.length:Int)) <|
 ask (InI (x6+(1:Int))) <|
 some (.inl (x6+(1:Int),x5.set (nth l0 x6.toNat).toNat true))
 else
 some (.inr (.inr ()))
def Pw (l0:List Int) (n0:Int):(Int×(List Bool))→St:=fun s=>[(6,A.val (Ag s.1)),(5,A.val ((slr true 1 V.bool) s.2)),(0,A.val ((slr false 1 Ag) (l0))),(1,A.val (Ag (n0)))]
def X4 (_l0:List Int) (_n0:Int):(Unit ⊕ Unit)→Tgt
 | (.inl _s)=>(Ex.ret,[4],[(4,A.val (V.bool (false)))])
 | (.inr _s)=>((Ex.exit 0),[],[])
theorem Ah7 {l0:List Int} {n0:Int} (s:(Int×(List Bool))) (o:(Int×(List Bool)) ⊕ (Unit ⊕ Unit)) (h:E9 l0 n0 s=some o):vc Tryz.prog Xg (Cr [6,5,0,1] (Pw l0 n0) (X4 l0 n0) o) (Pw l0 n0 s):=by
 obtain ⟨x6,x5⟩:=s
 unfold E9 at h
 try dsimp only at h
 refine Br.od h (fun p6 h=> ?_) (fun p6 h=> ?_)
 ·refine Len.map<|Ask.o h fun p7 h=>Elem.o (by first | omega | (simp [Aq] at * <;> omega))<|Len.map<|Ask.o h fun p8 h=>Cells.one (fun _=>⟨rfl,rfl⟩) (by first | omega | (simp [Aq] at * <;> omega))<|Br.ob h (fun p9 h=> ?_) (fun p9 h=> ?_)
  ·cases h;exact ⟨rfl,rfl⟩
  refine Len.map<|Ask.o h fun p10 h=>Elem.o (by first | omega | (simp [Aq] at * <;> omega))<|Len.map<|Ask.o h fun p11 h=>SetKids.one (fun _=>⟨rfl,rfl⟩) (true) (by rfl) (by first | omega | (simp [Aq] at * <;> omega))<|Ask.o h fun p12 h=> ?_
  cases h;exact ⟨rfl,rfl⟩
 cases h;exact ⟨rfl,rfl⟩
noncomputable def Ju (l0:(List Int)) (n0:Int):Option Bool:=
 ((if (↑l0.length:Int)≠n0 then
 some (.inl ())
 else
 (Hl (n0) (l0)).bind fun r2=>
 if (r2)=true then
 some (.inr ())
 else
 some (.inl ()):Option (Unit ⊕ Unit))).bind fun t=>match t with
 | (.inl _)=>(some false)
 | (.inr _)=>(ask ((0:Int)≤n0∧n0≤(↑LIM:Int)) <|
 (Aj (E9 l0 n0) ((0:Int),List.replicate n0.toNat false)).bind fun t=>match t with
 | (.inl _)=>(some false)
 | (.inr _)=>(some true))
theorem Asl {l0:(List Int)} {n0:Int} {v:Bool} (h:Ju l0 n0=some v):Ret Tryz.prog Wy [(slr false 1 Ag) l0,Ag n0] (V.bool v):=by
 refine A6 Aro (Nat.le_of_ble_eq_true rfl) ?_
 unfold Ju at h
 refine CutQ.o (fun t:(Unit ⊕ Unit)=>match t with | (.inl s)=>(Ex.ret,[4],[(4,A.val (V.bool (false)))]) | (.inr s)=>(Ex.normal,[0,1],[(0,A.val ((slr false 1 Ag) (l0))),(1,A.val (Ag (n0)))])) h ?_ ?_
 ·intro t h
  refine Len.map<|Br.on h (fun p1 h=> ?_) (fun p1 h=> ?_)
  ·refine Br.yes<|Br.yes<|Br.yes<|Br.yes<|Br.yes ?_
   cases h;exact ⟨rfl,rfl⟩
  refine Br.no<|Br.no<|CallQ.o V.bool (by rfl) h (fun r h=>Ag1 h) (fun r2 h=> ?_)
  refine Br.no<|Br.no<|Br.flip<|Br.ob h (fun p3 h=> ?_) (fun p3 h=> ?_)
  ·cases h;exact ⟨rfl,rfl⟩
  cases h;exact ⟨rfl,rfl⟩
 rintro (⟨⟩ | ⟨⟩) h
 ·try dsimp only at h
  cases h;exact (by rfl)
 try dsimp only at h
 refine Ask.o h fun p5 h=>MkQ.o V.bool (false) rfl<|LoopQ.o [6,5,0,1] (Pw l0 n0) (X4 l0 n0) h (fun s o h=>Ah7 s o h) (by rfl) (by rintro (_ | _)<;>rfl) ?_
 rintro (⟨⟩ | ⟨⟩) h
 ·try dsimp only at h
  cases h;exact (by rfl)
 try dsimp only at h
 cases h;exact (by rfl)
noncomputable def B7 (u2:List Int):(Int×(List Bool))→Option ((Int×(List Bool)) ⊕ (Unit ⊕ Unit)):=fun (x32,x5)=>
 if x32<(↑u2.length:Int) then
 ask ((0:Int)≤x32∧x32<(↑u2.length:Int)) <|
 if nth u2 x32.toNat≥(0:Int) then
 ask ((0:Int)≤nth u2 x32.toNat∧nth u2 x32.toNat<(↑x5.length:Int)) <|
 if (nth x5 (nth u2 x32.toNat).toNat)=true then
 some (.inr (.inl ()))
 else
 if nth u2 x32.toNat≥(0:Int) then
 ask ((0:Int)≤nth u2 x32.toNat∧nth u2 x32.toNat<(↑x5.length:Int)) <|
 ask (InI (x32+(1:Int))) <|
 some (.inl (x32+(1:Int),x5.set (nth u2 x32.toNat).toNat true))
 else
 ask (InI (x32+(1:Int))) <|
 some (.inl (x32+(1:Int),x5))
 else
 if nth u2 x32.toNat≥(0:Int) then
 ask ((0:Int)≤nth u2 x32.toNat∧nth u2 x32.toNat<(↑x5.length:Int)) <|
 ask (InI (x32+(1:Int))) <|
 some (.inl (x32+(1:Int),x5.set (nth u2 x32.toNat).toNat true))
 else
 ask (InI (x32+(1:Int))) <|
 some (.inl (x32+(1:Int),x5))
 else
 some (.inr (.inr ()))
def Hu (u2:List Int):(Int×(List Bool))→St:=fun s=>[(32,A.val (Ag s.1)),(31,A.val (Ag ((↑u2.length:Int)))),(30,A.ref 51 []),(5,A.val ((slr true 1 V.bool) s.2)),(51,A.val ((slr true 1 Ag) (u2)))]
def L4 (u2:List Int):(Unit ⊕ Unit)→Tgt
 | (.inl _s)=>(Ex.ret,[4,51],[(4,A.val (V.bool (false))),(51,A.val ((slr true 1 Ag) (u2)))])
 | (.inr _s)=>((Ex.exit 0),[51],[(51,A.val ((slr true 1 Ag) (u2)))])
theorem W9 {u2:List Int} (s:(Int×(List Bool))) (o:(Int×(List Bool)) ⊕ (Unit ⊕ Unit)) (h:B7 u2 s=some o):vc Tryz.prog Lu (Cr [32,31,30,5,51] (Hu u2) (L4 u2) o) (Hu u2 s):=by
 obtain ⟨x32,x5⟩:=s
 unfold B7 at h
 try dsimp only at h
 refine Br.od h (fun p6 h=> ?_) (fun p6 h=> ?_)
 ·refine Len.map<|Ask.o h fun p7 h=>Cells.one (fun _=>⟨rfl,rfl⟩) (by first | omega | (simp [Aq] at * <;> omega))<|Br.od h (fun p8 h=> ?_) (fun p8 h=> ?_)
  ·refine Br.yes<|Br.yes<|Len.map<|Ask.o h fun p9 h=>Br.yes<|Cells.one (fun _=>⟨rfl,rfl⟩) (by first | omega | (simp [Aq] at * <;> omega))<|Br.yes<|Br.ob h (fun p10 h=> ?_) (fun p10 h=> ?_)
   ·cases h;exact ⟨rfl,rfl⟩
   refine Br.od h (fun p11 h=> ?_) (fun p11 h=> ?_)
   ·refine Len.map<|Ask.o h fun p12 h=>SetKids.one (fun _=>⟨rfl,rfl⟩) (true) (by rfl) (by first | omega | (simp [Aq] at * <;> omega))<|Ask.o h fun p13 h=> ?_
    cases h;exact ⟨rfl,rfl⟩
   refine Ask.o h fun p14 h=> ?_
   cases h;exact ⟨rfl,rfl⟩
  refine Br.no<|Br.no<|Br.no<|Br.no<|Br.no<|Br.od h (fun p15 h=> ?_) (fun p15 h=> ?_)
  ·refine Len.map<|Ask.o h fun p16 h=>SetKids.one (fun _=>⟨rfl,rfl⟩) (true) (by rfl) (by first | omega | (simp [Aq] at * <;> omega))<|Ask.o h fun p17 h=> ?_
   cases h;exact ⟨rfl,rfl⟩
  refine Ask.o h fun p18 h=> ?_
  cases h;exact ⟨rfl,rfl⟩
 cases h;exact ⟨rfl,rfl⟩
noncomputable def Bt (s0:ShomSearch) (f0:(List Int)):Option (Bool×(List Int)):=
 (Hd (s0.a) (s0.b) (f0)).bind fun (r1,u2)=>
 if (r1)=true then
 if (s0.embed)=true then
 ask ((0:Int)≤s0.b.Size∧s0.b.Size≤(↑LIM:Int)) <|
 (Aj (B7 u2) ((0:Int),List.replicate s0.b.Size.toNat false)).bind fun t=>match t with
 | (.inl _)=>(some (false,u2))
 | (.inr _)=>(some (true,u2))
 else
 some (true,u2)
 else
 some (false,u2)
theorem J3 {s0:ShomSearch} {f0:(List Int)} {v:(Bool×(List Int))} (h:Bt s0 f0=some v):I9 Tryz.prog G3 [(rP false (Gf false)) s0,(slr true 1 Ag) f0] (V.bool v.1) 1 ((slr true 1 Ag) v.2):=by
 refine Lg Aa9 (Nat.le_of_ble_eq_true rfl) ?_
 unfold Bt at h
 refine CallQ.io V.bool (slr true 1 Ag) (by rfl) rfl (fun _=>rfl) (fun _=>⟨rfl,rfl⟩) rfl h (fun r h=>Ami h) (fun r1 u2 h=> ?_)
 refine Br.flip<|Br.ob h (fun p3 h=> ?_) (fun p3 h=> ?_)
 ·refine Br.flip<|Br.ob h (fun p4 h=> ?_) (fun p4 h=> ?_)
  ·refine Ask.o h fun p5 h=>MkQ.o V.bool (false) rfl<|Len.map<|LoopQ.o [32,31,30,5,51] (Hu u2) (L4 u2) h (fun s o h=>W9 s o h) (by rfl) (by rintro (_ | _)<;>rfl) ?_
   rintro (⟨⟩ | ⟨⟩) h
   ·try dsimp only at h
    cases h;exact ⟨(by rfl),(by rfl)⟩
   try dsimp only at h
   cases h;exact ⟨(by rfl),(by rfl)⟩
  cases h;exact ⟨(by rfl),(by rfl)⟩
 cases h;exact ⟨(by rfl),(by rfl)⟩
noncomputable def Ix (a0:SAlgebra) (b0:SAlgebra):Option Bool:=
 (Ef (a0)).bind fun r1=>
 if (r1)=true then
 (Ef (b0)).bind fun r3=>
 if (r3)=true then
 (Jw (a0) (b0)).bind fun r5=>
 some r5
 else
 some false
 else
 some false
theorem Z0 {a0:SAlgebra} {b0:SAlgebra} {v:Bool} (h:Ix a0 b0=some v):Ret Tryz.prog Ov [(Ae false) a0,(Ae false) b0] (V.bool v):=by
 refine A6 Aul (Nat.le_of_ble_eq_true rfl) ?_
 unfold Ix at h
 refine Cells.lit rfl rfl<|CallQ.o V.bool (by rfl) h (fun r h=>Jv h) (fun r1 h=> ?_)
 refine Br.ob h (fun p2 h=> ?_) (fun p2 h=> ?_)
 ·refine Cells.lit rfl rfl<|Br.yes<|CallQ.o V.bool (by rfl) h (fun r h=>Jv h) (fun r3 h=> ?_)
  refine Br.yes<|Br.ob h (fun p4 h=> ?_) (fun p4 h=> ?_)
  ·refine Cells.lit rfl rfl<|Br.yes<|Cells.lit rfl rfl<|Br.yes<|CallQ.o V.bool (by rfl) h (fun r h=>Ad9 h) (fun r5 h=> ?_)
   refine Br.yes ?_
   cases h;exact (by rfl)
  refine Br.no<|Br.no<|Br.no ?_
  cases h;exact (by rfl)
 refine Br.no<|Br.no<|Br.no<|Br.no<|Br.no<|Br.no ?_
 cases h;exact (by rfl)
noncomputable def Fg (a0:SAlgebra) (_b0:SAlgebra) (_into0:Bool) (_onto0:Bool) (_most0:Int):(Int×(List Int))→Option ((Int×(List Int)) ⊕ (List Int)):=fun (x14,x13)=>
 if x14<a0.Size then
 ask ((x13).length+([(-1:Int)]).length≤LIM) <|
 ask (InI (x14+(1:Int))) <|
 some (.inl (x14+(1:Int),x13++[(-1:Int)]))
 else
 some (.inr x13)
def Px (a0:SAlgebra) (b0:SAlgebra) (into0:Bool) (onto0:Bool) (most0:Int):(Int×(List Int))→St:=fun s=>[(14,A.val (Ag s.1)),(13,A.val ((slr true 1 Ag) s.2)),(12,A.val ((rP true (Bc)) ({ a:=a0,b:=b0,into:=into0,onto:=onto0,most:=most0,tries:=(0:Int),found:=Al (List Int) }))),(6,A.val ((rP true (Ae false)) (b0))),(5,A.val ((rP true (Ae false)) (a0))),(2,A.val (V.bool (into0)))]
def Yt (a0:SAlgebra) (b0:SAlgebra) (into0:Bool) (onto0:Bool) (most0:Int):(List Int)→Tgt
 | s=>((Ex.exit 0),[13,12,6,5,2],[(13,A.val ((slr true 1 Ag) s)),(12,A.val ((rP true (Bc)) ({ a:=a0,b:=b0,into:=into0,onto:=onto0,most:=most0,tries:=(0:Int),found:=Al (List Int) }))),(6,A.val ((rP true (Ae false)) (b0))),(5,A.val ((rP true (Ae false)) (a0))),(2,A.val (V.bool (into0)))])
theorem Ai8 {a0:SAlgebra} {b0:SAlgebra} {into0:Bool} {onto0:Bool} {most0:Int} (s:(Int×(List Int))) (o:(Int×(List Int)) ⊕ (List Int)) (h:Fg a0 b0 into0 onto0 most0 s=some o):vc Tryz.prog Yz (Cr [14,13,12,6,5,2] (Px a0 b0 into0 onto0 most0) (Yt a0 b0 into0 onto0 most0) o) (Px a0 b0 into0 onto0 most0 s):=by
 obtain ⟨x14,x13⟩:=s
 unfold Fg at h
 try dsimp only at h
 refine Cells.lit rfl rfl<|Br.od h (fun p1 h=> ?_) (fun p1 h=> ?_)
 ·refine BslQ.o Ag ([(-1:Int)]) (by exact fun _=>⟨rfl,rfl⟩) (by first | rfl | (simp only [Aa,V.fz,fzL,V.up,upL,Ab,Ac,Ad,slr,List.cons_append,List.nil_append];done) | simp [Aa,V.fz,fzL,V.up,upL,Ab,Ac,Ad,slr])<|NoOwn.o (fun _=>rfl)<|AppQ.o (m:=1) Ag (by exact fun _=>⟨rfl,rfl⟩) (x13) ([(-1:Int)]) (by rfl) (by rfl) h fun h=>Ask.o h fun p2 h=> ?_
  cases h;exact ⟨rfl,rfl⟩
 cases h;exact ⟨rfl,rfl⟩
noncomputable def Dg (a0:SAlgebra) (b0:SAlgebra) (into0:Bool) (onto0:Bool) (most0:Int):Option ((List (List Int))×Bool):=
 (Aj (Fg a0 b0 into0 onto0 most0) ((0:Int),Al Int)).bind fun q3_13=>
 (Gv (a0) (b0) (q3_13)).bind fun r4=>
 ((if (r4.snd)=true then
 if (into0)=true then
 (Hv (r4.fst)).bind fun r7=>
 if (r7)=true then
 (Alw fun n=>Au n ({ a:=a0,b:=b0,into:=into0,onto:=onto0,most:=most0,tries:=(0:Int),found:=Al (List Int) }) (r4.fst)).bind fun (_r9,u10)=>
 some u10
 else
 some ({ a:=a0,b:=b0,into:=into0,onto:=onto0,most:=most0,tries:=(0:Int),found:=Al (List Int) })
 else
 (Alw fun n=>Au n ({ a:=a0,b:=b0,into:=into0,onto:=onto0,most:=most0,tries:=(0:Int),found:=Al (List Int) }) (r4.fst)).bind fun (_r11,u12)=>
 some u12
 else
 some ({ a:=a0,b:=b0,into:=into0,onto:=onto0,most:=most0,tries:=(0:Int),found:=Al (List Int) }):Option Sl7Search)).bind fun q13_12=>
 some (q13_12.found,decide (q13_12.tries≤(5000:Int)))
theorem Qn {a0:SAlgebra} {b0:SAlgebra} {into0:Bool} {onto0:Bool} {most0:Int} {v:((List (List Int))×Bool)} (h:Dg a0 b0 into0 onto0 most0=some v):Ret Tryz.prog Jq [(Ae false) a0,(Ae false) b0,V.bool into0,V.bool onto0,Ag most0] ((fun r=>V.tup [(slr false 1 (slr false 1 Ag)) r.1,V.bool r.2]) v):=by
 refine Ih Aqt (Nat.le_of_ble_eq_true rfl) ?_
 unfold Dg at h
 refine Cells.lit rfl rfl<|Cells.lit rfl rfl<|BslQ.o (slr true 1 Ag) (Al (List Int)) (by exact fun _=>⟨rfl,rfl⟩) (by first | rfl | (simp only [Aa,V.fz,fzL,V.up,upL,Ab,Ac,Ad,slr,List.cons_append,List.nil_append];done) | simp [Aa,V.fz,fzL,V.up,upL,Ab,Ac,Ad,slr])<|BslQ.o Ag (Al Int) (by exact fun _=>⟨rfl,rfl⟩) (by first | rfl | (simp only [Aa,V.fz,fzL,V.up,upL,Ab,Ac,Ad,slr,List.cons_append,List.nil_append];done) | simp [Aa,V.fz,fzL,V.up,upL,Ab,Ac,Ad,slr])<|LoopQ.o [14,13,12,6,5,2] (Px a0 b0 into0 onto0 most0) (Yt a0 b0 into0 onto0 most0) h (fun s o h=>Ai8 s o h) (by rfl) (fun _=>rfl) ?_
 rintro q3_13 h
 try dsimp only at h
 refine Cells.lit rfl rfl<|Cells.lit rfl rfl<|CallQ.rd (fun r=>V.tup [(slr true 1 Ag) r.1,V.bool r.2]) (by first | rfl | simp only [V.fz,fzL,Ab,slr] | simp [Aa,V.fz,fzL,V.up,upL,Ab,Ac,Ad,slr]) (fun _=>by simp [V.noFz,Ch,Bs]) h (fun r h=>Ab8 h) (fun r4 h=> ?_)
 refine CutQ.o (fun t:Sl7Search=>match t with | s=>(Ex.normal,[12],[(12,A.val ((rP true (Bc)) s))])) h ?_ ?_
 ·intro t h
  refine FrzQ.d (V.sl false (1:Nat) (List.map Ag r4.fst)) (by first | (simp only [slr];done) | (simp [Ak,V.fz,Ab,slr];done) | (simp [Ak,V.fz,fzL,Ab,slr];done))<|Br.ob h (fun p5 h=> ?_) (fun p5 h=> ?_)
  ·refine Br.yes<|Br.yes<|Br.flip<|Br.ob h (fun p6 h=> ?_) (fun p6 h=> ?_)
   ·refine Br.no<|CallQ.o V.bool (by rfl) h (fun r h=>Ad5 h) (fun r7 h=> ?_)
    refine Br.yes<|Br.no<|Br.yes<|Br.ob h (fun p8 h=> ?_) (fun p8 h=> ?_)
    ·refine CallQ.io (fun r=>V.tup []) (rP true (Bc)) (by rfl) rfl (fun _=>rfl) (fun _=>⟨rfl,rfl⟩) rfl h (fun r h=>Rk h) (fun r9 u10 h=> ?_)
     cases h;exact ⟨rfl,rfl⟩
    cases h;exact ⟨rfl,rfl⟩
   refine Br.yes<|Br.yes<|Br.yes<|Br.yes<|Br.yes<|CallQ.io (fun r=>V.tup []) (rP true (Bc)) (by rfl) rfl (fun _=>rfl) (fun _=>⟨rfl,rfl⟩) rfl h (fun r h=>Rk h) (fun r11 u12 h=> ?_)
   cases h;exact ⟨rfl,rfl⟩
  refine Br.no<|Br.no<|Br.no<|Br.no<|Br.no ?_
  cases h;exact ⟨rfl,rfl⟩
 rintro q13_12 h
 try dsimp only at h
 refine FrzQ.d ((rP false (En false)) q13_12) ((Ak _).trans (Eq.trans (b:=V.fz ((rP true (Bc)) q13_12)) rfl (Ad (rP true (Bc)) _))) ?_
 cases h;exact (by rfl)
end Go.Proofs.YtmkgjnphianalaaGreat.Ax
