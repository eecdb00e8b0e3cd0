/-
 What the functions compute, as functions on plain data, and that the program does compute it; written by program.
-/
import Derived.Test.YtmkgjnphianalaaCode
import Derived.Test.YtmkgjnphianalaaG1
import Derived.Test.YtmkgjnphianalaaG3
import Derived.Test.YtmkgjnphianalaaG4
import Derived.Test.YtmkgjnphianalaaG5
import Derived.Test.YtmkgjnphianalaaG6
namespace Go.Proofs.Ytmkgjnphianalaa.Ax
open Go
set_option maxRecDepth 100000
set_option maxHeartbeats 4000000
noncomputable def Ez (a0:SAlgebra):Int→Option (Int ⊕ (Unit ⊕ Unit)):=fun x3=>
 if x3<(↑a0.Ops.length:Int) then
 ask ((0:Int)≤x3∧x3<(↑a0.Ops.length:Int)) <|
 (P0 (a0.Size) (nth a0.Ops x3.toNat)).bind fun r7=>
 if (r7)=true then
 ask (InI (x3+(1:Int))) <|
 some (.inl (x3+(1:Int)))
 else
 some (.inr (.inl ()))
 else
 some (.inr (.inr ()))
def Ov (a0:SAlgebra):Int→St:=fun s=>[(3,A.val (Ag s)),(1,A.val ((rP true (Ae false)) (a0)))]
def Wq (_a0:SAlgebra):(Unit ⊕ Unit)→Tgt
 | (.inl _s)=>(Ex.ret,[2],[(2,A.val (V.bool (false)))])
 | (.inr _s)=>((Ex.exit 0),[],[])
theorem Ag5 {a0:SAlgebra} (x3:Int) (o:Int ⊕ (Unit ⊕ Unit)) (h:Ez a0 x3=some o):vc Try.prog Wx (C1 [3,1] (Ov a0) (Wq a0) o) (Ov a0 x3):=by
 unfold Ez at h
 try dsimp only at h
 refine Cells.lit rfl rfl ?_
 refine Len.map ?_
 refine Br.od h (fun p5 h=> ?_) (fun p5 h=> ?_)
 ·refine Cells.lit rfl rfl ?_
  refine Cells.lit rfl rfl ?_
  refine Len.map ?_
  refine Ask.o h fun p6 h=> ?_
  refine Elem.o (by first | omega | (simp [Aw] at * <;> omega)) ?_
  refine CallQ.o V.bool (by rfl) h (fun r h=>Au4 h) (fun r7 h=> ?_)
  refine Br.flip ?_
  refine Br.ob h (fun p8 h=> ?_) (fun p8 h=> ?_)
  ·refine Ask.o h fun p9 h=> ?_
   cases h;exact ⟨rfl,rfl⟩
  cases h;exact ⟨rfl,rfl⟩
 cases h;exact ⟨rfl,rfl⟩
noncomputable def D6 (a0:SAlgebra):Option Bool:=
 (((Eg (a0.Size) ((1:Int)) ((8:Int))).bind fun r1=>
 if (r1)=true then
 if (↑a0.Ops.length:Int)>(4:Int) then
 some (.inl ())
 else
 some (.inr ())
 else
 some (.inl ()):Option (Unit ⊕ Unit))).bind fun t=>match t with
 | (.inl _)=>(some false)
 | (.inr _)=>((Al (Ez a0) (0:Int)).bind fun t=>match t with
 | (.inl _)=>(some false)
 | (.inr _)=>(some true))
theorem Iw {a0:SAlgebra} {v:Bool} (h:D6 a0=some v):Ret Try.prog Fu [(Ae false) a0] (V.bool v):=by
 refine Bb Amq (Nat.le_of_ble_eq_true rfl) ?_
 unfold D6 at h
 refine CutQ.o (fun t:(Unit ⊕ Unit)=>match t with | (.inl s)=>(Ex.ret,[2],[(2,A.val (V.bool (false)))]) | (.inr s)=>(Ex.normal,[1],[(1,A.val ((rP true (Ae false)) (a0)))])) h ?_ ?_
 ·intro t h
  refine Cells.lit rfl rfl ?_
  refine CallQ.o V.bool (by rfl) h (fun r h=>L6 h) (fun r1 h=> ?_)
  refine Br.flip ?_
  refine Br.ob h (fun p2 h=> ?_) (fun p2 h=> ?_)
  ·refine Br.no ?_
   refine Cells.lit rfl rfl ?_
   refine Br.no ?_
   refine Len.map ?_
   refine Br.no ?_
   refine Br.no ?_
   refine Br.od h (fun p3 h=> ?_) (fun p3 h=> ?_)
   ·cases h;exact ⟨rfl,rfl⟩
   cases h;exact ⟨rfl,rfl⟩
  refine Br.yes ?_
  refine Br.yes ?_
  refine Br.yes ?_
  refine Br.yes ?_
  refine Br.yes ?_
  cases h;exact ⟨rfl,rfl⟩
 rintro (⟨⟩ | ⟨⟩) h
 ·try dsimp only at h
  cases h;exact (by rfl)
 try dsimp only at h
 refine LoopQ.o [3,1] (Ov a0) (Wq a0) h (fun s o h=>Ag5 s o h) (by rfl) (by rintro (_ | _)<;>rfl) ?_
 rintro (⟨⟩ | ⟨⟩) h
 ·try dsimp only at h
  cases h;exact (by rfl)
 try dsimp only at h
 cases h;exact (by rfl)
noncomputable def Fk (a0:SAlgebra):(Int×SAlgebra)→Option ((Int×SAlgebra) ⊕ SAlgebra):=fun (x4,x3)=>
 if x4<(↑a0.Ops.length:Int) then
 ask ((0:Int)≤x4∧x4<(↑a0.Ops.length:Int)) <|
 (Pa (nth a0.Ops x4.toNat)).bind fun r3=>
 ask ((x3.Ops).length+([r3]).length≤LIM) <|
 ask (InI (x4+(1:Int))) <|
 some (.inl (x4+(1:Int),{ Size:=x3.Size,Ops:=x3.Ops++[r3] }))
 else
 some (.inr x3)
def Qa (a0:SAlgebra):(Int×SAlgebra)→St:=fun s=>[(4,A.val (Ag s.1)),(3,A.val ((rP true (Ae true)) s.2)),(2,A.val ((rP true (Ae true)) ({ Size:=(0:Int),Ops:=Ao SOp }))),(1,A.val ((rP true (Ae false)) (a0)))]
def X7 (_a0:SAlgebra):SAlgebra→Tgt
 | s=>((Ex.exit 0),[3,2],[(3,A.val ((rP true (Ae true)) s)),(2,A.val ((rP true (Ae true)) ({ Size:=(0:Int),Ops:=Ao SOp })))])
theorem Aip {a0:SAlgebra} (s:(Int×SAlgebra)) (o:(Int×SAlgebra) ⊕ SAlgebra) (h:Fk a0 s=some o):vc Try.prog Ya (C1 [4,3,2,1] (Qa a0) (X7 a0) o) (Qa a0 s):=by
 obtain ⟨x4,x3⟩:=s
 unfold Fk at h
 try dsimp only at h
 refine Cells.lit rfl rfl ?_
 refine Len.map ?_
 refine Br.od h (fun p1 h=> ?_) (fun p1 h=> ?_)
 ·refine Cells.lit rfl rfl ?_
  refine Cells.lit rfl rfl ?_
  refine Len.map ?_
  refine Ask.o h fun p2 h=> ?_
  refine Elem.o (by first | omega | (simp [Aw] at * <;> omega)) ?_
  refine CallP.o (A9 true) (by rfl) h (fun r h=>Anz h) (fun r3 h=> ?_)
  refine BslQ.o (A9 true) [r3] (by exact fun _=>⟨rfl,rfl⟩) (by first | rfl | (simp only [Aa,V.fz,fzL,V.up,upL,Ab,Ac,Ad,slr,List.cons_append,List.nil_append];done) | simp [Aa,V.fz,fzL,V.up,upL,Ab,Ac,Ad,slr]) ?_
  refine NoOwn.own rfl ?_
  refine Kid.lit rfl rfl ?_
  refine Kid.lit rfl rfl ?_
  refine SetKids.lit rfl ?_
  refine AppQ.o (m:=2) (A9 true) (by exact fun _=>⟨rfl,rfl⟩) (x3.Ops) ([r3]) (by rfl) (by rfl) h fun h=> ?_
  refine SetKids.lit rfl ?_
  refine Ask.o h fun p4 h=> ?_
  cases h;exact ⟨rfl,rfl⟩
 cases h;exact ⟨rfl,rfl⟩
noncomputable def H4 (a0:SAlgebra):Option SAlgebra:=
 (Al (Fk a0) ((0:Int),{ Size:=a0.Size,Ops:=Ao SOp })).bind fun q5_3=>
 some q5_3
theorem Adf {a0:SAlgebra} {v:SAlgebra} (h:H4 a0=some v):Ret Try.prog Rc [(Ae false) a0] ((Ae true) v):=by
 refine Bb Aqo (Nat.le_of_ble_eq_true rfl) ?_
 unfold H4 at h
 refine Cells.lit rfl rfl ?_
 refine SetKids.lit rfl ?_
 refine LoopQ.o [4,3,2,1] (Qa a0) (X7 a0) h (fun s o h=>Aip s o h) (by rfl) (fun _=>rfl) ?_
 rintro q5_3 h
 try dsimp only at h
 refine Cells.lit rfl rfl ?_
 refine SetKids.lit rfl ?_
 cases h;exact (by rfl)
noncomputable def Ew (l0:List Int) (n0:Int):(Int×(List Bool))→Option ((Int×(List Bool)) ⊕ (Unit ⊕ Unit)):=fun (x6,x5)=>
 if x6<n0 then
 ask ((0:Int)≤x6∧x6<(↑l0.length:Int)) <|
 ask ((0:Int)≤nth l0 x6.toNat∧nth l0 x6.toNat<(↑x5.length:Int)) <|
 if (nth x5 (nth l0 x6.toNat).toNat)=true then
 some (.inr (.inl ()))
 else
 ask ((0:Int)≤x6∧x6<(↑l0.length:Int)) <|
 ask ((0:Int)≤nth l0 x6.toNat∧nth l0 x6.toNat<(↑x5.length:Int)) <|
 ask (InI (x6+(1:Int))) <|
 some (.inl (x6+(1:Int),x5.set (nth l0 x6.toNat).toNat true))
 else
 some (.inr (.inr ()))
def Nu (l0:List Int) (n0:Int):(Int×(List Bool))→St:=fun s=>[(6,A.val (Ag s.1)),(5,A.val ((slr true 1 V.bool) s.2)),(0,A.val ((slr false 1 Ag) (l0))),(1,A.val (Ag (n0)))]
def Vu (_l0:List Int) (_n0:Int):(Unit ⊕ Unit)→Tgt
 | (.inl _s)=>(Ex.ret,[4],[(4,A.val (V.bool (false)))])
 | (.inr _s)=>((Ex.exit 0),[],[])
theorem Afq {l0:List Int} {n0:Int} (s:(Int×(List Bool))) (o:(Int×(List Bool)) ⊕ (Unit ⊕ Unit)) (h:Ew l0 n0 s=some o):vc Try.prog Vf (C1 [6,5,0,1] (Nu l0 n0) (Vu l0 n0) o) (Nu l0 n0 s):=by
 obtain ⟨x6,x5⟩:=s
 unfold Ew at h
 try dsimp only at h
 refine Br.od h (fun p6 h=> ?_) (fun p6 h=> ?_)
 ·refine Len.map ?_
  refine Ask.o h fun p7 h=> ?_
  refine Elem.o (by first | omega | (simp [Aw] at * <;> omega)) ?_
  refine Len.map ?_
  refine Ask.o h fun p8 h=> ?_
  refine Cells.one (fun _=>⟨rfl,rfl⟩) (by first | omega | (simp [Aw] at * <;> omega)) ?_
  refine Br.ob h (fun p9 h=> ?_) (fun p9 h=> ?_)
  ·cases h;exact ⟨rfl,rfl⟩
  refine Len.map ?_
  refine Ask.o h fun p10 h=> ?_
  refine Elem.o (by first | omega | (simp [Aw] at * <;> omega)) ?_
  refine Len.map ?_
  refine Ask.o h fun p11 h=> ?_
  refine SetKids.one (fun _=>⟨rfl,rfl⟩) (true) (by rfl) (by first | omega | (simp [Aw] at * <;> omega)) ?_
  refine Ask.o h fun p12 h=> ?_
  cases h;exact ⟨rfl,rfl⟩
 cases h;exact ⟨rfl,rfl⟩
noncomputable def Is (l0:(List Int)) (n0:Int):Option Bool:=
 ((if (↑l0.length:Int)≠n0 then
 some (.inl ())
 else
 (Gp (n0) (l0)).bind fun r2=>
 if (r2)=true then
 some (.inr ())
 else
 some (.inl ()):Option (Unit ⊕ Unit))).bind fun t=>match t with
 | (.inl _)=>(some false)
 | (.inr _)=>(ask ((0:Int)≤n0∧n0≤(↑LIM:Int)) <|
 (Al (Ew l0 n0) ((0:Int),List.replicate n0.toNat false)).bind fun t=>match t with
 | (.inl _)=>(some false)
 | (.inr _)=>(some true))
theorem Anx {l0:(List Int)} {n0:Int} {v:Bool} (h:Is l0 n0=some v):Ret Try.prog Un [(slr false 1 Ag) l0,Ag n0] (V.bool v):=by
 refine Bb Anu (Nat.le_of_ble_eq_true rfl) ?_
 unfold Is at h
 refine CutQ.o (fun t:(Unit ⊕ Unit)=>match t with | (.inl s)=>(Ex.ret,[4],[(4,A.val (V.bool (false)))]) | (.inr s)=>(Ex.normal,[0,1],[(0,A.val ((slr false 1 Ag) (l0))),(1,A.val (Ag (n0)))])) h ?_ ?_
 ·intro t h
  refine Len.map ?_
  refine Br.on h (fun p1 h=> ?_) (fun p1 h=> ?_)
  ·refine Br.yes ?_
   refine Br.yes ?_
   refine Br.yes ?_
   refine Br.yes ?_
   refine Br.yes ?_
   cases h;exact ⟨rfl,rfl⟩
  refine Br.no ?_
  refine Br.no ?_
  refine CallQ.o V.bool (by rfl) h (fun r h=>Ads h) (fun r2 h=> ?_)
  refine Br.no ?_
  refine Br.no ?_
  refine Br.flip ?_
  refine Br.ob h (fun p3 h=> ?_) (fun p3 h=> ?_)
  ·cases h;exact ⟨rfl,rfl⟩
  cases h;exact ⟨rfl,rfl⟩
 rintro (⟨⟩ | ⟨⟩) h
 ·try dsimp only at h
  cases h;exact (by rfl)
 try dsimp only at h
 refine Ask.o h fun p5 h=> ?_
 refine MkQ.o V.bool (false) rfl ?_
 refine LoopQ.o [6,5,0,1] (Nu l0 n0) (Vu l0 n0) h (fun s o h=>Afq s o h) (by rfl) (by rintro (_ | _)<;>rfl) ?_
 rintro (⟨⟩ | ⟨⟩) h
 ·try dsimp only at h
  cases h;exact (by rfl)
 try dsimp only at h
 cases h;exact (by rfl)
noncomputable def Dh (a0:SAlgebra):Int→Option (Int ⊕ (Unit ⊕ Unit)):=fun x22=>
 if x22<(↑a0.Ops.length:Int) then
 ask ((0:Int)≤x22∧x22<(↑a0.Ops.length:Int)) <|
 (Pp (nth a0.Ops x22.toNat) (a0.Size)).bind fun r7=>
 if (r7)=true then
 ask (InI (x22+(1:Int))) <|
 some (.inl (x22+(1:Int)))
 else
 some (.inr (.inl ()))
 else
 some (.inr (.inr ()))
def Km (a0:SAlgebra):Int→St:=fun s=>[(22,A.val (Ag s)),(21,A.val (Ag ((↑a0.Ops.length:Int)))),(20,A.val ((slr false 2 (A9 false)) (a0.Ops))),(1,A.val ((rP true (Ae false)) (a0)))]
def Qy (_a0:SAlgebra):(Unit ⊕ Unit)→Tgt
 | (.inl _s)=>(Ex.ret,[2],[(2,A.val (V.bool (false)))])
 | (.inr _s)=>((Ex.exit 0),[],[])
theorem Abj {a0:SAlgebra} (x22:Int) (o:Int ⊕ (Unit ⊕ Unit)) (h:Dh a0 x22=some o):vc Try.prog Qz (C1 [22,21,20,1] (Km a0) (Qy a0) o) (Km a0 x22):=by
 unfold Dh at h
 try dsimp only at h
 refine Br.od h (fun p5 h=> ?_) (fun p5 h=> ?_)
 ·refine Len.map ?_
  refine Ask.o h fun p6 h=> ?_
  refine Elem.o (by first | omega | (simp [Aw] at * <;> omega)) ?_
  refine SetKids.lit rfl ?_
  refine Cells.lit rfl rfl ?_
  refine Cells.lit rfl rfl ?_
  refine CallQ.o V.bool (by rfl) h (fun r h=>Avd h) (fun r7 h=> ?_)
  refine Br.flip ?_
  refine Br.ob h (fun p8 h=> ?_) (fun p8 h=> ?_)
  ·refine Ask.o h fun p9 h=> ?_
   cases h;exact ⟨rfl,rfl⟩
  cases h;exact ⟨rfl,rfl⟩
 cases h;exact ⟨rfl,rfl⟩
noncomputable def D2 (a0:SAlgebra):Option Bool:=
 ((if a0.Size<(1:Int) then
 some (.inl ())
 else
 if a0.Size>(8:Int) then
 some (.inl ())
 else
 if (↑a0.Ops.length:Int)>(4:Int) then
 some (.inl ())
 else
 some (.inr ()):Option (Unit ⊕ Unit))).bind fun t=>match t with
 | (.inl _)=>(some false)
 | (.inr _)=>((Al (Dh a0) (0:Int)).bind fun t=>match t with
 | (.inl _)=>(some false)
 | (.inr _)=>(some true))
theorem Ki {a0:SAlgebra} {v:Bool} (h:D2 a0=some v):Ret Try.prog F0 [(Ae false) a0] (V.bool v):=by
 refine Bb Afx (Nat.le_of_ble_eq_true rfl) ?_
 unfold D2 at h
 refine CutQ.o (fun t:(Unit ⊕ Unit)=>match t with | (.inl s)=>(Ex.ret,[2],[(2,A.val (V.bool (false)))]) | (.inr s)=>(Ex.normal,[1],[(1,A.val ((rP true (Ae false)) (a0)))])) h ?_ ?_
 ·intro t h
  refine Cells.lit rfl rfl ?_
  refine Br.od h (fun p1 h=> ?_) (fun p1 h=> ?_)
  ·refine Br.yes ?_
   refine Br.yes ?_
   refine Br.yes ?_
   refine Br.yes ?_
   refine Br.yes ?_
   refine Br.yes ?_
   refine Br.yes ?_
   refine Br.yes ?_
   refine Br.yes ?_
   cases h;exact ⟨rfl,rfl⟩
  refine Br.no ?_
  refine Cells.lit rfl rfl ?_
  refine Br.no ?_
  refine Br.no ?_
  refine Br.od h (fun p2 h=> ?_) (fun p2 h=> ?_)
  ·refine Br.yes ?_
   refine Br.yes ?_
   refine Br.yes ?_
   refine Br.yes ?_
   refine Br.yes ?_
   cases h;exact ⟨rfl,rfl⟩
  refine Br.no ?_
  refine Cells.lit rfl rfl ?_
  refine Br.no ?_
  refine Len.map ?_
  refine Br.no ?_
  refine Br.no ?_
  refine Br.od h (fun p3 h=> ?_) (fun p3 h=> ?_)
  ·cases h;exact ⟨rfl,rfl⟩
  cases h;exact ⟨rfl,rfl⟩
 rintro (⟨⟩ | ⟨⟩) h
 ·try dsimp only at h
  cases h;exact (by rfl)
 try dsimp only at h
 refine Cells.lit rfl rfl ?_
 refine Len.map ?_
 refine LoopQ.o [22,21,20,1] (Km a0) (Qy a0) h (fun s o h=>Abj s o h) (by rfl) (by rintro (_ | _)<;>rfl) ?_
 rintro (⟨⟩ | ⟨⟩) h
 ·try dsimp only at h
  cases h;exact (by rfl)
 try dsimp only at h
 cases h;exact (by rfl)
noncomputable def Bu (_s0:Sl7Search) (f0:List Int):Int→Option (Int ⊕ Int):=fun x4=>
 if x4<(↑f0.length:Int) then
 ask ((0:Int)≤x4∧x4<(↑f0.length:Int)) <|
 if nth f0 x4.toNat≥(0:Int) then
 ask (InI (x4+(1:Int))) <|
 some (.inl (x4+(1:Int)))
 else
 some (.inr x4)
 else
 some (.inr x4)
def Hg (s0:Sl7Search) (f0:List Int):Int→St:=fun s=>[(4,A.val (Ag s)),(0,A.ref 124 []),(124,A.val ((rP true (Bc)) (s0))),(1,A.val ((slr false 1 Ag) (f0)))]
def L2 (s0:Sl7Search) (f0:List Int):Int→Tgt
 | s=>((Ex.exit 0),[4,0,124,1],[(4,A.val (Ag s)),(0,A.ref 124 []),(124,A.val ((rP true (Bc)) (s0))),(1,A.val ((slr false 1 Ag) (f0)))])
theorem Ve {s0:Sl7Search} {f0:List Int} (x4:Int) (o:Int ⊕ Int) (h:Bu s0 f0 x4=some o):vc Try.prog L3 (C1 [4,0,124,1] (Hg s0 f0) (L2 s0 f0) o) (Hg s0 f0 x4):=by
 unfold Bu at h
 try dsimp only at h
 refine Len.map ?_
 refine Br.od h (fun p1 h=> ?_) (fun p1 h=> ?_)
 ·refine Br.yes ?_
  refine Br.yes ?_
  refine Len.map ?_
  refine Ask.o h fun p2 h=> ?_
  refine Elem.o (by first | omega | (simp [Aw] at * <;> omega)) ?_
  refine Br.yes ?_
  refine Br.yes ?_
  refine Br.yes ?_
  refine Br.od h (fun p3 h=> ?_) (fun p3 h=> ?_)
  ·refine Ask.o h fun p4 h=> ?_
   cases h;exact ⟨rfl,rfl⟩
  cases h;exact ⟨rfl,rfl⟩
 refine Br.no ?_
 refine Br.no ?_
 refine Br.no ?_
 refine Br.no ?_
 refine Br.no ?_
 refine Br.no ?_
 cases h;exact ⟨rfl,rfl⟩
noncomputable def At (self:Sl7Search→List Int→Option (Unit×Sl7Search)) (f0:List Int) (q5_4:Int):(Int×Sl7Search)→Option ((Int×Sl7Search) ⊕ (Sl7Search ⊕ Sl7Search)):=fun (x5,x124)=>
 ((if x5<x124.b.Size then
 if (↑x124.found.length:Int)<x124.most then
 if x124.tries≤(5000:Int) then
 some (.inl ())
 else
 some (.inr ())
 else
 some (.inr ())
 else
 some (.inr ()):Option (Unit ⊕ Unit))).bind fun t=>match t with
 | (.inl _)=>(ask (InI (x124.tries+(1:Int))) <|
 if x124.tries+(1:Int)>(5000:Int) then
 some (.inr (.inl ({ a:=x124.a,b:=x124.b,into:=x124.into,onto:=x124.onto,most:=x124.most,tries:=x124.tries+(1:Int),found:=x124.found })))
 else
 (Ft (f0)).bind fun r17=>
 ask ((0:Int)≤q5_4∧q5_4<(↑r17.length:Int)) <|
 (Do (x124.a) (x124.b) (r17.set q5_4.toNat x5)).bind fun r19=>
 if (r19.snd)=true then
 if (x124.into)=true then
 (E3 (r19.fst)).bind fun r22=>
 if (r22)=true then
 (self ({ a:=x124.a,b:=x124.b,into:=x124.into,onto:=x124.onto,most:=x124.most,tries:=x124.tries+(1:Int),found:=x124.found }) (r19.fst)).bind fun (_r24,u25)=>
 ask (InI (x5+(1:Int))) <|
 some (.inl (x5+(1:Int),u25))
 else
 ask (InI (x5+(1:Int))) <|
 some (.inl (x5+(1:Int),{ a:=x124.a,b:=x124.b,into:=x124.into,onto:=x124.onto,most:=x124.most,tries:=x124.tries+(1:Int),found:=x124.found }))
 else
 (self ({ a:=x124.a,b:=x124.b,into:=x124.into,onto:=x124.onto,most:=x124.most,tries:=x124.tries+(1:Int),found:=x124.found }) (r19.fst)).bind fun (_r28,u29)=>
 ask (InI (x5+(1:Int))) <|
 some (.inl (x5+(1:Int),u29))
 else
 ask (InI (x5+(1:Int))) <|
 some (.inl (x5+(1:Int),{ a:=x124.a,b:=x124.b,into:=x124.into,onto:=x124.onto,most:=x124.most,tries:=x124.tries+(1:Int),found:=x124.found })))
 | (.inr _)=>(some (.inr (.inr x124)))
def Hl (f0:List Int) (q5_4:Int):(Int×Sl7Search)→St:=fun s=>[(5,A.val (Ag s.1)),(4,A.val (Ag (q5_4))),(0,A.ref 124 []),(124,A.val ((rP true (Bc)) s.2)),(1,A.val ((slr false 1 Ag) (f0)))]
def Mb (_f0:List Int) (_q5_4:Int):(Sl7Search ⊕ Sl7Search)→Tgt
 | (.inl s)=>(Ex.ret,[124],[(124,A.val ((rP true (Bc)) s))])
 | (.inr s)=>((Ex.exit 2),[124],[(124,A.val ((rP true (Bc)) s))])
theorem Wc {self:Sl7Search→List Int→Option (Unit×Sl7Search)} {f0:List Int} {q5_4:Int} (hself : ∀ {w_0 w_1 v},self w_0 w_1=some v→H8 Try.prog Cr [(rP true (Bc)) w_0,(slr false 1 Ag) w_1] ((fun _r=>V.tup []) v.1) 0 ((rP true (Bc)) v.2)) (s:(Int×Sl7Search)) (o:(Int×Sl7Search) ⊕ (Sl7Search ⊕ Sl7Search)) (h:At self f0 q5_4 s=some o):vc Try.prog L9 (C1 [5,4,0,124,1] (Hl f0 q5_4) (Mb f0 q5_4) o) (Hl f0 q5_4 s):=by
 obtain ⟨x5,x124⟩:=s
 unfold At at h
 try dsimp only at h
 refine CutQ.o (fun t:(Unit ⊕ Unit)=>match t with | (.inl s)=>(Ex.normal,[5,4,0,124,1],[(5,A.val (Ag (x5))),(4,A.val (Ag (q5_4))),(0,A.ref 124 []),(124,A.val ((rP true (Bc)) (x124))),(1,A.val ((slr false 1 Ag) (f0)))]) | (.inr s)=>((Ex.exit 2),[124],[(124,A.val ((rP true (Bc)) (x124)))])) h ?_ ?_
 ·intro t h
  refine Cells.lit rfl rfl ?_
  refine Br.od h (fun p11 h=> ?_) (fun p11 h=> ?_)
  ·refine Br.yes ?_
   refine Br.yes ?_
   refine Br.yes ?_
   refine Cells.lit rfl rfl ?_
   refine Br.yes ?_
   refine Kid.lit rfl rfl ?_
   refine Len.map ?_
   refine Br.yes ?_
   refine Br.yes ?_
   refine Br.yes ?_
   refine Br.yes ?_
   refine Cells.lit rfl rfl ?_
   refine Br.yes ?_
   refine Br.yes ?_
   refine Br.od h (fun p12 h=> ?_) (fun p12 h=> ?_)
   ·refine Br.yes ?_
    refine Br.yes ?_
    refine Br.yes ?_
    refine Cells.lit rfl rfl ?_
    refine Br.yes ?_
    refine Br.yes ?_
    refine Br.od h (fun p13 h=> ?_) (fun p13 h=> ?_)
    ·cases h;exact ⟨rfl,rfl⟩
    cases h;exact ⟨rfl,rfl⟩
   refine Br.no ?_
   refine Br.no ?_
   refine Br.no ?_
   refine Br.no ?_
   refine Br.no ?_
   refine Br.no ?_
   cases h;exact ⟨rfl,rfl⟩
  refine Br.no ?_
  refine Br.no ?_
  refine Br.no ?_
  refine Br.no ?_
  refine Br.no ?_
  refine Br.no ?_
  refine Br.no ?_
  refine Br.no ?_
  refine Br.no ?_
  refine Br.no ?_
  refine Br.no ?_
  refine Br.no ?_
  refine Br.no ?_
  refine Br.no ?_
  refine Br.no ?_
  refine Br.no ?_
  refine Br.no ?_
  cases h;exact ⟨rfl,rfl⟩
 rintro (⟨⟩ | ⟨⟩) h
 ·try dsimp only at h
  refine Cells.lit rfl rfl ?_
  refine Ask.o h fun p15 h=> ?_
  refine SetKids.lit rfl ?_
  refine Cells.lit rfl rfl ?_
  refine Br.od h (fun p16 h=> ?_) (fun p16 h=> ?_)
  ·cases h;exact ⟨rfl,rfl⟩
  refine CallQ.o (slr true 1 Ag) (by rfl) h (fun r h=>Q4 h) (fun r17 h=> ?_)
  refine Len.map ?_
  refine Ask.o h fun p18 h=> ?_
  refine SetKids.one (fun _=>⟨rfl,rfl⟩) (x5) (by rfl) (by first | omega | (simp [Aw] at * <;> omega)) ?_
  refine Cells.lit rfl rfl ?_
  refine Cells.lit rfl rfl ?_
  refine CallP.rd (fun r=>V.tup [(slr true 1 Ag) r.1,V.bool r.2]) (by first | rfl | simp only [Aa,V.fz,fzL,Ab,slr] | simp [Aa,V.fz,fzL,V.up,upL,Ab,Ac,Ad,slr]) (fun _=>by simp [V.noFz,Cc,Bs]) h (fun r h=>Sp h) (fun r19 h=> ?_)
  refine FrzQ.d (V.sl false (1:Nat) (List.map Ag r19.fst)) (by first | (simp only [slr];done) | (simp [Ak,V.fz,Ab,slr];done) | (simp [Ak,V.fz,fzL,Ab,slr];done)) ?_
  refine Br.ob h (fun p20 h=> ?_) (fun p20 h=> ?_)
  ·refine Br.yes ?_
   refine Br.yes ?_
   refine Br.yes ?_
   refine Cells.lit rfl rfl ?_
   refine Br.yes ?_
   refine Br.yes ?_
   refine Br.flip ?_
   refine Br.ob h (fun p21 h=> ?_) (fun p21 h=> ?_)
   ·refine Br.no ?_
    refine CallQ.o V.bool (by rfl) h (fun r h=>Aby h) (fun r22 h=> ?_)
    refine Br.yes ?_
    refine Br.no ?_
    refine Br.yes ?_
    refine Br.ob h (fun p23 h=> ?_) (fun p23 h=> ?_)
    ·refine CallQ.io (fun r=>V.tup []) (rP true (Bc)) (by rfl) rfl (fun _=>rfl) (fun _=>⟨rfl,rfl⟩) rfl h (fun r h=>hself h) (fun r24 u25 h=> ?_)
     refine Ask.o h fun p26 h=> ?_
     cases h;exact ⟨rfl,rfl⟩
    refine Ask.o h fun p27 h=> ?_
    cases h;exact ⟨rfl,rfl⟩
   refine Br.yes ?_
   refine Br.yes ?_
   refine Br.yes ?_
   refine Br.yes ?_
   refine Br.yes ?_
   refine CallQ.io (fun r=>V.tup []) (rP true (Bc)) (by rfl) rfl (fun _=>rfl) (fun _=>⟨rfl,rfl⟩) rfl h (fun r h=>hself h) (fun r28 u29 h=> ?_)
   refine Ask.o h fun p30 h=> ?_
   cases h;exact ⟨rfl,rfl⟩
  refine Br.no ?_
  refine Br.no ?_
  refine Br.no ?_
  refine Br.no ?_
  refine Br.no ?_
  refine Br.no ?_
  refine Br.no ?_
  refine Br.no ?_
  refine Ask.o h fun p31 h=> ?_
  cases h;exact ⟨rfl,rfl⟩
 try dsimp only at h
 cases h;exact ⟨rfl,rfl⟩
noncomputable def Bq (self:Sl7Search→(List Int)→Option (Unit×Sl7Search)) (s0:Sl7Search) (f0:(List Int)):Option (Unit×Sl7Search):=
 (Al (Bu s0 f0) (0:Int)).bind fun q5_4=>
 if q5_4=(↑f0.length:Int) then
 ((if (s0.onto)=true then
 (Fx (s0.b.Size) (f0)).bind fun r8=>
 some r8
 else
 some true:Option Bool)).bind fun q9_39=>
 if (q9_39)=true then
 ask ((s0.found).length+([f0]).length≤LIM) <|
 some ((),{ a:=s0.a,b:=s0.b,into:=s0.into,onto:=s0.onto,most:=s0.most,tries:=s0.tries,found:=s0.found++[f0] })
 else
 some ((),s0)
 else
 (Al (At self f0 q5_4) ((0:Int),s0)).bind fun t=>match t with
 | (.inl q32_124)=>(some ((),q32_124))
 | (.inr q32_124)=>(some ((),q32_124))
noncomputable def Am:Nat→Sl7Search→(List Int)→Option (Unit×Sl7Search)
 | 0=>fun _ _=>none
 | n+1=>Bq (Am n)
theorem Xn {self:Sl7Search→(List Int)→Option (Unit×Sl7Search)} (hself : ∀ {w_0 w_1 v},self w_0 w_1=some v→H8 Try.prog Cr [(rP true (Bc)) w_0,(slr false 1 Ag) w_1] ((fun _r=>V.tup []) v.1) 0 ((rP true (Bc)) v.2)) {s0:Sl7Search} {f0:(List Int)} {v:(Unit×Sl7Search)} (h:Bq self s0 f0=some v):H8 Try.prog Cr [(rP true (Bc)) s0,(slr false 1 Ag) f0] ((fun _r=>V.tup []) v.1) 0 ((rP true (Bc)) v.2):=by
 refine I7 Zw (Nat.le_of_ble_eq_true rfl) ?_
 unfold Bq at h
 refine LoopQ.o [4,0,124,1] (Hg s0 f0) (L2 s0 f0) h (fun s o h=>Ve s o h) (by rfl) (fun _=>rfl) ?_
 rintro q5_4 h
 try dsimp only at h
 refine Len.map ?_
 refine Br.oe h (fun p6 h=> ?_) (fun p6 h=> ?_)
 ·refine CutQ.o (fun t:Bool=>match t with | s=>(Ex.normal,[39,0,124,1],[(39,A.val (V.bool s)),(0,A.ref 124 []),(124,A.val ((rP true (Bc)) (s0))),(1,A.val ((slr false 1 Ag) (f0)))])) h ?_ ?_
  ·intro t h
   refine Cells.lit rfl rfl ?_
   refine Br.flip ?_
   refine Br.ob h (fun p7 h=> ?_) (fun p7 h=> ?_)
   ·refine Br.no ?_
    refine Br.no ?_
    refine Br.no ?_
    refine Br.no ?_
    refine Cells.lit rfl rfl ?_
    refine Br.no ?_
    refine Br.no ?_
    refine CallQ.o V.bool (by rfl) h (fun r h=>Am0 h) (fun r8 h=> ?_)
    refine Br.no ?_
    cases h;exact ⟨rfl,rfl⟩
   refine Br.yes ?_
   refine Br.yes ?_
   refine Br.yes ?_
   refine Br.yes ?_
   refine Br.yes ?_
   refine Br.yes ?_
   refine Br.yes ?_
   cases h;exact ⟨rfl,rfl⟩
  rintro q9_39 h
  try dsimp only at h
  refine Br.ob h (fun p10 h=> ?_) (fun p10 h=> ?_)
  ·refine Cells.lit rfl rfl ?_
   refine BslQ.o (slr false 1 Ag) [f0] (by exact fun _=>⟨rfl,rfl⟩) (by first | rfl | (simp only [Aa,V.fz,fzL,V.up,upL,Ab,Ac,Ad,slr,List.cons_append,List.nil_append];done) | simp [Aa,V.fz,fzL,V.up,upL,Ab,Ac,Ad,slr]) ?_
   refine NoOwn.o (fun _=>rfl) ?_
   refine Kid.lit rfl rfl ?_
   refine Kid.lit rfl rfl ?_
   refine SetKids.lit rfl ?_
   refine AppQ.o (m:=1) (slr false 1 Ag) (by exact fun _=>⟨rfl,rfl⟩) (s0.found) ([f0]) (by rfl) (by rfl) h fun h=> ?_
   refine SetKids.lit rfl ?_
   cases h;exact ⟨(by rfl),(by rfl)⟩
  cases h;exact ⟨(by rfl),(by rfl)⟩
 refine LoopQ.o [5,4,0,124,1] (Hl f0 q5_4) (Mb f0 q5_4) h (fun s o h=>Wc hself s o h) (by rfl) (by rintro (_ | _)<;>rfl) ?_
 rintro (q32_124 | q32_124) h
 ·try dsimp only at h
  cases h;exact ⟨(by rfl),(by rfl)⟩
 try dsimp only at h
 cases h;exact ⟨(by rfl),(by rfl)⟩
theorem Mk : ∀(n:Nat) {s0:Sl7Search} {f0:(List Int)} {v:(Unit×Sl7Search)},Am n s0 f0=some v→H8 Try.prog Cr [(rP true (Bc)) s0,(slr false 1 Ag) f0] ((fun _r=>V.tup []) v.1) 0 ((rP true (Bc)) v.2)
 | 0,_,_,_,h=>by cases h
 | n+1,_,_,_,h=>Xn (fun h=>Mk n h) h
theorem Pi {s0:Sl7Search} {f0:(List Int)} {v:(Unit×Sl7Search)} (h:(Agn fun n=>Am n s0 f0)=some v):H8 Try.prog Cr [(rP true (Bc)) s0,(slr false 1 Ag) f0] ((fun _r=>V.tup []) v.1) 0 ((rP true (Bc)) v.2):=by
 obtain ⟨n,hn⟩:=Apj h
 exact Mk n hn
noncomputable def Bi (c0:Sl1Cur) (list0:(List Int)):Option (Int×Sl1Cur):=
 (Aq (c0) ((↑list0.length:Int))).bind fun (r1,u2)=>
 ask ((0:Int)≤r1∧r1<(↑list0.length:Int)) <|
 some (nth list0 r1.toNat,u2)
theorem Bw {c0:Sl1Cur} {list0:(List Int)} {v:(Int×Sl1Cur)} (h:Bi c0 list0=some v):H8 Try.prog Bn [(rP true (Aj false)) c0,(slr false 1 Ag) list0] (Ag v.1) 0 ((rP true (Aj false)) v.2):=by
 refine I7 Acx (Nat.le_of_ble_eq_true rfl) ?_
 unfold Bi at h
 refine Len.map ?_
 refine CallQ.io Ag (rP true (Aj false)) (by rfl) rfl (fun _=>rfl) (fun _=>⟨rfl,rfl⟩) rfl h (fun r h=>A4 h) (fun r1 u2 h=> ?_)
 refine Len.map ?_
 refine Ask.o h fun p3 h=> ?_
 refine Elem.o (by first | omega | (simp [Aw] at * <;> omega)) ?_
 cases h;exact ⟨(by rfl),(by rfl)⟩
end Go.Proofs.Ytmkgjnphianalaa.Ax
