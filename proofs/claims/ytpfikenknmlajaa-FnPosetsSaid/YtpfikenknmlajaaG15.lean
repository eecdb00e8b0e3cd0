/-
 What the functions compute, as functions on plain data, and that the program does compute it; written by program.
-/
import Derived.Test.YtpfikenknmlajaaCode
import Derived.Test.YtpfikenknmlajaaG9
import Derived.Test.YtpfikenknmlajaaG13
import Derived.Test.YtpfikenknmlajaaG14
namespace Go.Proofs.Ytpfikenknmlajaa.Ax
open Go
set_option maxRecDepth 100000
set_option maxHeartbeats 4000000
noncomputable def C2 (p0:SPoset) (x8:Int) (r7:Int):(Int×(List Int)×(List Bool))→Option ((Int×(List Int)×(List Bool)) ⊕ ((List Int)×(List Bool))):=fun (x10,x7',x6')=>
 ((if x10<(↑p0.Below.length:Int) then
 ask ((0:Int)≤x8∧x8<(↑x7'.length:Int)) <|
 if nth x7' x8.toNat<(0:Int) then
 some (.inl ())
 else
 some (.inr ())
 else
 some (.inr ()):Option (Unit ⊕ Unit))).bind fun t=>match t with
 | (.inl _)=>((((Hh (p0) (x8) (x10)).bind fun r12=>
 if (r12)=true then
 ask ((0:Int)≤x10∧x10<(↑x6'.length:Int)) <|
 if (nth x6' x10.toNat)=true then
 some (.inl ())
 else
 some (.inr ())
 else
 some (.inl ()):Option (Unit ⊕ Unit))).bind fun t=>match t with
 | (.inl _)=>(ask (InI (x10+(1:Int))) <|
 some (.inl (x10+(1:Int),x7',x6')))
 | (.inr _)=>(ask ((0:Int)≤x10∧x10<(↑x6'.length:Int)) <|
 ask (InI (x8+(1:Int))) <|
 (Fj (p0) (x8+(1:Int)) (x6'.set x10.toNat true)).bind fun r20=>
 ask (InI (r20+(1:Int))) <|
 if r20+(1:Int)=r7 then
 ask ((0:Int)≤x8∧x8<(↑x7'.length:Int)) <|
 ask (InI (x10+(1:Int))) <|
 some (.inl (x10+(1:Int),x7'.set x8.toNat x10,x6'.set x10.toNat true))
 else
 ask ((0:Int)≤x10∧x10<(↑(x6'.set x10.toNat true).length:Int)) <|
 ask (InI (x10+(1:Int))) <|
 some (.inl (x10+(1:Int),x7',(x6'.set x10.toNat true).set x10.toNat false))))
 | (.inr _)=>(some (.inr (x7',x6')))
def Ji (p0:SPoset) (x8:Int) (r7:Int):(Int×(List Int)×(List Bool))→St:=fun s=>[(10,A.val (Af s.1)),(9,A.val (Af (r7))),(8,A.val (Af (x8))),(7,A.val ((slr true 1 Af) s.2.1)),(6,A.val ((slr true 1 V.bool) s.2.2)),(5,A.val (Af ((↑p0.Below.length:Int)))),(4,A.val ((slr true 1 (slr true 1 Af)) (Ar (List Int)))),(1,A.val ((rP true (Ag false)) (p0)))]
def Oe (p0:SPoset) (x8:Int) (_r7:Int):((List Int)×(List Bool))→Tgt
 | s=>((Ex.exit 2),[8,7,6,5,4,1],[(8,A.val (Af (x8))),(7,A.val ((slr true 1 Af) s.1)),(6,A.val ((slr true 1 V.bool) s.2)),(5,A.val (Af ((↑p0.Below.length:Int)))),(4,A.val ((slr true 1 (slr true 1 Af)) (Ar (List Int)))),(1,A.val ((rP true (Ag false)) (p0)))])
theorem Aa1 {p0:SPoset} {x8:Int} {r7:Int} (s:(Int×(List Int)×(List Bool))) (o:(Int×(List Int)×(List Bool)) ⊕ ((List Int)×(List Bool))) (h:C2 p0 x8 r7 s=some o):vc Try.prog N9 (Cc [10,9,8,7,6,5,4,1] (Ji p0 x8 r7) (Oe p0 x8 r7) o) (Ji p0 x8 r7 s):=by
 obtain ⟨x10,x7',x6'⟩:=s
 unfold C2 at h
 try dsimp only at h
 refine CutQ.o (fun t:(Unit ⊕ Unit)=>match t with | (.inl s)=>(Ex.normal,[10,9,8,7,6,5,4,1],[(10,A.val (Af (x10))),(9,A.val (Af (r7))),(8,A.val (Af (x8))),(7,A.val ((slr true 1 Af) (x7'))),(6,A.val ((slr true 1 V.bool) (x6'))),(5,A.val (Af ((↑p0.Below.length:Int)))),(4,A.val ((slr true 1 (slr true 1 Af)) (Ar (List Int)))),(1,A.val ((rP true (Ag false)) (p0)))]) | (.inr s)=>((Ex.exit 2),[8,7,6,5,4,1],[(8,A.val (Af (x8))),(7,A.val ((slr true 1 Af) (x7'))),(6,A.val ((slr true 1 V.bool) (x6'))),(5,A.val (Af ((↑p0.Below.length:Int)))),(4,A.val ((slr true 1 (slr true 1 Af)) (Ar (List Int)))),(1,A.val ((rP true (Ag false)) (p0)))])) h ?_ ?_
 ·intro t h
  refine Br.od h (fun p8 h=> ?_) (fun p8 h=> ?_)
  ·refine Br.yes<|Br.yes<|Len.map<|Ask.o h fun p9 h=>Br.yes<|Cells.one (fun _=>⟨rfl,rfl⟩) (by first | omega | (simp [Ak] at * <;> omega))<|Br.yes<|Br.yes<|Br.od h (fun p10 h=> ?_) (fun p10 h=> ?_)
   ·cases h;exact ⟨rfl,rfl⟩
   cases h;exact ⟨rfl,rfl⟩
  refine Br.no<|Br.no<|Br.no<|Br.no<|Br.no<|Br.no ?_
  cases h;exact ⟨rfl,rfl⟩
 rintro (⟨⟩ | ⟨⟩) h
 ·try dsimp only at h
  refine CutQ.o (fun t:(Unit ⊕ Unit)=>match t with | (.inl s)=>((Ex.exit 3),[10,9,8,7,6,5,4,1],[(10,A.val (Af (x10))),(9,A.val (Af (r7))),(8,A.val (Af (x8))),(7,A.val ((slr true 1 Af) (x7'))),(6,A.val ((slr true 1 V.bool) (x6'))),(5,A.val (Af ((↑p0.Below.length:Int)))),(4,A.val ((slr true 1 (slr true 1 Af)) (Ar (List Int)))),(1,A.val ((rP true (Ag false)) (p0)))]) | (.inr s)=>(Ex.normal,[10,9,8,7,6,5,4,1],[(10,A.val (Af (x10))),(9,A.val (Af (r7))),(8,A.val (Af (x8))),(7,A.val ((slr true 1 Af) (x7'))),(6,A.val ((slr true 1 V.bool) (x6'))),(5,A.val (Af ((↑p0.Below.length:Int)))),(4,A.val ((slr true 1 (slr true 1 Af)) (Ar (List Int)))),(1,A.val ((rP true (Ag false)) (p0)))])) h ?_ ?_
  ·intro t h
   refine Cells.lit rfl rfl<|CallQ.o V.bool (by rfl) h (fun r h=>Ui h) (fun r12 h=> ?_)
   refine Br.flip<|Br.ob h (fun p13 h=> ?_) (fun p13 h=> ?_)
   ·refine Br.no<|Br.no<|Len.map<|Ask.o h fun p14 h=>Br.no<|Cells.one (fun _=>⟨rfl,rfl⟩) (by first | omega | (simp [Ak] at * <;> omega))<|Br.no<|Br.ob h (fun p15 h=> ?_) (fun p15 h=> ?_)
    ·cases h;exact ⟨rfl,rfl⟩
    cases h;exact ⟨rfl,rfl⟩
   refine Br.yes<|Br.yes<|Br.yes<|Br.yes<|Br.yes ?_
   cases h;exact ⟨rfl,rfl⟩
  rintro (⟨⟩ | ⟨⟩) h
  ·try dsimp only at h
   refine Ask.o h fun p17 h=> ?_
   cases h;exact ⟨rfl,rfl⟩
  try dsimp only at h
  refine Len.map<|Ask.o h fun p18 h=>SetKids.one (fun _=>⟨rfl,rfl⟩) (true) (by rfl) (by first | omega | (simp [Ak] at * <;> omega))<|Cells.lit rfl rfl<|Ask.o h fun p19 h=>CallQ.rd Af (by first | rfl | simp only [Aa,V.fz,fzL,Ab,slr] | simp [Aa,V.fz,fzL,V.up,upL,Ab,Ac,Ad,slr]) (fun _=>rfl) h (fun r h=>Sy h) (fun r20 h=> ?_)
  refine Ask.o h fun p21 h=>Br.oe h (fun p22 h=> ?_) (fun p22 h=> ?_)
  ·refine Len.map<|Ask.o h fun p23 h=>SetKids.one (fun _=>⟨rfl,rfl⟩) (x10) (by rfl) (by first | omega | (simp [Ak] at * <;> omega))<|Ask.o h fun p24 h=> ?_
   cases h;exact ⟨rfl,rfl⟩
  refine Len.map<|Ask.o h fun p25 h=>SetKids.one (fun _=>⟨rfl,rfl⟩) (false) (by rfl) (by first | omega | (simp [Ak] at * <;> omega))<|Ask.o h fun p26 h=> ?_
  cases h;exact ⟨rfl,rfl⟩
 try dsimp only at h
 cases h;exact ⟨rfl,rfl⟩
noncomputable def E2 (p0:SPoset):(Int×(List Int)×(List Bool))→Option ((Int×(List Int)×(List Bool)) ⊕ ((List Int)×(List Bool))):=fun (x8,x7,x6)=>
 if x8<(↑p0.Below.length:Int) then
 ask ((0:Int)≤x8∧x8<(↑x7.length:Int)) <|
 (Fj (p0) (x8) (x6)).bind fun r7=>
 (Aj (C2 p0 x8 r7) ((0:Int),x7.set x8.toNat (-1:Int),x6)).bind fun (q27_7,q27_6)=>
 ask (InI (x8+(1:Int))) <|
 some (.inl (x8+(1:Int),q27_7,q27_6))
 else
 some (.inr (x7,x6))
def Jy (p0:SPoset):(Int×(List Int)×(List Bool))→St:=fun s=>[(8,A.val (Af s.1)),(7,A.val ((slr true 1 Af) s.2.1)),(6,A.val ((slr true 1 V.bool) s.2.2)),(5,A.val (Af ((↑p0.Below.length:Int)))),(4,A.val ((slr true 1 (slr true 1 Af)) (Ar (List Int)))),(1,A.val ((rP true (Ag false)) (p0)))]
def Oh (p0:SPoset):((List Int)×(List Bool))→Tgt
 | s=>((Ex.exit 0),[7,6,5,4],[(7,A.val ((slr true 1 Af) s.1)),(6,A.val ((slr true 1 V.bool) s.2)),(5,A.val (Af ((↑p0.Below.length:Int)))),(4,A.val ((slr true 1 (slr true 1 Af)) (Ar (List Int))))])
theorem Aaj {p0:SPoset} (s:(Int×(List Int)×(List Bool))) (o:(Int×(List Int)×(List Bool)) ⊕ ((List Int)×(List Bool))) (h:E2 p0 s=some o):vc Try.prog Ow (Cc [8,7,6,5,4,1] (Jy p0) (Oh p0) o) (Jy p0 s):=by
 obtain ⟨x8,x7,x6⟩:=s
 unfold E2 at h
 try dsimp only at h
 refine Br.od h (fun p5 h=> ?_) (fun p5 h=> ?_)
 ·refine Len.map<|Ask.o h fun p6 h=>SetKids.one (fun _=>⟨rfl,rfl⟩) ((-1:Int)) (by rfl) (by first | omega | (simp [Ak] at * <;> omega))<|Cells.lit rfl rfl<|CallQ.rd Af (by first | rfl | simp only [V.fz,fzL,V.up,Ab,Ad,slr] | simp [Aa,V.fz,fzL,V.up,upL,Ab,Ac,Ad,slr]) (fun _=>rfl) h (fun r h=>Sy h) (fun r7 h=> ?_)
  refine LoopQ.o [10,9,8,7,6,5,4,1] (Ji p0 x8 r7) (Oe p0 x8 r7) h (fun s o h=>Aa1 s o h) (by rfl) (fun _=>rfl) ?_
  rintro ⟨q27_7,q27_6⟩ h
  try dsimp only at h
  refine Ask.o h fun p28 h=> ?_
  cases h;exact ⟨rfl,rfl⟩
 cases h;exact ⟨rfl,rfl⟩
noncomputable def Ci (_p0:SPoset) (q29_7:List Int) (_q29_6:List Bool) (_x11:Int) (_x4:List (List Int)):(Int×(List Int))→Option ((Int×(List Int)) ⊕ (List Int)):=fun (x13,x12)=>
 if x13≥(0:Int) then
 ask ((x12).length+([x13]).length≤LIM) <|
 ask ((0:Int)≤x13∧x13<(↑q29_7.length:Int)) <|
 some (.inl (nth q29_7 x13.toNat,x12++[x13]))
 else
 some (.inr x12)
def Jw (p0:SPoset) (q29_7:List Int) (q29_6:List Bool) (x11:Int) (x4:List (List Int)):(Int×(List Int))→St:=fun s=>[(13,A.val (Af s.1)),(12,A.val ((slr true 1 Af) s.2)),(11,A.val (Af (x11))),(7,A.val ((slr true 1 Af) (q29_7))),(6,A.val ((slr true 1 V.bool) (q29_6))),(5,A.val (Af ((↑p0.Below.length:Int)))),(4,A.val ((slr true 1 (slr true 1 Af)) (x4)))]
def Pp (p0:SPoset) (q29_7:List Int) (q29_6:List Bool) (x11:Int) (x4:List (List Int)):(List Int)→Tgt
 | s=>((Ex.exit 6),[12,11,7,6,5,4],[(12,A.val ((slr true 1 Af) s)),(11,A.val (Af (x11))),(7,A.val ((slr true 1 Af) (q29_7))),(6,A.val ((slr true 1 V.bool) (q29_6))),(5,A.val (Af ((↑p0.Below.length:Int)))),(4,A.val ((slr true 1 (slr true 1 Af)) (x4)))])
theorem Aak {p0:SPoset} {q29_7:List Int} {q29_6:List Bool} {x11:Int} {x4:List (List Int)} (s:(Int×(List Int))) (o:(Int×(List Int)) ⊕ (List Int)) (h:Ci p0 q29_7 q29_6 x11 x4 s=some o):vc Try.prog Ps (Cc [13,12,11,7,6,5,4] (Jw p0 q29_7 q29_6 x11 x4) (Pp p0 q29_7 q29_6 x11 x4) o) (Jw p0 q29_7 q29_6 x11 x4 s):=by
 obtain ⟨x13,x12⟩:=s
 unfold Ci at h
 try dsimp only at h
 refine Br.od h (fun p34 h=> ?_) (fun p34 h=> ?_)
 ·refine BslQ.o Af [x13] (by exact fun _=>⟨rfl,rfl⟩) (by first | rfl | (simp only [Aa,V.fz,fzL,V.up,upL,Ab,Ac,Ad,slr,List.cons_append,List.nil_append];done) | simp [Aa,V.fz,fzL,V.up,upL,Ab,Ac,Ad,slr])<|NoOwn.o (fun _=>rfl)<|AppQ.o (m:=1) Af (by exact fun _=>⟨rfl,rfl⟩) (x12) ([x13]) (by rfl) (by rfl) h fun h=>Len.map<|Ask.o h fun p35 h=>Cells.one (fun _=>⟨rfl,rfl⟩) (by first | omega | (simp [Ak] at * <;> omega)) ?_
  cases h;exact ⟨rfl,rfl⟩
 cases h;exact ⟨rfl,rfl⟩
noncomputable def Cx (p0:SPoset) (q29_7:List Int) (q29_6:List Bool):(Int×(List (List Int)))→Option ((Int×(List (List Int))) ⊕ (List (List Int))):=fun (x11,x4)=>
 if x11<(↑p0.Below.length:Int) then
 ask ((0:Int)≤x11∧x11<(↑q29_6.length:Int)) <|
 if (nth q29_6 x11.toNat)=true then
 ask (InI (x11+(1:Int))) <|
 some (.inl (x11+(1:Int),x4))
 else
 (Aj (Ci p0 q29_7 q29_6 x11 x4) (x11,Ar Int)).bind fun q36_12=>
 ask ((x4).length+([q36_12]).length≤LIM) <|
 ask (InI (x11+(1:Int))) <|
 some (.inl (x11+(1:Int),x4++[q36_12]))
 else
 some (.inr x4)
def Jg (p0:SPoset) (q29_7:List Int) (q29_6:List Bool):(Int×(List (List Int)))→St:=fun s=>[(11,A.val (Af s.1)),(7,A.val ((slr true 1 Af) (q29_7))),(6,A.val ((slr true 1 V.bool) (q29_6))),(5,A.val (Af ((↑p0.Below.length:Int)))),(4,A.val ((slr true 1 (slr true 1 Af)) s.2))]
def Pw (_p0:SPoset) (_q29_7:List Int) (_q29_6:List Bool):(List (List Int))→Tgt
 | s=>((Ex.exit 4),[4],[(4,A.val ((slr true 1 (slr true 1 Af)) s))])
theorem Z2 {p0:SPoset} {q29_7:List Int} {q29_6:List Bool} (s:(Int×(List (List Int)))) (o:(Int×(List (List Int))) ⊕ (List (List Int))) (h:Cx p0 q29_7 q29_6 s=some o):vc Try.prog Pf (Cc [11,7,6,5,4] (Jg p0 q29_7 q29_6) (Pw p0 q29_7 q29_6) o) (Jg p0 q29_7 q29_6 s):=by
 obtain ⟨x11,x4⟩:=s
 unfold Cx at h
 try dsimp only at h
 refine Br.od h (fun p30 h=> ?_) (fun p30 h=> ?_)
 ·refine Len.map<|Ask.o h fun p31 h=>Cells.one (fun _=>⟨rfl,rfl⟩) (by first | omega | (simp [Ak] at * <;> omega))<|Br.ob h (fun p32 h=> ?_) (fun p32 h=> ?_)
  ·refine Ask.o h fun p33 h=> ?_
   cases h;exact ⟨rfl,rfl⟩
  refine BslQ.o Af (Ar Int) (by exact fun _=>⟨rfl,rfl⟩) (by first | rfl | (simp only [Aa,V.fz,fzL,V.up,upL,Ab,Ac,Ad,slr,List.cons_append,List.nil_append];done) | simp [Aa,V.fz,fzL,V.up,upL,Ab,Ac,Ad,slr])<|LoopQ.o [13,12,11,7,6,5,4] (Jw p0 q29_7 q29_6 x11 x4) (Pp p0 q29_7 q29_6 x11 x4) h (fun s o h=>Aak s o h) (by rfl) (fun _=>rfl) ?_
  rintro q36_12 h
  try dsimp only at h
  refine BslQ.o (slr true 1 Af) [q36_12] (by exact fun _=>⟨rfl,rfl⟩) (by first | rfl | (simp only [Aa,V.fz,fzL,V.up,upL,Ab,Ac,Ad,slr,List.cons_append,List.nil_append];done) | simp [Aa,V.fz,fzL,V.up,upL,Ab,Ac,Ad,slr])<|NoOwn.own rfl<|AppQ.o (m:=1) (slr true 1 Af) (by exact fun _=>⟨rfl,rfl⟩) (x4) ([q36_12]) (by rfl) (by rfl) h fun h=>Ask.o h fun p37 h=> ?_
  cases h;exact ⟨rfl,rfl⟩
 cases h;exact ⟨rfl,rfl⟩
noncomputable def D1 (p0:SPoset):Option ((List (List Int))×Bool):=
 (Gi (p0)).bind fun r1=>
 if (r1)=true then
 ask ((0:Int)≤(↑p0.Below.length:Int)∧(↑p0.Below.length:Int)≤(↑LIM:Int)) <|
 ask ((0:Int)≤(↑p0.Below.length:Int)∧(↑p0.Below.length:Int)≤(↑LIM:Int)) <|
 (Aj (E2 p0) ((0:Int),List.replicate (↑p0.Below.length:Int).toNat (0:Int),List.replicate (↑p0.Below.length:Int).toNat false)).bind fun (q29_7,q29_6)=>
 (Aj (Cx p0 q29_7 q29_6) ((0:Int),Ar (List Int))).bind fun q38_4=>
 some (q38_4,true)
 else
 some (Ar (List Int),false)
theorem Ad8 {p0:SPoset} {v:((List (List Int))×Bool)} (h:D1 p0=some v):Ret Try.prog Mi [(Ag false) p0] ((fun r=>V.tup [(slr true 1 (slr true 1 Af)) r.1,V.bool r.2]) v):=by
 refine A6 Adl (Nat.le_of_ble_eq_true rfl) ?_
 unfold D1 at h
 refine BslQ.o (slr true 1 Af) (Ar (List Int)) (by exact fun _=>⟨rfl,rfl⟩) (by first | rfl | (simp only [Aa,V.fz,fzL,V.up,upL,Ab,Ac,Ad,slr,List.cons_append,List.nil_append];done) | simp [Aa,V.fz,fzL,V.up,upL,Ab,Ac,Ad,slr])<|Cells.lit rfl rfl<|CallQ.o V.bool (by rfl) h (fun r h=>Pa h) (fun r1 h=> ?_)
 refine Br.flip<|Br.ob h (fun p2 h=> ?_) (fun p2 h=> ?_)
 ·refine Cells.lit rfl rfl<|Len.map<|Ask.o h fun p3 h=>MkQ.o V.bool (false) rfl<|Ask.o h fun p4 h=>MkQ.o Af ((0:Int)) rfl<|LoopQ.o [8,7,6,5,4,1] (Jy p0) (Oh p0) h (fun s o h=>Aaj s o h) (by rfl) (fun _=>rfl) ?_
  rintro ⟨q29_7,q29_6⟩ h
  try dsimp only at h
  refine LoopQ.o [11,7,6,5,4] (Jg p0 q29_7 q29_6) (Pw p0 q29_7 q29_6) h (fun s o h=>Z2 s o h) (by rfl) (fun _=>rfl) ?_
  rintro q38_4 h
  try dsimp only at h
  cases h;exact (by rfl)
 cases h;exact (by rfl)
noncomputable def Jf (code0:(List Int)):Option SPoset:=
 (Hj ({ code:=code0,at_:=(0:Int),seed:=(0:Int) })).bind fun (r1,_u2)=>
 some r1
theorem Afu {code0:(List Int)} {v:SPoset} (h:Jf code0=some v):Ret Try.prog Nb [(slr false 1 (V.int IntKind.u8)) code0] ((Ag false) v):=by
 refine A6 Af2 (Nat.le_of_ble_eq_true rfl) ?_
 unfold Jf at h
 refine CallQ.io (Ag false) (rP true (At false)) (by rfl) rfl (fun _=>rfl) (fun _=>⟨rfl,rfl⟩) rfl h (fun r h=>Afy h) (fun r1 u2 h=> ?_)
 refine SetKids.lit rfl ?_
 cases h;exact (by rfl)
noncomputable def Em (code0:(List Int)):Option SPoset:=
 (Jf (code0)).bind fun r1=>
 some r1
theorem Yt {code0:(List Int)} {v:SPoset} (h:Em code0=some v):Ret Try.prog Iz [(slr false 1 (V.int IntKind.u8)) code0] ((Ag false) v):=by
 refine A6 Yc (Nat.le_of_ble_eq_true rfl) ?_
 unfold Em at h
 refine CallQ.o (Ag false) (by rfl) h (fun r h=>Afu h) (fun r1 h=> ?_)
 refine SetKids.lit rfl ?_
 cases h;exact (by rfl)
end Go.Proofs.Ytpfikenknmlajaa.Ax
