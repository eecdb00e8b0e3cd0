/-
 What the functions compute, as functions on plain data, and that the program does compute it; written by program.
-/
import Derived.Test.YtbnoclklhcbidaaDoorCode
import Derived.Test.YtbnoclklhcbidaaDoorG4
import Derived.Test.YtbnoclklhcbidaaDoorG5
import Derived.Test.YtbnoclklhcbidaaDoorG6
namespace Go.Proofs.YtbnoclklhcbidaaDoor.Ax
open Go
set_option maxRecDepth 100000
set_option maxHeartbeats 4000000
noncomputable def Di (_c0:Sl1Cur) (a0:SAlgebra) (_depth0:Int) (_vars0:Int):(Int×(List Int))→Option ((Int×(List Int)) ⊕ (List Int)):=fun (x10,x9)=>
 if x10<(↑a0.Ops.length:Int) then
 ask ((0:Int)≤x10∧x10<(↑a0.Ops.length:Int)) <|
 if (nth a0.Ops x10.toNat).Arity=(0:Int) then
 ask (InI ((-1:Int)-x10)) <|
 ask ((x9).length+([(-1:Int)-x10]).length≤LIM) <|
 ask (InI (x10+(1:Int))) <|
 some (.inl (x10+(1:Int),x9++[(-1:Int)-x10]))
 else
 ask (InI (x10+(1:Int))) <|
 some (.inl (x10+(1:Int),x9))
 else
 some (.inr x9)
def Gk (c0:Sl1Cur) (a0:SAlgebra) (depth0:Int) (vars0:Int):(Int×(List Int))→St:=fun s=>[(10,A.val (Af s.1)),(9,A.val ((slr true 1 Af) s.2)),(5,A.val ((rP true (Ag false)) (a0))),(0,A.ref 96 []),(96,A.val ((rP true (Aj false)) (c0))),(2,A.val (Af (depth0))),(3,A.val (Af (vars0)))]
def J1 (c0:Sl1Cur) (a0:SAlgebra) (depth0:Int) (vars0:Int):(List Int)→Tgt
 | s=>((Ex.exit 0),[9,5,0,96,2,3],[(9,A.val ((slr true 1 Af) s)),(5,A.val ((rP true (Ag false)) (a0))),(0,A.ref 96 []),(96,A.val ((rP true (Aj false)) (c0))),(2,A.val (Af (depth0))),(3,A.val (Af (vars0)))])
theorem Q8 {c0:Sl1Cur} {a0:SAlgebra} {depth0:Int} {vars0:Int} (s:(Int×(List Int))) (o:(Int×(List Int)) ⊕ (List Int)) (h:Di c0 a0 depth0 vars0 s=some o):vc Tryd.prog Kc (Gg [10,9,5,0,96,2,3] (Gk c0 a0 depth0 vars0) (J1 c0 a0 depth0 vars0) o) (Gk c0 a0 depth0 vars0 s):=by
 obtain ⟨x10,x9⟩:=s
 unfold Di at h
 try dsimp only at h
 conv=>whnf
 refine Cells.lit rfl rfl ?_
 conv=>whnf
 refine Len.map ?_
 conv=>whnf
 refine Br.od h (fun p1 h=> ?_) (fun p1 h=> ?_)
 ·conv=>whnf
  refine Cells.lit rfl rfl ?_
  conv=>whnf
  refine Len.map ?_
  conv=>whnf
  refine Ask.o h fun p2 h=> ?_
  conv=>whnf
  refine Elem.o (by first | omega | (simp [A8] at * <;> omega)) ?_
  conv=>whnf
  refine Br.oe h (fun p3 h=> ?_) (fun p3 h=> ?_)
  ·conv=>whnf
   refine Ask.o h fun p4 h=> ?_
   conv=>whnf
   refine BslQ.o Af ([(-1:Int)-x10]) (by exact fun _=>⟨rfl,rfl⟩) (by first | rfl | (simp only [Aa,V.fz,fzL,V.up,upL,Ab,Ac,Ad,slr,List.cons_append,List.nil_append];done) | simp [Aa,V.fz,fzL,V.up,upL,Ab,Ac,Ad,slr]) ?_
   conv=>whnf
   refine NoOwn.o (fun _=>rfl) ?_
   conv=>whnf
   refine AppQ.o (m:=1) Af (by exact fun _=>⟨rfl,rfl⟩) (x9) ([(-1:Int)-x10]) (by first | rfl | simp only [Aa,V.fz,fzL,V.up,upL,Ab,Ac,Ad,slr,List.cons_append,List.nil_append] | simp [Aa,V.fz,fzL,V.up,upL,Ab,Ac,Ad,slr]) (by first | rfl | simp only [Aa,V.fz,fzL,V.up,upL,Ab,Ac,Ad,slr,List.cons_append,List.nil_append] | simp [Aa,V.fz,fzL,V.up,upL,Ab,Ac,Ad,slr]) h fun h=> ?_
   conv=>whnf
   refine Ask.o h fun p5 h=> ?_
   conv=>whnf
   cases h;exact ⟨rfl,rfl⟩
  conv=>whnf
  refine Ask.o h fun p6 h=> ?_
  conv=>whnf
  cases h;exact ⟨rfl,rfl⟩
 conv=>whnf
 cases h;exact ⟨rfl,rfl⟩
noncomputable def Cv (self:Sl1Cur→SAlgebra→Int→Int→Option (List Int×Sl1Cur)) (a0:SAlgebra) (depth0:Int) (vars0:Int) (r26:Int):(Int×(List Int)×Sl1Cur)→Option ((Int×(List Int)×Sl1Cur) ⊕ ((List Int)×Sl1Cur)):=fun (x13,x12,x96)=>
 ask ((0:Int)≤r26∧r26<(↑a0.Ops.length:Int)) <|
 if x13<(nth a0.Ops r26.toNat).Arity then
 ask (InI (depth0-(1:Int))) <|
 (self (x96) (a0) (depth0-(1:Int)) (vars0)).bind fun (r32,u33)=>
 ask ((x12).length+(r32).length≤LIM) <|
 ask (InI (x13+(1:Int))) <|
 some (.inl (x13+(1:Int),x12++r32,u33))
 else
 some (.inr (x12,x96))
def Gl (a0:SAlgebra) (depth0:Int) (vars0:Int) (r26:Int):(Int×(List Int)×Sl1Cur)→St:=fun s=>[(13,A.val (Af s.1)),(12,A.val ((slr true 1 Af) s.2.1)),(11,A.val (Af (r26))),(5,A.val ((rP true (Ag false)) (a0))),(0,A.ref 96 []),(96,A.val ((rP true (Aj false)) s.2.2)),(2,A.val (Af (depth0))),(3,A.val (Af (vars0)))]
def J8 (_a0:SAlgebra) (_depth0:Int) (_vars0:Int) (_r26:Int):((List Int)×Sl1Cur)→Tgt
 | s=>((Ex.exit 2),[12,96],[(12,A.val ((slr true 1 Af) s.1)),(96,A.val ((rP true (Aj false)) s.2))])
theorem Qy {self:Sl1Cur→SAlgebra→Int→Int→Option (List Int×Sl1Cur)} {a0:SAlgebra} {depth0:Int} {vars0:Int} {r26:Int} (hself : ∀ {w_0 w_1 w_2 w_3 v},self w_0 w_1 w_2 w_3=some v→Iq Tryd.prog Bk [(rP true (Aj false)) w_0,(Ag false) w_1,Af w_2,Af w_3] ((slr true 1 Af) v.1) 0 ((rP true (Aj false)) v.2)) (s:(Int×(List Int)×Sl1Cur)) (o:(Int×(List Int)×Sl1Cur) ⊕ ((List Int)×Sl1Cur)) (h:Cv self a0 depth0 vars0 r26 s=some o):vc Tryd.prog J0 (Gg [13,12,11,5,0,96,2,3] (Gl a0 depth0 vars0 r26) (J8 a0 depth0 vars0 r26) o) (Gl a0 depth0 vars0 r26 s):=by
 obtain ⟨x13,x12,x96⟩:=s
 unfold Cv at h
 try dsimp only at h
 conv=>whnf
 refine Cells.lit rfl rfl ?_
 conv=>whnf
 refine Len.map ?_
 conv=>whnf
 refine Ask.o h fun p29 h=> ?_
 conv=>whnf
 refine Elem.o (by first | omega | (simp [A8] at * <;> omega)) ?_
 conv=>whnf
 refine Br.od h (fun p30 h=> ?_) (fun p30 h=> ?_)
 ·conv=>whnf
  refine Cells.lit rfl rfl ?_
  conv=>whnf
  refine Ask.o h fun p31 h=> ?_
  conv=>whnf
  refine CallQ.io (slr true 1 Af) (rP true (Aj false)) (by first | rfl | simp only [Aa,V.fz,fzL,V.up,upL,Ab,Ac,Ad,slr,List.cons_append,List.nil_append] | simp [Aa,V.fz,fzL,V.up,upL,Ab,Ac,Ad,slr]) rfl (fun _=>rfl) (fun _=>⟨rfl,rfl⟩) rfl h (fun r h=>hself h) (fun r32 u33 h=> ?_)
  conv=>whnf
  refine NoOwn.o (fun _=>rfl) ?_
  conv=>whnf
  refine AppQ.o (m:=1) Af (by exact fun _=>⟨rfl,rfl⟩) (x12) (r32) (by first | rfl | simp only [Aa,V.fz,fzL,V.up,upL,Ab,Ac,Ad,slr,List.cons_append,List.nil_append] | simp [Aa,V.fz,fzL,V.up,upL,Ab,Ac,Ad,slr]) (by first | rfl | simp only [Aa,V.fz,fzL,V.up,upL,Ab,Ac,Ad,slr,List.cons_append,List.nil_append] | simp [Aa,V.fz,fzL,V.up,upL,Ab,Ac,Ad,slr]) h fun h=> ?_
  conv=>whnf
  refine Ask.o h fun p34 h=> ?_
  conv=>whnf
  cases h;exact ⟨rfl,rfl⟩
 conv=>whnf
 cases h;exact ⟨rfl,rfl⟩
noncomputable def B4 (self:Sl1Cur→SAlgebra→Int→Int→Option ((List Int)×Sl1Cur)) (c0:Sl1Cur) (a0:SAlgebra) (depth0:Int) (vars0:Int):Option ((List Int)×Sl1Cur):=
 (A7 (Di c0 a0 depth0 vars0) ((0:Int),A4 Int)).bind fun q7_9=>
 ((((if depth0=(0:Int) then
 some (true,c0)
 else
 if (↑a0.Ops.length:Int)=(0:Int) then
 some (true,c0)
 else
 (Cg (c0) ((4:Int))).bind fun (r10,u11)=>
 some (r10,u11):Option (Bool×Sl1Cur))).bind fun (q12_45,q12_96)=>
 if (q12_45)=true then
 ((if vars0=(0:Int) then
 some (true,q12_96)
 else
 if (↑q7_9.length:Int)>(0:Int) then
 (Cg (q12_96) ((4:Int))).bind fun (r16,u17)=>
 some (r16,u17)
 else
 some (false,q12_96):Option (Bool×Sl1Cur))).bind fun (q18_56,q18_96)=>
 if (q18_56)=true then
 if (↑q7_9.length:Int)=(0:Int) then
 some (.inl ([(0:Int)],q18_96))
 else
 (Al (q18_96) (q7_9)).bind fun (r21,u22)=>
 some (.inl ([r21],u22))
 else
 (Am (q18_96) (vars0)).bind fun (r23,u24)=>
 some (.inl ([r23],u24))
 else
 some (.inr q12_96):Option (((List Int)×Sl1Cur) ⊕ Sl1Cur))).bind fun t=>match t with
 | (.inl (q25_8,q25_96))=>(some (q25_8,q25_96))
 | (.inr q25_96)=>((Am (q25_96) ((↑a0.Ops.length:Int))).bind fun (r26,u27)=>
 ask (InI ((-1:Int)-r26)) <|
 (A7 (Cv self a0 depth0 vars0 r26) ((0:Int),[(-1:Int)-r26],u27)).bind fun (q35_12,q35_96)=>
 some (q35_12,q35_96))
noncomputable def A5:Nat→Sl1Cur→SAlgebra→Int→Int→Option ((List Int)×Sl1Cur)
 | 0=>fun _ _ _ _=>none
 | n+1=>B4 (A5 n)
theorem R5 {self:Sl1Cur→SAlgebra→Int→Int→Option ((List Int)×Sl1Cur)} (hself : ∀ {w_0 w_1 w_2 w_3 v},self w_0 w_1 w_2 w_3=some v→Iq Tryd.prog Bk [(rP true (Aj false)) w_0,(Ag false) w_1,Af w_2,Af w_3] ((slr true 1 Af) v.1) 0 ((rP true (Aj false)) v.2)) {c0:Sl1Cur} {a0:SAlgebra} {depth0:Int} {vars0:Int} {v:((List Int)×Sl1Cur)} (h:B4 self c0 a0 depth0 vars0=some v):Iq Tryd.prog Bk [(rP true (Aj false)) c0,(Ag false) a0,Af depth0,Af vars0] ((slr true 1 Af) v.1) 0 ((rP true (Aj false)) v.2):=by
 refine M5 Uj (Nat.le_of_ble_eq_true rfl) ?_
 unfold B4 at h
 conv=>whnf
 refine BslQ.o Af (A4 Int) (by exact fun _=>⟨rfl,rfl⟩) (by first | rfl | (simp only [Aa,V.fz,fzL,V.up,upL,Ab,Ac,Ad,slr,List.cons_append,List.nil_append];done) | simp [Aa,V.fz,fzL,V.up,upL,Ab,Ac,Ad,slr]) ?_
 conv=>whnf
 refine LoopQ.o [10,9,5,0,96,2,3] (Gk c0 a0 depth0 vars0) (J1 c0 a0 depth0 vars0) h (fun s o h=>Q8 s o h) (by first | rfl | simp [restrict,look,Aa,V.fz,fzL,V.up,upL,Ab,Ac,Ad,slr]) (fun _=>rfl) ?_
 rintro q7_9 h
 try dsimp only at h
 conv=>whnf
 refine CutQ.o (fun t:(((List Int)×Sl1Cur) ⊕ Sl1Cur)=>match t with | (.inl s)=>(Ex.ret,[8,96],[(8,A.val ((slr true 1 Af) s.1)),(96,A.val ((rP true (Aj false)) s.2))]) | (.inr s)=>(Ex.normal,[5,0,96,2,3],[(5,A.val ((rP true (Ag false)) (a0))),(0,A.ref 96 []),(96,A.val ((rP true (Aj false)) s)),(2,A.val (Af (depth0))),(3,A.val (Af (vars0)))])) h ?_ ?_
 ·intro t h
  conv=>whnf
  refine CutQ.o (fun t:(Bool×Sl1Cur)=>match t with | s=>(Ex.normal,[45,9,5,0,96,2,3],[(45,A.val (V.bool s.1)),(9,A.val ((slr true 1 Af) (q7_9))),(5,A.val ((rP true (Ag false)) (a0))),(0,A.ref 96 []),(96,A.val ((rP true (Aj false)) s.2)),(2,A.val (Af (depth0))),(3,A.val (Af (vars0)))])) h ?_ ?_
  ·intro t h
   conv=>whnf
   refine Br.oe h (fun p8 h=> ?_) (fun p8 h=> ?_)
   ·conv=>whnf
    refine Br.yes ?_
    conv=>whnf
    refine Br.yes ?_
    conv=>whnf
    refine Br.yes ?_
    conv=>whnf
    refine Br.yes ?_
    conv=>whnf
    refine Br.yes ?_
    conv=>whnf
    refine Br.yes ?_
    conv=>whnf
    refine Br.yes ?_
    conv=>whnf
    cases h;exact ⟨rfl,rfl⟩
   conv=>whnf
   refine Br.no ?_
   conv=>whnf
   refine Cells.lit rfl rfl ?_
   conv=>whnf
   refine Br.no ?_
   conv=>whnf
   refine Len.map ?_
   conv=>whnf
   refine Br.no ?_
   conv=>whnf
   refine Br.no ?_
   conv=>whnf
   refine Br.oe h (fun p9 h=> ?_) (fun p9 h=> ?_)
   ·conv=>whnf
    refine Br.yes ?_
    conv=>whnf
    refine Br.yes ?_
    conv=>whnf
    cases h;exact ⟨rfl,rfl⟩
   conv=>whnf
   refine Br.no ?_
   conv=>whnf
   refine CallQ.io V.bool (rP true (Aj false)) (by first | rfl | simp only [Aa,V.fz,fzL,V.up,upL,Ab,Ac,Ad,slr,List.cons_append,List.nil_append] | simp [Aa,V.fz,fzL,V.up,upL,Ab,Ac,Ad,slr]) rfl (fun _=>rfl) (fun _=>⟨rfl,rfl⟩) rfl h (fun r h=>F7 h) (fun r10 u11 h=> ?_)
   conv=>whnf
   refine Br.no ?_
   conv=>whnf
   cases h;exact ⟨rfl,rfl⟩
  rintro ⟨q12_45,q12_96⟩ h
  try dsimp only at h
  conv=>whnf
  refine Br.ob h (fun p13 h=> ?_) (fun p13 h=> ?_)
  ·conv=>whnf
   refine CutQ.o (fun t:(Bool×Sl1Cur)=>match t with | s=>(Ex.normal,[56,9,0,96,3],[(56,A.val (V.bool s.1)),(9,A.val ((slr true 1 Af) (q7_9))),(0,A.ref 96 []),(96,A.val ((rP true (Aj false)) s.2)),(3,A.val (Af (vars0)))])) h ?_ ?_
   ·intro t h
    conv=>whnf
    refine Br.oe h (fun p14 h=> ?_) (fun p14 h=> ?_)
    ·conv=>whnf
     refine Br.yes ?_
     conv=>whnf
     refine Br.yes ?_
     conv=>whnf
     refine Br.yes ?_
     conv=>whnf
     refine Br.yes ?_
     conv=>whnf
     refine Br.yes ?_
     conv=>whnf
     cases h;exact ⟨rfl,rfl⟩
    conv=>whnf
    refine Br.no ?_
    conv=>whnf
    refine Len.map ?_
    conv=>whnf
    refine Br.no ?_
    conv=>whnf
    refine Br.no ?_
    conv=>whnf
    refine Br.od h (fun p15 h=> ?_) (fun p15 h=> ?_)
    ·conv=>whnf
     refine Br.yes ?_
     conv=>whnf
     refine CallQ.io V.bool (rP true (Aj false)) (by first | rfl | simp only [Aa,V.fz,fzL,V.up,upL,Ab,Ac,Ad,slr,List.cons_append,List.nil_append] | simp [Aa,V.fz,fzL,V.up,upL,Ab,Ac,Ad,slr]) rfl (fun _=>rfl) (fun _=>⟨rfl,rfl⟩) rfl h (fun r h=>F7 h) (fun r16 u17 h=> ?_)
     conv=>whnf
     refine Br.no ?_
     conv=>whnf
     refine Br.yes ?_
     conv=>whnf
     refine Br.no ?_
     conv=>whnf
     cases h;exact ⟨rfl,rfl⟩
    conv=>whnf
    refine Br.no ?_
    conv=>whnf
    refine Br.no ?_
    conv=>whnf
    refine Br.no ?_
    conv=>whnf
    refine Br.no ?_
    conv=>whnf
    cases h;exact ⟨rfl,rfl⟩
   rintro ⟨q18_56,q18_96⟩ h
   try dsimp only at h
   conv=>whnf
   refine Br.ob h (fun p19 h=> ?_) (fun p19 h=> ?_)
   ·conv=>whnf
    refine Len.map ?_
    conv=>whnf
    refine Br.oe h (fun p20 h=> ?_) (fun p20 h=> ?_)
    ·conv=>whnf
     refine BslQ.o Af ([(0:Int)]) (by exact fun _=>⟨rfl,rfl⟩) (by first | rfl | (simp only [Aa,V.fz,fzL,V.up,upL,Ab,Ac,Ad,slr,List.cons_append,List.nil_append];done) | simp [Aa,V.fz,fzL,V.up,upL,Ab,Ac,Ad,slr]) ?_
     conv=>whnf
     cases h;exact ⟨rfl,rfl⟩
    conv=>whnf
    refine FrzQ.d (V.sl false (1:Nat) (List.map Af q7_9)) (by first | (simp only [slr];done) | (simp [Ak,V.fz,Ab,slr];done) | (simp [Ak,V.fz,fzL,Ab,slr];done)) ?_
    conv=>whnf
    refine CallQ.io Af (rP true (Aj false)) (by first | rfl | simp only [Aa,V.fz,fzL,V.up,upL,Ab,Ac,Ad,slr,List.cons_append,List.nil_append] | simp [Aa,V.fz,fzL,V.up,upL,Ab,Ac,Ad,slr]) rfl (fun _=>rfl) (fun _=>⟨rfl,rfl⟩) rfl h (fun r h=>As h) (fun r21 u22 h=> ?_)
    conv=>whnf
    refine BslQ.o Af [r21] (by exact fun _=>⟨rfl,rfl⟩) (by first | rfl | (simp only [Aa,V.fz,fzL,V.up,upL,Ab,Ac,Ad,slr,List.cons_append,List.nil_append];done) | simp [Aa,V.fz,fzL,V.up,upL,Ab,Ac,Ad,slr]) ?_
    conv=>whnf
    cases h;exact ⟨rfl,rfl⟩
   conv=>whnf
   refine CallQ.io Af (rP true (Aj false)) (by first | rfl | simp only [Aa,V.fz,fzL,V.up,upL,Ab,Ac,Ad,slr,List.cons_append,List.nil_append] | simp [Aa,V.fz,fzL,V.up,upL,Ab,Ac,Ad,slr]) rfl (fun _=>rfl) (fun _=>⟨rfl,rfl⟩) rfl h (fun r h=>Ar h) (fun r23 u24 h=> ?_)
   conv=>whnf
   refine BslQ.o Af [r23] (by exact fun _=>⟨rfl,rfl⟩) (by first | rfl | (simp only [Aa,V.fz,fzL,V.up,upL,Ab,Ac,Ad,slr,List.cons_append,List.nil_append];done) | simp [Aa,V.fz,fzL,V.up,upL,Ab,Ac,Ad,slr]) ?_
   conv=>whnf
   cases h;exact ⟨rfl,rfl⟩
  conv=>whnf
  cases h;exact ⟨rfl,rfl⟩
 rintro (⟨q25_8,q25_96⟩ | q25_96) h
 ·try dsimp only at h
  conv=>whnf
  cases h;exact ⟨(by first | rfl | simp only [Ah,Aa,V.fz,fzL,V.up,upL,Ab,Ac,Ad,slr] | simp [Ah,Aa,V.fz,fzL,V.up,upL,Ab,Ac,Ad,slr]),(by first | rfl | simp only [Ah,Aa,V.fz,fzL,V.up,upL,Ab,Ac,Ad,slr] | simp [Ah,Aa,V.fz,fzL,V.up,upL,Ab,Ac,Ad,slr])⟩
 try dsimp only at h
 conv=>whnf
 refine Cells.lit rfl rfl ?_
 conv=>whnf
 refine Len.map ?_
 conv=>whnf
 refine CallQ.io Af (rP true (Aj false)) (by first | rfl | simp only [Aa,V.fz,fzL,V.up,upL,Ab,Ac,Ad,slr,List.cons_append,List.nil_append] | simp [Aa,V.fz,fzL,V.up,upL,Ab,Ac,Ad,slr]) rfl (fun _=>rfl) (fun _=>⟨rfl,rfl⟩) rfl h (fun r h=>Ar h) (fun r26 u27 h=> ?_)
 conv=>whnf
 refine Ask.o h fun p28 h=> ?_
 conv=>whnf
 refine BslQ.o Af ([(-1:Int)-r26]) (by exact fun _=>⟨rfl,rfl⟩) (by first | rfl | (simp only [Aa,V.fz,fzL,V.up,upL,Ab,Ac,Ad,slr,List.cons_append,List.nil_append];done) | simp [Aa,V.fz,fzL,V.up,upL,Ab,Ac,Ad,slr]) ?_
 conv=>whnf
 refine LoopQ.o [13,12,11,5,0,96,2,3] (Gl a0 depth0 vars0 r26) (J8 a0 depth0 vars0 r26) h (fun s o h=>Qy hself s o h) (by first | rfl | simp [restrict,look,Aa,V.fz,fzL,V.up,upL,Ab,Ac,Ad,slr]) (fun _=>rfl) ?_
 rintro ⟨q35_12,q35_96⟩ h
 try dsimp only at h
 conv=>whnf
 cases h;exact ⟨(by first | rfl | simp only [Ah,Aa,V.fz,fzL,V.up,upL,Ab,Ac,Ad,slr] | simp [Ah,Aa,V.fz,fzL,V.up,upL,Ab,Ac,Ad,slr]),(by first | rfl | simp only [Ah,Aa,V.fz,fzL,V.up,upL,Ab,Ac,Ad,slr] | simp [Ah,Aa,V.fz,fzL,V.up,upL,Ab,Ac,Ad,slr])⟩
theorem Kh : ∀(n:Nat) {c0:Sl1Cur} {a0:SAlgebra} {depth0:Int} {vars0:Int} {v:((List Int)×Sl1Cur)},A5 n c0 a0 depth0 vars0=some v→Iq Tryd.prog Bk [(rP true (Aj false)) c0,(Ag false) a0,Af depth0,Af vars0] ((slr true 1 Af) v.1) 0 ((rP true (Aj false)) v.2)
 | 0,_,_,_,_,_,h=>by cases h
 | n+1,_,_,_,_,_,h=>R5 (fun h=>Kh n h) h
theorem Eo {c0:Sl1Cur} {a0:SAlgebra} {depth0:Int} {vars0:Int} {v:((List Int)×Sl1Cur)} (h:(Li fun n=>A5 n c0 a0 depth0 vars0)=some v):Iq Tryd.prog Bk [(rP true (Aj false)) c0,(Ag false) a0,Af depth0,Af vars0] ((slr true 1 Af) v.1) 0 ((rP true (Aj false)) v.2):=by
 obtain ⟨n,hn⟩:=Ts h
 exact Kh n hn
noncomputable def D0 (a0:SAlgebra) (terms0:List (List Int)):Int→Option (Int ⊕ (Unit ⊕ Unit)):=fun x5=>
 if x5<(↑terms0.length:Int) then
 ask ((0:Int)≤x5∧x5<(↑terms0.length:Int)) <|
 (E0 (a0) (nth terms0 x5.toNat)).bind fun r3=>
 if (r3)=true then
 ask (InI (x5+(1:Int))) <|
 some (.inl (x5+(1:Int)))
 else
 some (.inr (.inl ()))
 else
 some (.inr (.inr ()))
def La (a0:SAlgebra) (terms0:List (List Int)):Int→St:=fun s=>[(5,A.val (Af s)),(2,A.val ((rP true (Ag false)) (a0))),(1,A.val ((slr false 1 (slr false 1 Af)) (terms0)))]
def Qj (_a0:SAlgebra) (_terms0:List (List Int)):(Unit ⊕ Unit)→Tgt
 | (.inl _s)=>(Ex.ret,[4],[(4,A.val (V.bool (false)))])
 | (.inr _s)=>((Ex.exit 0),[],[])
theorem Aap {a0:SAlgebra} {terms0:List (List Int)} (x5:Int) (o:Int ⊕ (Unit ⊕ Unit)) (h:D0 a0 terms0 x5=some o):vc Tryd.prog Ps (Gg [5,2,1] (La a0 terms0) (Qj a0 terms0) o) (La a0 terms0 x5):=by
 unfold D0 at h
 try dsimp only at h
 conv=>whnf
 refine Len.map ?_
 conv=>whnf
 refine Br.od h (fun p1 h=> ?_) (fun p1 h=> ?_)
 ·conv=>whnf
  refine Cells.lit rfl rfl ?_
  conv=>whnf
  refine Len.map ?_
  conv=>whnf
  refine Ask.o h fun p2 h=> ?_
  conv=>whnf
  refine Elem.o (by first | omega | (simp [A8] at * <;> omega)) ?_
  conv=>whnf
  refine CallQ.o V.bool (by first | rfl | simp only [Aa,V.fz,fzL,V.up,upL,Ab,Ac,Ad,slr,List.cons_append,List.nil_append] | simp [Aa,V.fz,fzL,V.up,upL,Ab,Ac,Ad,slr]) h (fun r h=>Lc h) (fun r3 h=> ?_)
  conv=>whnf
  refine Br.flip ?_
  conv=>whnf
  refine Br.ob h (fun p4 h=> ?_) (fun p4 h=> ?_)
  ·conv=>whnf
   refine Ask.o h fun p5 h=> ?_
   conv=>whnf
   cases h;exact ⟨rfl,rfl⟩
  conv=>whnf
  cases h;exact ⟨rfl,rfl⟩
 conv=>whnf
 cases h;exact ⟨rfl,rfl⟩
noncomputable def Iu (a0:SAlgebra) (terms0:(List (List Int))):Option Bool:=
 (A7 (D0 a0 terms0) (0:Int)).bind fun t=>match t with
 | (.inl _)=>(some false)
 | (.inr _)=>(some true)
theorem Afl {a0:SAlgebra} {terms0:(List (List Int))} {v:Bool} (h:Iu a0 terms0=some v):Ret Tryd.prog Pf [(Ag false) a0,(slr false 1 (slr false 1 Af)) terms0] (V.bool v):=by
 refine Bp Afz (Nat.le_of_ble_eq_true rfl) ?_
 unfold Iu at h
 conv=>whnf
 refine LoopQ.o [5,2,1] (La a0 terms0) (Qj a0 terms0) h (fun s o h=>Aap s o h) (by first | rfl | simp [restrict,look,Aa,V.fz,fzL,V.up,upL,Ab,Ac,Ad,slr]) (by rintro (_ | _)<;>rfl) ?_
 rintro (⟨⟩ | ⟨⟩) h
 ·try dsimp only at h
  conv=>whnf
  cases h;exact (by first | rfl | simp only [Ah,Aa,V.fz,fzL,V.up,upL,Ab,Ac,Ad,slr] | simp [Ah,Aa,V.fz,fzL,V.up,upL,Ab,Ac,Ad,slr])
 try dsimp only at h
 conv=>whnf
 cases h;exact (by first | rfl | simp only [Ah,Aa,V.fz,fzL,V.up,upL,Ab,Ac,Ad,slr] | simp [Ah,Aa,V.fz,fzL,V.up,upL,Ab,Ac,Ad,slr])
noncomputable def Fk (a0:SAlgebra) (t0:(List Int)):Option (ByteArray×Bool):=
 (D5 (a0) (t0)).bind fun r1=>
 if (r1)=true then
 (Fh (a0) (t0)).bind fun r3=>
 some (r3,true)
 else
 some ((ByteArray.mk #[]),false)
theorem Rr {a0:SAlgebra} {t0:(List Int)} {v:(ByteArray×Bool)} (h:Fk a0 t0=some v):Ret Tryd.prog I2 [(Ag false) a0,(slr false 1 Af) t0] ((fun r=>V.tup [V.str r.1,V.bool r.2]) v):=by
 refine Bp Abg (Nat.le_of_ble_eq_true rfl) ?_
 unfold Fk at h
 conv=>whnf
 refine Cells.lit rfl rfl ?_
 conv=>whnf
 refine CallQ.o V.bool (by first | rfl | simp only [Aa,V.fz,fzL,V.up,upL,Ab,Ac,Ad,slr,List.cons_append,List.nil_append] | simp [Aa,V.fz,fzL,V.up,upL,Ab,Ac,Ad,slr]) h (fun r h=>Iy h) (fun r1 h=> ?_)
 conv=>whnf
 refine Br.flip ?_
 conv=>whnf
 refine Br.ob h (fun p2 h=> ?_) (fun p2 h=> ?_)
 ·conv=>whnf
  refine Cells.lit rfl rfl ?_
  conv=>whnf
  refine CallQ.o V.str (by first | rfl | simp only [Aa,V.fz,fzL,V.up,upL,Ab,Ac,Ad,slr,List.cons_append,List.nil_append] | simp [Aa,V.fz,fzL,V.up,upL,Ab,Ac,Ad,slr]) h (fun r h=>Rw h) (fun r3 h=> ?_)
  conv=>whnf
  cases h;exact (by first | rfl | simp only [Ah,Aa,V.fz,fzL,V.up,upL,Ab,Ac,Ad,slr] | simp [Ah,Aa,V.fz,fzL,V.up,upL,Ab,Ac,Ad,slr])
 conv=>whnf
 cases h;exact (by first | rfl | simp only [Ah,Aa,V.fz,fzL,V.up,upL,Ab,Ac,Ad,slr] | simp [Ah,Aa,V.fz,fzL,V.up,upL,Ab,Ac,Ad,slr])
noncomputable def Gz (a0:SAlgebra) (t0:(List Int)):Option (ByteArray×Bool):=
 (Cq (a0) (t0)).bind fun r1=>
 if (r1)=true then
 (Li fun n=>Ca n (a0) (t0)).bind fun r3=>
 some (r3,true)
 else
 some ((ByteArray.mk #[]),false)
theorem Ab8 {a0:SAlgebra} {t0:(List Int)} {v:(ByteArray×Bool)} (h:Gz a0 t0=some v):Ret Tryd.prog L5 [(Ag false) a0,(slr false 1 Af) t0] ((fun r=>V.tup [V.str r.1,V.bool r.2]) v):=by
 refine Bp Aca (Nat.le_of_ble_eq_true rfl) ?_
 unfold Gz at h
 conv=>whnf
 refine Cells.lit rfl rfl ?_
 conv=>whnf
 refine CallQ.o V.bool (by first | rfl | simp only [Aa,V.fz,fzL,V.up,upL,Ab,Ac,Ad,slr,List.cons_append,List.nil_append] | simp [Aa,V.fz,fzL,V.up,upL,Ab,Ac,Ad,slr]) h (fun r h=>Fb h) (fun r1 h=> ?_)
 conv=>whnf
 refine Br.flip ?_
 conv=>whnf
 refine Br.ob h (fun p2 h=> ?_) (fun p2 h=> ?_)
 ·conv=>whnf
  refine Cells.lit rfl rfl ?_
  conv=>whnf
  refine CallQ.o V.str (by first | rfl | simp only [Aa,V.fz,fzL,V.up,upL,Ab,Ac,Ad,slr,List.cons_append,List.nil_append] | simp [Aa,V.fz,fzL,V.up,upL,Ab,Ac,Ad,slr]) h (fun r h=>Pb h) (fun r3 h=> ?_)
  conv=>whnf
  cases h;exact (by first | rfl | simp only [Ah,Aa,V.fz,fzL,V.up,upL,Ab,Ac,Ad,slr] | simp [Ah,Aa,V.fz,fzL,V.up,upL,Ab,Ac,Ad,slr])
 conv=>whnf
 cases h;exact (by first | rfl | simp only [Ah,Aa,V.fz,fzL,V.up,upL,Ab,Ac,Ad,slr] | simp [Ah,Aa,V.fz,fzL,V.up,upL,Ab,Ac,Ad,slr])
noncomputable def Cp (t0:List Int):(Int×(List Int)×(List (Int×Int)))→Option ((Int×(List Int)×(List (Int×Int))) ⊕ (List Int)):=fun (x21,x7,x6)=>
 if x21<(↑t0.length:Int) then
 ask ((0:Int)≤x21∧x21<(↑t0.length:Int)) <|
 if nth t0 x21.toNat<(0:Int) then
 ask ((x7).length+([nth t0 x21.toNat]).length≤LIM) <|
 ask (InI (x21+(1:Int))) <|
 some (.inl (x21+(1:Int),x7++[nth t0 x21.toNat],x6))
 else
 if ((Dv x6 (nth t0 x21.toNat)).isSome)=true then
 ask ((x7).length+([(Dv x6 (nth t0 x21.toNat)).getD (0:Int)]).length≤LIM) <|
 ask (InI (x21+(1:Int))) <|
 some (.inl (x21+(1:Int),x7++[(Dv x6 (nth t0 x21.toNat)).getD (0:Int)],x6))
 else
 ask ((x7).length+([(Dv (G8 x6 (nth t0 x21.toNat) (↑x6.length:Int)) (nth t0 x21.toNat)).getD (0:Int)]).length≤LIM) <|
 ask (InI (x21+(1:Int))) <|
 some (.inl (x21+(1:Int),x7++[(Dv (G8 x6 (nth t0 x21.toNat) (↑x6.length:Int)) (nth t0 x21.toNat)).getD (0:Int)],G8 x6 (nth t0 x21.toNat) (↑x6.length:Int)))
 else
 some (.inr x7)
def Hf (t0:List Int):(Int×(List Int)×(List (Int×Int)))→St:=fun s=>[(21,A.val (Af s.1)),(20,A.val (Af ((↑t0.length:Int)))),(19,A.val ((slr false 1 Af) (t0))),(7,A.val ((slr true 1 Af) s.2.1)),(6,A.val ((rMi true (Lf.int IntKind.i64)) s.2.2))]
def Lq (_t0:List Int):(List Int)→Tgt
 | s=>((Ex.exit 0),[7],[(7,A.val ((slr true 1 Af) s))])
theorem Sj {t0:List Int} (s:(Int×(List Int)×(List (Int×Int)))) (o:(Int×(List Int)×(List (Int×Int))) ⊕ (List Int)) (h:Cp t0 s=some o):vc Tryd.prog Ll (Gg [21,20,19,7,6] (Hf t0) (Lq t0) o) (Hf t0 s):=by
 obtain ⟨x21,x7,x6⟩:=s
 unfold Cp at h
 try dsimp only at h
 conv=>whnf
 refine Br.od h (fun p3 h=> ?_) (fun p3 h=> ?_)
 ·conv=>whnf
  refine Len.map ?_
  conv=>whnf
  refine Ask.o h fun p4 h=> ?_
  conv=>whnf
  refine Elem.o (by first | omega | (simp [A8] at * <;> omega)) ?_
  conv=>whnf
  refine Br.od h (fun p5 h=> ?_) (fun p5 h=> ?_)
  ·conv=>whnf
   refine BslQ.o Af ([nth t0 x21.toNat]) (by exact fun _=>⟨rfl,rfl⟩) (by first | rfl | (simp only [Aa,V.fz,fzL,V.up,upL,Ab,Ac,Ad,slr,List.cons_append,List.nil_append];done) | simp [Aa,V.fz,fzL,V.up,upL,Ab,Ac,Ad,slr]) ?_
   conv=>whnf
   refine NoOwn.o (fun _=>rfl) ?_
   conv=>whnf
   refine AppQ.o (m:=1) Af (by exact fun _=>⟨rfl,rfl⟩) (x7) ([nth t0 x21.toNat]) (by first | rfl | simp only [Aa,V.fz,fzL,V.up,upL,Ab,Ac,Ad,slr,List.cons_append,List.nil_append] | simp [Aa,V.fz,fzL,V.up,upL,Ab,Ac,Ad,slr]) (by first | rfl | simp only [Aa,V.fz,fzL,V.up,upL,Ab,Ac,Ad,slr,List.cons_append,List.nil_append] | simp [Aa,V.fz,fzL,V.up,upL,Ab,Ac,Ad,slr]) h fun h=> ?_
   conv=>whnf
   refine Ask.o h fun p6 h=> ?_
   conv=>whnf
   cases h;exact ⟨rfl,rfl⟩
  conv=>whnf
  refine LkQ.two (Lf.int IntKind.i64) Af x6 ((0:Int)) (by first | rfl | simp [A4]) rfl (fun _=>rfl) ?_
  conv=>whnf
  refine Br.flip ?_
  conv=>whnf
  refine Br.ob h (fun p7 h=> ?_) (fun p7 h=> ?_)
  ·conv=>whnf
   refine LkQ.one (Lf.int IntKind.i64) Af x6 ((0:Int)) (by first | rfl | simp [A4]) rfl (fun _=>rfl) ?_
   conv=>whnf
   refine BslQ.o Af ([(Dv x6 (nth t0 x21.toNat)).getD (0:Int)]) (by exact fun _=>⟨rfl,rfl⟩) (by first | rfl | (simp only [Aa,V.fz,fzL,V.up,upL,Ab,Ac,Ad,slr,List.cons_append,List.nil_append];done) | simp [Aa,V.fz,fzL,V.up,upL,Ab,Ac,Ad,slr]) ?_
   conv=>whnf
   refine NoOwn.o (fun _=>rfl) ?_
   conv=>whnf
   refine AppQ.o (m:=1) Af (by exact fun _=>⟨rfl,rfl⟩) (x7) ([(Dv x6 (nth t0 x21.toNat)).getD (0:Int)]) (by first | rfl | simp only [Aa,V.fz,fzL,V.up,upL,Ab,Ac,Ad,slr,List.cons_append,List.nil_append] | simp [Aa,V.fz,fzL,V.up,upL,Ab,Ac,Ad,slr]) (by first | rfl | simp only [Aa,V.fz,fzL,V.up,upL,Ab,Ac,Ad,slr,List.cons_append,List.nil_append] | simp [Aa,V.fz,fzL,V.up,upL,Ab,Ac,Ad,slr]) h fun h=> ?_
   conv=>whnf
   refine Ask.o h fun p8 h=> ?_
   conv=>whnf
   cases h;exact ⟨rfl,rfl⟩
  conv=>whnf
  refine LnQ.o (Lf.int IntKind.i64) x6 rfl ?_
  conv=>whnf
  refine MsQ.o (Lf.int IntKind.i64) x6 (↑x6.length:Int) (by first | rfl | simp [A4]) rfl ?_
  conv=>whnf
  refine LkQ.one (Lf.int IntKind.i64) Af (G8 x6 (nth t0 x21.toNat) (↑x6.length:Int)) ((0:Int)) (by first | rfl | simp [A4]) rfl (fun _=>rfl) ?_
  conv=>whnf
  refine BslQ.o Af ([(Dv (G8 x6 (nth t0 x21.toNat) (↑x6.length:Int)) (nth t0 x21.toNat)).getD (0:Int)]) (by exact fun _=>⟨rfl,rfl⟩) (by first | rfl | (simp only [Aa,V.fz,fzL,V.up,upL,Ab,Ac,Ad,slr,List.cons_append,List.nil_append];done) | simp [Aa,V.fz,fzL,V.up,upL,Ab,Ac,Ad,slr]) ?_
  conv=>whnf
  refine NoOwn.o (fun _=>rfl) ?_
  conv=>whnf
  refine AppQ.o (m:=1) Af (by exact fun _=>⟨rfl,rfl⟩) (x7) ([(Dv (G8 x6 (nth t0 x21.toNat) (↑x6.length:Int)) (nth t0 x21.toNat)).getD (0:Int)]) (by first | rfl | simp only [Aa,V.fz,fzL,V.up,upL,Ab,Ac,Ad,slr,List.cons_append,List.nil_append] | simp [Aa,V.fz,fzL,V.up,upL,Ab,Ac,Ad,slr]) (by first | rfl | simp only [Aa,V.fz,fzL,V.up,upL,Ab,Ac,Ad,slr,List.cons_append,List.nil_append] | simp [Aa,V.fz,fzL,V.up,upL,Ab,Ac,Ad,slr]) h fun h=> ?_
  conv=>whnf
  refine Ask.o h fun p9 h=> ?_
  conv=>whnf
  cases h;exact ⟨rfl,rfl⟩
 conv=>whnf
 cases h;exact ⟨rfl,rfl⟩
noncomputable def Ee (a0:SAlgebra) (t0:(List Int)):Option ((List Int)×Bool):=
 (D5 (a0) (t0)).bind fun r1=>
 if (r1)=true then
 (A7 (Cp t0) ((0:Int),A4 Int,A4 (Int×Int))).bind fun q10_7=>
 some (q10_7,true)
 else
 some (A4 Int,false)
theorem Oe {a0:SAlgebra} {t0:(List Int)} {v:((List Int)×Bool)} (h:Ee a0 t0=some v):Ret Tryd.prog Hc [(Ag false) a0,(slr false 1 Af) t0] ((fun r=>V.tup [(slr true 1 Af) r.1,V.bool r.2]) v):=by
 refine Bp Xs (Nat.le_of_ble_eq_true rfl) ?_
 unfold Ee at h
 conv=>whnf
 refine Cells.lit rfl rfl ?_
 conv=>whnf
 refine CallQ.o V.bool (by first | rfl | simp only [Aa,V.fz,fzL,V.up,upL,Ab,Ac,Ad,slr,List.cons_append,List.nil_append] | simp [Aa,V.fz,fzL,V.up,upL,Ab,Ac,Ad,slr]) h (fun r h=>Iy h) (fun r1 h=> ?_)
 conv=>whnf
 refine Br.flip ?_
 conv=>whnf
 refine Br.ob h (fun p2 h=> ?_) (fun p2 h=> ?_)
 ·conv=>whnf
  refine BslQ.o Af (A4 Int) (by exact fun _=>⟨rfl,rfl⟩) (by first | rfl | (simp only [Aa,V.fz,fzL,V.up,upL,Ab,Ac,Ad,slr,List.cons_append,List.nil_append];done) | simp [Aa,V.fz,fzL,V.up,upL,Ab,Ac,Ad,slr]) ?_
  conv=>whnf
  refine Len.map ?_
  conv=>whnf
  refine LoopQ.o [21,20,19,7,6] (Hf t0) (Lq t0) h (fun s o h=>Sj s o h) (by first | rfl | simp [restrict,look,Aa,V.fz,fzL,V.up,upL,Ab,Ac,Ad,slr]) (fun _=>rfl) ?_
  rintro q10_7 h
  try dsimp only at h
  conv=>whnf
  cases h;exact (by first | rfl | simp only [Ah,Aa,V.fz,fzL,V.up,upL,Ab,Ac,Ad,slr] | simp [Ah,Aa,V.fz,fzL,V.up,upL,Ab,Ac,Ad,slr])
 conv=>whnf
 refine BslQ.o Af (A4 Int) (by exact fun _=>⟨rfl,rfl⟩) (by first | rfl | (simp only [Aa,V.fz,fzL,V.up,upL,Ab,Ac,Ad,slr,List.cons_append,List.nil_append];done) | simp [Aa,V.fz,fzL,V.up,upL,Ab,Ac,Ad,slr]) ?_
 conv=>whnf
 cases h;exact (by first | rfl | simp only [Ah,Aa,V.fz,fzL,V.up,upL,Ab,Ac,Ad,slr] | simp [Ah,Aa,V.fz,fzL,V.up,upL,Ab,Ac,Ad,slr])
end Go.Proofs.YtbnoclklhcbidaaDoor.Ax
