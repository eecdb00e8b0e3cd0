/-
 What the functions compute, as functions on plain data, and that the program does compute it; written by program.
-/
import Derived.Test.YtmkgjnphianalaaGreatCode
import Derived.Test.YtmkgjnphianalaaGreatG1
import Derived.Test.YtmkgjnphianalaaGreatG2
namespace Go.Proofs.YtmkgjnphianalaaGreat.Ax
open Go
set_option maxRecDepth 100000
set_option maxHeartbeats 4000000
noncomputable def C8 (a0:SAlgebra) (b0:SAlgebra) (x10:Int):(Int×Bool×(List Int))→Option ((Int×Bool×(List Int)) ⊕ (Unit ⊕ (Bool×(List Int)))):=fun (x11,x9'',x8'')=>
 ask ((0:Int)≤x10∧x10<(↑a0.Ops.length:Int)) <|
 if x11<(↑(nth a0.Ops x10.toNat).Table.length:Int) then
 ask ((0:Int)≤x10∧x10<(↑a0.Ops.length:Int)) <|
 (Fi (a0.Size) ((nth a0.Ops x10.toNat).Arity) (x11)).bind fun r7=>
 (Eo (x8'') (r7)).bind fun r8=>
 (I2 (r8) ((-1:Int))).bind fun r9=>
 if (r9)=true then
 ask (InI (x11+(1:Int))) <|
 some (.inl (x11+(1:Int),x9'',x8''))
 else
 ask ((0:Int)≤x10∧x10<(↑a0.Ops.length:Int)) <|
 ask ((0:Int)≤x11∧x11<(↑(nth a0.Ops x10.toNat).Table.length:Int)) <|
 (Gu (b0) (x10) (r8)).bind fun r14=>
 ((ask ((0:Int)≤nth (nth a0.Ops x10.toNat).Table x11.toNat∧nth (nth a0.Ops x10.toNat).Table x11.toNat<(↑x8''.length:Int)) <|
 if nth x8'' (nth (nth a0.Ops x10.toNat).Table x11.toNat).toNat≥(0:Int) then
 ask ((0:Int)≤nth (nth a0.Ops x10.toNat).Table x11.toNat∧nth (nth a0.Ops x10.toNat).Table x11.toNat<(↑x8''.length:Int)) <|
 if nth x8'' (nth (nth a0.Ops x10.toNat).Table x11.toNat).toNat≠r14 then
 some (.inl ())
 else
 some (.inr ())
 else
 some (.inr ()):Option (Unit ⊕ Unit))).bind fun t=>match t with
 | (.inl _)=>(some (.inr (.inl ())))
 | (.inr _)=>(ask ((0:Int)≤nth (nth a0.Ops x10.toNat).Table x11.toNat∧nth (nth a0.Ops x10.toNat).Table x11.toNat<(↑x8''.length:Int)) <|
 if nth x8'' (nth (nth a0.Ops x10.toNat).Table x11.toNat).toNat<(0:Int) then
 ask ((0:Int)≤nth (nth a0.Ops x10.toNat).Table x11.toNat∧nth (nth a0.Ops x10.toNat).Table x11.toNat<(↑x8''.length:Int)) <|
 ask (InI (x11+(1:Int))) <|
 some (.inl (x11+(1:Int),true,x8''.set (nth (nth a0.Ops x10.toNat).Table x11.toNat).toNat r14))
 else
 ask (InI (x11+(1:Int))) <|
 some (.inl (x11+(1:Int),x9'',x8'')))
 else
 some (.inr (.inr (x9'',x8'')))
def N8 (a0:SAlgebra) (b0:SAlgebra) (x10:Int):(Int×Bool×(List Int))→St:=fun s=>[(11,A.val (Ag s.1)),(10,A.val (Ag (x10))),(9,A.val (V.bool s.2.1)),(8,A.val ((slr true 1 Ag) s.2.2)),(4,A.val ((rP true (Ae false)) (b0))),(3,A.val ((rP true (Ae false)) (a0)))]
def V3 (a0:SAlgebra) (b0:SAlgebra) (x10:Int):(Unit ⊕ (Bool×(List Int)))→Tgt
 | (.inl _s)=>(Ex.ret,[7,6],[(7,A.val (V.bool (false))),(6,A.val ((slr true 1 Ag) (Al Int)))])
 | (.inr s)=>((Ex.exit 4),[10,9,8,4,3],[(10,A.val (Ag (x10))),(9,A.val (V.bool s.1)),(8,A.val ((slr true 1 Ag) s.2)),(4,A.val ((rP true (Ae false)) (b0))),(3,A.val ((rP true (Ae false)) (a0)))])
theorem Ahi {a0:SAlgebra} {b0:SAlgebra} {x10:Int} (s:(Int×Bool×(List Int))) (o:(Int×Bool×(List Int)) ⊕ (Unit ⊕ (Bool×(List Int)))) (h:C8 a0 b0 x10 s=some o):vc Tryz.prog Vg (Cr [11,10,9,8,4,3] (N8 a0 b0 x10) (V3 a0 b0 x10) o) (N8 a0 b0 x10 s):=by
 obtain ⟨x11,x9'',x8''⟩:=s
 unfold C8 at h
 try dsimp only at h
 refine Cells.lit rfl rfl<|Len.map<|Ask.o h fun p4 h=>Elem.o (by first | omega | (simp [Aq] at * <;> omega))<|Len.map<|Br.od h (fun p5 h=> ?_) (fun p5 h=> ?_)
 ·refine Cells.lit rfl rfl<|Cells.lit rfl rfl<|Len.map<|Ask.o h fun p6 h=>Elem.o (by first | omega | (simp [Aq] at * <;> omega))<|CallP.o (slr true 1 Ag) (by rfl) h (fun r h=>Qo h) (fun r7 h=> ?_)
  refine CallQ.rd (slr true 1 Ag) (by first | rfl | simp only [V.fz,Ab,slr] | simp [Aa,V.fz,fzL,V.up,upL,Ab,Ac,Ad,slr]) (fun _=>by simp [V.noFz,Bs]) h (fun r h=>Aaw h) (fun r8 h=> ?_)
  refine CallQ.rd V.bool (by first | rfl | simp only [V.fz,Ab,slr] | simp [Aa,V.fz,fzL,V.up,upL,Ab,Ac,Ad,slr]) (fun _=>rfl) h (fun r h=>Zw h) (fun r9 h=> ?_)
  refine Br.ob h (fun p10 h=> ?_) (fun p10 h=> ?_)
  ·refine Ask.o h fun p11 h=> ?_
   cases h;exact ⟨rfl,rfl⟩
  refine Cells.lit rfl rfl<|Len.map<|Ask.o h fun p12 h=>Elem.o (by first | omega | (simp [Aq] at * <;> omega))<|Len.map<|Ask.o h fun p13 h=>Elem.o (by first | omega | (simp [Aq] at * <;> omega))<|Cells.lit rfl rfl<|CallP.rd Ag (by first | rfl | simp only [V.fz,fzL,V.up,Ab,Ad,slr] | simp [Aa,V.fz,fzL,V.up,upL,Ab,Ac,Ad,slr]) (fun _=>rfl) h (fun r h=>Ac0 h) (fun r14 h=> ?_)
  refine CutQ.o (fun t:(Unit ⊕ Unit)=>match t with | (.inl s)=>(Ex.ret,[7,6],[(7,A.val (V.bool (false))),(6,A.val ((slr true 1 Ag) (Al Int)))]) | (.inr s)=>(Ex.normal,[14,13,11,10,9,8,4,3],[(14,A.val (Ag (r14))),(13,A.val (Ag (nth (nth a0.Ops x10.toNat).Table x11.toNat))),(11,A.val (Ag (x11))),(10,A.val (Ag (x10))),(9,A.val (V.bool (x9''))),(8,A.val ((slr true 1 Ag) (x8''))),(4,A.val ((rP true (Ae false)) (b0))),(3,A.val ((rP true (Ae false)) (a0)))])) h ?_ ?_
  ·intro t h
   refine Len.map<|Ask.o h fun p15 h=>Cells.one (fun _=>⟨rfl,rfl⟩) (by first | omega | (simp [Aq] at * <;> omega))<|Br.od h (fun p16 h=> ?_) (fun p16 h=> ?_)
   ·refine Br.yes<|Br.yes<|Len.map<|Ask.o h fun p17 h=>Br.yes<|Cells.one (fun _=>⟨rfl,rfl⟩) (by first | omega | (simp [Aq] at * <;> omega))<|Br.yes<|Br.yes<|Br.yes<|Br.on h (fun p18 h=> ?_) (fun p18 h=> ?_)
    ·refine BslQ.o Ag (Al Int) (by exact fun _=>⟨rfl,rfl⟩) (by first | rfl | (simp only [Aa,V.fz,fzL,V.up,upL,Ab,Ac,Ad,slr,List.cons_append,List.nil_append];done) | simp [Aa,V.fz,fzL,V.up,upL,Ab,Ac,Ad,slr]) ?_
     cases h;exact ⟨rfl,rfl⟩
    cases h;exact ⟨rfl,rfl⟩
   refine Br.no<|Br.no<|Br.no<|Br.no<|Br.no<|Br.no<|Br.no ?_
   cases h;exact ⟨rfl,rfl⟩
  rintro (⟨⟩ | ⟨⟩) h
  ·try dsimp only at h
   cases h;exact ⟨rfl,rfl⟩
  try dsimp only at h
  refine Len.map<|Ask.o h fun p20 h=>Cells.one (fun _=>⟨rfl,rfl⟩) (by first | omega | (simp [Aq] at * <;> omega))<|Br.od h (fun p21 h=> ?_) (fun p21 h=> ?_)
  ·refine Len.map<|Ask.o h fun p22 h=>SetKids.one (fun _=>⟨rfl,rfl⟩) (r14) (by rfl) (by first | omega | (simp [Aq] at * <;> omega))<|Ask.o h fun p23 h=> ?_
   cases h;exact ⟨rfl,rfl⟩
  refine Ask.o h fun p24 h=> ?_
  cases h;exact ⟨rfl,rfl⟩
 cases h;exact ⟨rfl,rfl⟩
noncomputable def Da (a0:SAlgebra) (b0:SAlgebra):(Int×Bool×(List Int))→Option ((Int×Bool×(List Int)) ⊕ (Unit ⊕ (Bool×(List Int)))):=fun (x10,x9',x8')=>
 if x10<(↑a0.Ops.length:Int) then
 (Aj (C8 a0 b0 x10) ((0:Int),x9',x8')).bind fun t=>match t with
 | (.inl _)=>(some (.inr (.inl ())))
 | (.inr (q25_9,q25_8))=>(ask (InI (x10+(1:Int))) <|
 some (.inl (x10+(1:Int),q25_9,q25_8)))
 else
 some (.inr (.inr (x9',x8')))
def Ob (a0:SAlgebra) (b0:SAlgebra):(Int×Bool×(List Int))→St:=fun s=>[(10,A.val (Ag s.1)),(9,A.val (V.bool s.2.1)),(8,A.val ((slr true 1 Ag) s.2.2)),(4,A.val ((rP true (Ae false)) (b0))),(3,A.val ((rP true (Ae false)) (a0)))]
def Vt (a0:SAlgebra) (b0:SAlgebra):(Unit ⊕ (Bool×(List Int)))→Tgt
 | (.inl _s)=>(Ex.ret,[7,6],[(7,A.val (V.bool (false))),(6,A.val ((slr true 1 Ag) (Al Int)))])
 | (.inr s)=>((Ex.exit 2),[9,8,4,3],[(9,A.val (V.bool s.1)),(8,A.val ((slr true 1 Ag) s.2)),(4,A.val ((rP true (Ae false)) (b0))),(3,A.val ((rP true (Ae false)) (a0)))])
theorem Af5 {a0:SAlgebra} {b0:SAlgebra} (s:(Int×Bool×(List Int))) (o:(Int×Bool×(List Int)) ⊕ (Unit ⊕ (Bool×(List Int)))) (h:Da a0 b0 s=some o):vc Tryz.prog Wi (Cr [10,9,8,4,3] (Ob a0 b0) (Vt a0 b0) o) (Ob a0 b0 s):=by
 obtain ⟨x10,x9',x8'⟩:=s
 unfold Da at h
 try dsimp only at h
 refine Cells.lit rfl rfl<|Len.map<|Br.od h (fun p3 h=> ?_) (fun p3 h=> ?_)
 ·refine LoopQ.o [11,10,9,8,4,3] (N8 a0 b0 x10) (V3 a0 b0 x10) h (fun s o h=>Ahi s o h) (by rfl) (by rintro (_ | _)<;>rfl) ?_
  rintro (⟨⟩ | ⟨q25_9,q25_8⟩) h
  ·try dsimp only at h
   cases h;exact ⟨rfl,rfl⟩
  try dsimp only at h
  refine Ask.o h fun p26 h=> ?_
  cases h;exact ⟨rfl,rfl⟩
 cases h;exact ⟨rfl,rfl⟩
noncomputable def Dp (a0:SAlgebra) (b0:SAlgebra):(Bool×(List Int))→Option ((Bool×(List Int)) ⊕ (Unit ⊕ (List Int))):=fun (x9,x8)=>
 if (x9)=true then
 (Aj (Da a0 b0) ((0:Int),false,x8)).bind fun t=>match t with
 | (.inl _)=>(some (.inr (.inl ())))
 | (.inr (q27_9,q27_8))=>(some (.inl (q27_9,q27_8)))
 else
 some (.inr (.inr x8))
def N4 (a0:SAlgebra) (b0:SAlgebra):(Bool×(List Int))→St:=fun s=>[(9,A.val (V.bool s.1)),(8,A.val ((slr true 1 Ag) s.2)),(4,A.val ((rP true (Ae false)) (b0))),(3,A.val ((rP true (Ae false)) (a0)))]
def V6 (_a0:SAlgebra) (_b0:SAlgebra):(Unit ⊕ (List Int))→Tgt
 | (.inl _s)=>(Ex.ret,[7,6],[(7,A.val (V.bool (false))),(6,A.val ((slr true 1 Ag) (Al Int)))])
 | (.inr s)=>((Ex.exit 0),[8],[(8,A.val ((slr true 1 Ag) s))])
theorem Ag4 {a0:SAlgebra} {b0:SAlgebra} (s:(Bool×(List Int))) (o:(Bool×(List Int)) ⊕ (Unit ⊕ (List Int))) (h:Dp a0 b0 s=some o):vc Tryz.prog Vk (Cr [9,8,4,3] (N4 a0 b0) (V6 a0 b0) o) (N4 a0 b0 s):=by
 obtain ⟨x9,x8⟩:=s
 unfold Dp at h
 try dsimp only at h
 refine Br.ob h (fun p2 h=> ?_) (fun p2 h=> ?_)
 ·refine LoopQ.o [10,9,8,4,3] (Ob a0 b0) (Vt a0 b0) h (fun s o h=>Af5 s o h) (by rfl) (by rintro (_ | _)<;>rfl) ?_
  rintro (⟨⟩ | ⟨q27_9,q27_8⟩) h
  ·try dsimp only at h
   cases h;exact ⟨rfl,rfl⟩
  try dsimp only at h
  cases h;exact ⟨rfl,rfl⟩
 cases h;exact ⟨rfl,rfl⟩
noncomputable def Gv (a0:SAlgebra) (b0:SAlgebra) (f0:(List Int)):Option ((List Int)×Bool):=
 (Iz (f0)).bind fun r1=>
 (Aj (Dp a0 b0) (true,r1)).bind fun t=>match t with
 | (.inl _)=>(some (Al Int,false))
 | (.inr q28_8)=>(some (q28_8,true))
theorem Ab8 {a0:SAlgebra} {b0:SAlgebra} {f0:(List Int)} {v:((List Int)×Bool)} (h:Gv a0 b0 f0=some v):Ret Tryz.prog Ol [(Ae false) a0,(Ae false) b0,(slr false 1 Ag) f0] ((fun r=>V.tup [(slr true 1 Ag) r.1,V.bool r.2]) v):=by
 refine A6 Am3 (Nat.le_of_ble_eq_true rfl) ?_
 unfold Gv at h
 refine CallQ.o (slr true 1 Ag) (by rfl) h (fun r h=>Ze h) (fun r1 h=> ?_)
 refine LoopQ.o [9,8,4,3] (N4 a0 b0) (V6 a0 b0) h (fun s o h=>Ag4 s o h) (by rfl) (by rintro (_ | _)<;>rfl) ?_
 rintro (⟨⟩ | q28_8) h
 ·try dsimp only at h
  cases h;exact (by rfl)
 try dsimp only at h
 cases h;exact (by rfl)
noncomputable def E7 (f0:List Int):Int→Option (Int ⊕ (Unit ⊕ Unit)):=fun x3=>
 if x3<(↑f0.length:Int) then
 ask ((0:Int)≤x3∧x3<(↑f0.length:Int)) <|
 if nth f0 x3.toNat≥(0:Int) then
 ask (0≤(0:Int)∧(0:Int)≤x3∧x3≤((f0.length:Nat):Int)) <|
 ask ((0:Int)≤x3∧x3<(↑f0.length:Int)) <|
 (I2 (List.take (x3.toNat-Int.toNat (0:Int)) (List.drop (Int.toNat (0:Int)) f0)) (nth f0 x3.toNat)).bind fun r5=>
 if (r5)=true then
 some (.inr (.inl ()))
 else
 ask (InI (x3+(1:Int))) <|
 some (.inl (x3+(1:Int)))
 else
 ask (InI (x3+(1:Int))) <|
 some (.inl (x3+(1:Int)))
 else
 some (.inr (.inr ()))
def Pf (f0:List Int):Int→St:=fun s=>[(3,A.val (Ag s)),(0,A.val ((slr false 1 Ag) (f0)))]
def Yc (_f0:List Int):(Unit ⊕ Unit)→Tgt
 | (.inl _s)=>(Ex.ret,[2],[(2,A.val (V.bool (false)))])
 | (.inr _s)=>((Ex.exit 0),[],[])
theorem Aic {f0:List Int} (x3:Int) (o:Int ⊕ (Unit ⊕ Unit)) (h:E7 f0 x3=some o):vc Tryz.prog X9 (Cr [3,0] (Pf f0) (Yc f0) o) (Pf f0 x3):=by
 unfold E7 at h
 try dsimp only at h
 refine Len.map<|Br.od h (fun p1 h=> ?_) (fun p1 h=> ?_)
 ·refine Len.map<|Ask.o h fun p2 h=>Elem.o (by first | omega | (simp [Aq] at * <;> omega))<|Br.od h (fun p3 h=> ?_) (fun p3 h=> ?_)
  ·refine Br.yes<|Br.yes<|SlcQ.o Ag h fun h=>Br.yes<|Br.yes<|Br.yes<|Len.map<|Ask.o h fun p4 h=>Elem.o (by first | omega | (simp [Aq] at * <;> omega))<|Br.yes<|Br.yes<|CallQ.o V.bool (by rfl) h (fun r h=>Zw h) (fun r5 h=> ?_)
   refine Br.yes<|Br.ob h (fun p6 h=> ?_) (fun p6 h=> ?_)
   ·cases h;exact ⟨rfl,rfl⟩
   refine Ask.o h fun p7 h=> ?_
   cases h;exact ⟨rfl,rfl⟩
  refine Br.no<|Br.no<|Br.no<|Br.no<|Br.no<|Br.no<|Br.no<|Br.no<|Br.no<|Ask.o h fun p8 h=> ?_
  cases h;exact ⟨rfl,rfl⟩
 cases h;exact ⟨rfl,rfl⟩
noncomputable def Hv (f0:(List Int)):Option Bool:=
 (Aj (E7 f0) (0:Int)).bind fun t=>match t with
 | (.inl _)=>(some false)
 | (.inr _)=>(some true)
theorem Ad5 {f0:(List Int)} {v:Bool} (h:Hv f0=some v):Ret Tryz.prog Qs [(slr false 1 Ag) f0] (V.bool v):=by
 refine A6 Aso (Nat.le_of_ble_eq_true rfl) ?_
 unfold Hv at h
 refine LoopQ.o [3,0] (Pf f0) (Yc f0) h (fun s o h=>Aic s o h) (by rfl) (by rintro (_ | _)<;>rfl) ?_
 rintro (⟨⟩ | ⟨⟩) h
 ·try dsimp only at h
  cases h;exact (by rfl)
 try dsimp only at h
 cases h;exact (by rfl)
end Go.Proofs.YtmkgjnphianalaaGreat.Ax
