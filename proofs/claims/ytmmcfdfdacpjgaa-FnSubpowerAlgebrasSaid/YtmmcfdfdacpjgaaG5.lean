/-
 What the functions compute, as functions on plain data, and that the program does compute it; written by program.
-/
import Derived.Test.YtmmcfdfdacpjgaaCode
import Derived.Test.YtmmcfdfdacpjgaaG1
import Derived.Test.YtmmcfdfdacpjgaaG2
import Derived.Test.YtmmcfdfdacpjgaaG3
import Derived.Test.YtmmcfdfdacpjgaaG4
namespace Go.Proofs.Ytmmcfdfdacpjgaa.Ax
open Go
set_option maxRecDepth 100000
set_option maxHeartbeats 4000000
noncomputable def Pp (f0:SOp) (n0:Int):Option Bool:=
 if f0.Arity≥(0:Int) then
 if f0.Arity≤(3:Int) then
 (G7 (n0) (f0.Arity)).bind fun r3=>
 if (↑f0.Table.length:Int)=r3 then
 (F9 (f0.Table) (n0)).bind fun r5=>
 some r5
 else
 some false
 else
 some false
 else
 some false
theorem Aru {f0} {n0} {v} (h:Pp f0 n0=some v):Ret Try.prog Yu [(Aw false) f0,Ae n0] (V.bool v):=by
 refine Ba As6 (Nat.le_of_ble_eq_true rfl) ?_
 unfold Pp at h
 conv=>whnf
 refine Cells.lit rfl rfl ?_
 conv=>whnf
 refine Br.od h (fun p1 h=> ?_) (fun p1 h=> ?_)
 ·conv=>whnf
  refine Br.yes ?_
  conv=>whnf
  refine Cells.lit rfl rfl ?_
  conv=>whnf
  refine Br.yes ?_
  conv=>whnf
  refine Br.yes ?_
  conv=>whnf
  refine Br.od h (fun p2 h=> ?_) (fun p2 h=> ?_)
  ·conv=>whnf
   refine Br.yes ?_
   conv=>whnf
   refine Cells.lit rfl rfl ?_
   conv=>whnf
   refine Br.yes ?_
   conv=>whnf
   refine Len.map ?_
   conv=>whnf
   refine Br.yes ?_
   conv=>whnf
   refine Br.yes ?_
   conv=>whnf
   refine Br.yes ?_
   conv=>whnf
   refine Cells.lit rfl rfl ?_
   conv=>whnf
   refine Br.yes ?_
   conv=>whnf
   refine CallP.o Ae (by rfl) h (fun r h=>Aeo h) (fun r3 h=> ?_)
   conv=>whnf
   refine Br.yes ?_
   conv=>whnf
   refine Br.yes ?_
   conv=>whnf
   refine Br.oe h (fun p4 h=> ?_) (fun p4 h=> ?_)
   ·conv=>whnf
    refine Br.yes ?_
    conv=>whnf
    refine Cells.lit rfl rfl ?_
    conv=>whnf
    refine Br.yes ?_
    conv=>whnf
    refine Br.yes ?_
    conv=>whnf
    refine CallQ.o V.bool (by rfl) h (fun r h=>Pg h) (fun r5 h=> ?_)
    conv=>whnf
    refine Br.yes ?_
    conv=>whnf
    cases h;exact (by rfl)
   conv=>whnf
   refine Br.no ?_
   conv=>whnf
   refine Br.no ?_
   conv=>whnf
   refine Br.no ?_
   conv=>whnf
   refine Br.no ?_
   conv=>whnf
   cases h;exact (by rfl)
  conv=>whnf
  refine Br.no ?_
  conv=>whnf
  refine Br.no ?_
  conv=>whnf
  refine Br.no ?_
  conv=>whnf
  refine Br.no ?_
  conv=>whnf
  refine Br.no ?_
  conv=>whnf
  refine Br.no ?_
  conv=>whnf
  refine Br.no ?_
  conv=>whnf
  refine Br.no ?_
  conv=>whnf
  refine Br.no ?_
  conv=>whnf
  refine Br.no ?_
  conv=>whnf
  refine Br.no ?_
  conv=>whnf
  refine Br.no ?_
  conv=>whnf
  refine Br.no ?_
  conv=>whnf
  cases h;exact (by rfl)
 conv=>whnf
 refine Br.no ?_
 conv=>whnf
 refine Br.no ?_
 conv=>whnf
 refine Br.no ?_
 conv=>whnf
 refine Br.no ?_
 conv=>whnf
 refine Br.no ?_
 conv=>whnf
 refine Br.no ?_
 conv=>whnf
 refine Br.no ?_
 conv=>whnf
 refine Br.no ?_
 conv=>whnf
 refine Br.no ?_
 conv=>whnf
 refine Br.no ?_
 conv=>whnf
 refine Br.no ?_
 conv=>whnf
 refine Br.no ?_
 conv=>whnf
 refine Br.no ?_
 conv=>whnf
 refine Br.no ?_
 conv=>whnf
 refine Br.no ?_
 conv=>whnf
 refine Br.no ?_
 conv=>whnf
 refine Br.no ?_
 conv=>whnf
 cases h;exact (by rfl)
noncomputable def Gt (n0:Int) (op0:SOp):Int→Option (Int ⊕ (Unit ⊕ Unit)):=fun x5=>
 if x5<(↑op0.Table.length:Int) then
 ask ((0:Int)≤x5∧x5<(↑op0.Table.length:Int)) <|
 ask (InI (n0-(1:Int))) <|
 (Ec (nth op0.Table x5.toNat) ((0:Int)) (n0-(1:Int))).bind fun r9=>
 if (r9)=true then
 ask (InI (x5+(1:Int))) <|
 some (.inl (x5+(1:Int)))
 else
 some (.inr (.inl ()))
 else
 some (.inr (.inr ()))
def R5 (n0:Int) (op0:SOp):Int→St:=fun s=>[(5,A.val (Ae s)),(3,A.val (rP true (Aw false) op0)),(0,A.val (Ae n0))]
def Zu (_n0:Int) (_op0:SOp):(Unit ⊕ Unit)→Tgt
 | (.inl _s)=>(Ex.ret,[4],[(4,A.val (V.bool false))])
 | (.inr _s)=>((Ex.exit 0),[],[])
theorem Akw {n0} {op0} (x5) o (h:Gt n0 op0 x5=some o):vc Try.prog Y7 (Co [5,3,0] (R5 n0 op0) (Zu n0 op0) o) (R5 n0 op0 x5):=by
 unfold Gt at h
 try dsimp only at h
 conv=>whnf
 refine Cells.lit rfl rfl ?_
 conv=>whnf
 refine Len.map ?_
 conv=>whnf
 refine Br.od h (fun p6 h=> ?_) (fun p6 h=> ?_)
 ·conv=>whnf
  refine Cells.lit rfl rfl ?_
  conv=>whnf
  refine Len.map ?_
  conv=>whnf
  refine Ask.o h fun p7 h=> ?_
  conv=>whnf
  refine Elem.o (by first | omega | (simp [At] at * <;> omega)) ?_
  conv=>whnf
  refine Ask.o h fun p8 h=> ?_
  conv=>whnf
  refine CallQ.o V.bool (by rfl) h (fun r h=>Ib h) (fun r9 h=> ?_)
  conv=>whnf
  refine Br.flip ?_
  conv=>whnf
  refine Br.ob h (fun p10 h=> ?_) (fun p10 h=> ?_)
  ·conv=>whnf
   refine Ask.o h fun p11 h=> ?_
   conv=>whnf
   cases h;exact ⟨rfl,rfl⟩
  conv=>whnf
  cases h;exact ⟨rfl,rfl⟩
 conv=>whnf
 cases h;exact ⟨rfl,rfl⟩
noncomputable def Pw (n0:Int) (op0:SOp):Option Bool:=
 (((Ec (op0.Arity) ((0:Int)) ((3:Int))).bind fun r1=>
 if (r1)=true then
 (F1 (n0) (op0.Arity)).bind fun r3=>
 if (↑op0.Table.length:Int)≠r3 then
 some (.inl ())
 else
 some (.inr ())
 else
 some (.inl ()):Option (Unit ⊕ Unit))).bind fun t=>match t with
 | (.inl _)=>(some false)
 | (.inr _)=>((Am (Gt n0 op0) (0:Int)).bind fun t=>match t with
 | (.inl _)=>(some false)
 | (.inr _)=>(some true))
theorem Ar7 {n0} {op0} {v} (h:Pw n0 op0=some v):Ret Try.prog Zn [Ae n0,(Aw false) op0] (V.bool v):=by
 refine Ba As8 (Nat.le_of_ble_eq_true rfl) ?_
 unfold Pw at h
 conv=>whnf
 refine CutQ.o (fun t:(Unit ⊕ Unit)=>match t with | (.inl s)=>(Ex.ret,[4],[(4,A.val (V.bool (false)))]) | (.inr s)=>(Ex.normal,[3,0],[(3,A.val ((rP true (Aw false)) (op0))),(0,A.val (Ae (n0)))])) h ?_ ?_
 ·intro t h
  conv=>whnf
  refine Cells.lit rfl rfl ?_
  conv=>whnf
  refine CallP.o V.bool (by rfl) h (fun r h=>Ib h) (fun r1 h=> ?_)
  conv=>whnf
  refine Br.flip ?_
  conv=>whnf
  refine Br.ob h (fun p2 h=> ?_) (fun p2 h=> ?_)
  ·conv=>whnf
   refine Br.no ?_
   conv=>whnf
   refine Cells.lit rfl rfl ?_
   conv=>whnf
   refine Br.no ?_
   conv=>whnf
   refine Len.map ?_
   conv=>whnf
   refine Br.no ?_
   conv=>whnf
   refine Br.no ?_
   conv=>whnf
   refine Br.no ?_
   conv=>whnf
   refine Cells.lit rfl rfl ?_
   conv=>whnf
   refine Br.no ?_
   conv=>whnf
   refine CallP.o Ae (by rfl) h (fun r h=>Wp h) (fun r3 h=> ?_)
   conv=>whnf
   refine Br.no ?_
   conv=>whnf
   refine Br.no ?_
   conv=>whnf
   refine Br.on h (fun p4 h=> ?_) (fun p4 h=> ?_)
   ·conv=>whnf
    cases h;exact ⟨rfl,rfl⟩
   conv=>whnf
   cases h;exact ⟨rfl,rfl⟩
  conv=>whnf
  refine Br.yes ?_
  conv=>whnf
  refine Br.yes ?_
  conv=>whnf
  refine Br.yes ?_
  conv=>whnf
  refine Br.yes ?_
  conv=>whnf
  refine Br.yes ?_
  conv=>whnf
  refine Br.yes ?_
  conv=>whnf
  refine Br.yes ?_
  conv=>whnf
  refine Br.yes ?_
  conv=>whnf
  refine Br.yes ?_
  conv=>whnf
  cases h;exact ⟨rfl,rfl⟩
 rintro (⟨⟩ | ⟨⟩) h
 ·try dsimp only at h
  conv=>whnf
  cases h;exact (by rfl)
 try dsimp only at h
 conv=>whnf
 refine LoopQ.o [5,3,0] (R5 n0 op0) (Zu n0 op0) h (fun s o h=>Akw s o h) (by rfl) (by rintro (_ | _)<;>rfl) ?_
 rintro (⟨⟩ | ⟨⟩) h
 ·try dsimp only at h
  conv=>whnf
  cases h;exact (by rfl)
 try dsimp only at h
 conv=>whnf
 cases h;exact (by rfl)
noncomputable def C2 (a0:SAlgebra):(Int×Int)→Option ((Int×Int) ⊕ Int):=fun (x4,x3)=>
 if x4<(↑a0.Ops.length:Int) then
 ask ((0:Int)≤x4∧x4<(↑a0.Ops.length:Int)) <|
 (I2 (x3) ((nth a0.Ops x4.toNat).Arity)).bind fun r3=>
 ask (InI (x4+(1:Int))) <|
 some (.inl (x4+(1:Int),r3))
 else
 some (.inr x3)
def Oh (a0:SAlgebra):(Int×Int)→St:=fun s=>[(4,A.val (Ae s.1)),(3,A.val (Ae s.2)),(1,A.val (rP true (Af false) a0))]
def Vg (_a0:SAlgebra):Int→Tgt
 | s=>((Ex.exit 0),[3],[(3,A.val (Ae s))])
theorem Agb {a0} (s) o (h:C2 a0 s=some o):vc Try.prog Vk (Co [4,3,1] (Oh a0) (Vg a0) o) (Oh a0 s):=by
 obtain ⟨x4,x3⟩:=s
 unfold C2 at h
 try dsimp only at h
 conv=>whnf
 refine Cells.lit rfl rfl ?_
 conv=>whnf
 refine Len.map ?_
 conv=>whnf
 refine Br.od h (fun p1 h=> ?_) (fun p1 h=> ?_)
 ·conv=>whnf
  refine Cells.lit rfl rfl ?_
  conv=>whnf
  refine Len.map ?_
  conv=>whnf
  refine Ask.o h fun p2 h=> ?_
  conv=>whnf
  refine Elem.o (by first | omega | (simp [At] at * <;> omega)) ?_
  conv=>whnf
  refine CallQ.o Ae (by rfl) h (fun r h=>Aar h) (fun r3 h=> ?_)
  conv=>whnf
  refine Ask.o h fun p4 h=> ?_
  conv=>whnf
  cases h;exact ⟨rfl,rfl⟩
 conv=>whnf
 cases h;exact ⟨rfl,rfl⟩
noncomputable def F7 (a0:SAlgebra):Option Int:=
 (Am (C2 a0) ((0:Int),(0:Int))).bind fun q5_3=>
 if q5_3=(3:Int) then
 some (40:Int)
 else
 if q5_3=(2:Int) then
 some (200:Int)
 else
 some (300:Int)
theorem Aas {a0} {v} (h:F7 a0=some v):Ret Try.prog Pc [(Af false) a0] (Ae v):=by
 refine Ba Al9 (Nat.le_of_ble_eq_true rfl) ?_
 unfold F7 at h
 conv=>whnf
 refine LoopQ.o [4,3,1] (Oh a0) (Vg a0) h (fun s o h=>Agb s o h) (by rfl) (fun _=>rfl) ?_
 rintro q5_3 h
 try dsimp only at h
 conv=>whnf
 refine Br.oe h (fun p6 h=> ?_) (fun p6 h=> ?_)
 ·conv=>whnf
  cases h;exact (by rfl)
 conv=>whnf
 refine Br.oe h (fun p7 h=> ?_) (fun p7 h=> ?_)
 ·conv=>whnf
  cases h;exact (by rfl)
 conv=>whnf
 cases h;exact (by rfl)
noncomputable def Ev (n0:Int):(Int×(List Int))→Option ((Int×(List Int)) ⊕ ((List Int) ⊕ (List Int))):=fun (x7,x6)=>
 if x7≥(0:Int) then
 ask ((0:Int)≤x7∧x7<(↑x6.length:Int)) <|
 ask (InI (n0-(1:Int))) <|
 if nth x6 x7.toNat<n0-(1:Int) then
 ask ((0:Int)≤x7∧x7<(↑x6.length:Int)) <|
 ask (InI (nth x6 x7.toNat+(1:Int))) <|
 ask ((0:Int)≤x7∧x7<(↑x6.length:Int)) <|
 some (.inr (.inl (x6.set x7.toNat (nth x6 x7.toNat+(1:Int)))))
 else
 ask ((0:Int)≤x7∧x7<(↑x6.length:Int)) <|
 ask (InI (x7-(1:Int))) <|
 some (.inl (x7-(1:Int),x6.set x7.toNat (0:Int)))
 else
 some (.inr (.inr x6))
def Ot (n0:Int):(Int×(List Int))→St:=fun s=>[(7,A.val (Ae s.1)),(6,A.val (slr true 1 Ae s.2)),(1,A.val (Ae n0))]
def Vp (_n0:Int):((List Int) ⊕ (List Int))→Tgt
 | (.inl s)=>(Ex.ret,[5,4],[(5,A.val (V.bool true)),(4,A.val (slr true 1 Ae s))])
 | (.inr s)=>((Ex.exit 0),[6],[(6,A.val (slr true 1 Ae s))])
theorem Ae9 {n0} (s) o (h:Ev n0 s=some o):vc Try.prog Vu (Co [7,6,1] (Ot n0) (Vp n0) o) (Ot n0 s):=by
 obtain ⟨x7,x6⟩:=s
 unfold Ev at h
 try dsimp only at h
 conv=>whnf
 refine Br.od h (fun p3 h=> ?_) (fun p3 h=> ?_)
 ·conv=>whnf
  refine Len.map ?_
  conv=>whnf
  refine Ask.o h fun p4 h=> ?_
  conv=>whnf
  refine Cells.one (fun _=>⟨rfl,rfl⟩) (by first | omega | (simp [At] at * <;> omega)) ?_
  conv=>whnf
  refine Ask.o h fun p5 h=> ?_
  conv=>whnf
  refine Br.od h (fun p6 h=> ?_) (fun p6 h=> ?_)
  ·conv=>whnf
   refine Len.map ?_
   conv=>whnf
   refine Ask.o h fun p7 h=> ?_
   conv=>whnf
   refine Cells.one (fun _=>⟨rfl,rfl⟩) (by first | omega | (simp [At] at * <;> omega)) ?_
   conv=>whnf
   refine Ask.o h fun p8 h=> ?_
   conv=>whnf
   refine Len.map ?_
   conv=>whnf
   refine Ask.o h fun p9 h=> ?_
   conv=>whnf
   refine SetKids.one (fun _=>⟨rfl,rfl⟩) (nth x6 x7.toNat+(1:Int)) (by rfl) (by first | omega | (simp [At] at * <;> omega)) ?_
   conv=>whnf
   cases h;exact ⟨rfl,rfl⟩
  conv=>whnf
  refine Len.map ?_
  conv=>whnf
  refine Ask.o h fun p10 h=> ?_
  conv=>whnf
  refine SetKids.one (fun _=>⟨rfl,rfl⟩) ((0:Int)) (by rfl) (by first | omega | (simp [At] at * <;> omega)) ?_
  conv=>whnf
  refine Ask.o h fun p11 h=> ?_
  conv=>whnf
  cases h;exact ⟨rfl,rfl⟩
 conv=>whnf
 cases h;exact ⟨rfl,rfl⟩
noncomputable def Dj (list0:(List Int)) (n0:Int):Option ((List Int)×Bool):=
 (Kg (list0)).bind fun r1=>
 ask (InI ((↑r1.length:Int)-(1:Int))) <|
 (Am (Ev n0) ((↑r1.length:Int)-(1:Int),r1)).bind fun t=>match t with
 | (.inl q12_4)=>(some (q12_4,true))
 | (.inr q12_6)=>(some (q12_6,false))
theorem Aa0 {list0} {n0} {v} (h:Dj list0 n0=some v):Ret Try.prog O8 [(slr false 1 Ae) list0,Ae n0] ((fun r=>V.tup [(slr true 1 Ae) r.1,V.bool r.2]) v):=by
 refine Ba Alo (Nat.le_of_ble_eq_true rfl) ?_
 unfold Dj at h
 conv=>whnf
 refine CallQ.o (slr true 1 Ae) (by rfl) h (fun r h=>Adv h) (fun r1 h=> ?_)
 conv=>whnf
 refine Len.map ?_
 conv=>whnf
 refine Ask.o h fun p2 h=> ?_
 conv=>whnf
 refine LoopQ.o [7,6,1] (Ot n0) (Vp n0) h (fun s o h=>Ae9 s o h) (by rfl) (by rintro (_ | _)<;>rfl) ?_
 rintro (q12_4 | q12_6) h
 ·try dsimp only at h
  conv=>whnf
  cases h;exact (by rfl)
 try dsimp only at h
 conv=>whnf
 cases h;exact (by rfl)
noncomputable def Cy (n0:Int) (list0:List Int):Int→Option (Int ⊕ (Unit ⊕ Unit)):=fun x5=>
 if x5<(↑list0.length:Int) then
 ask ((0:Int)≤x5∧x5<(↑list0.length:Int)) <|
 ask (InI (n0-(1:Int))) <|
 (Ec (nth list0 x5.toNat) ((0:Int)) (n0-(1:Int))).bind fun r4=>
 if (r4)=true then
 ask (InI (x5+(1:Int))) <|
 some (.inl (x5+(1:Int)))
 else
 some (.inr (.inl ()))
 else
 some (.inr (.inr ()))
def J5 (n0:Int) (list0:List Int):Int→St:=fun s=>[(5,A.val (Ae s)),(0,A.val (Ae n0)),(1,A.val (slr false 1 Ae list0))]
def Pq (_n0:Int) (_list0:List Int):(Unit ⊕ Unit)→Tgt
 | (.inl _s)=>(Ex.ret,[4],[(4,A.val (V.bool false))])
 | (.inr _s)=>((Ex.exit 0),[],[])
theorem Y8 {n0} {list0} (x5) o (h:Cy n0 list0 x5=some o):vc Try.prog Pn (Co [5,0,1] (J5 n0 list0) (Pq n0 list0) o) (J5 n0 list0 x5):=by
 unfold Cy at h
 try dsimp only at h
 conv=>whnf
 refine Len.map ?_
 conv=>whnf
 refine Br.od h (fun p1 h=> ?_) (fun p1 h=> ?_)
 ·conv=>whnf
  refine Len.map ?_
  conv=>whnf
  refine Ask.o h fun p2 h=> ?_
  conv=>whnf
  refine Elem.o (by first | omega | (simp [At] at * <;> omega)) ?_
  conv=>whnf
  refine Ask.o h fun p3 h=> ?_
  conv=>whnf
  refine CallQ.o V.bool (by rfl) h (fun r h=>Ib h) (fun r4 h=> ?_)
  conv=>whnf
  refine Br.flip ?_
  conv=>whnf
  refine Br.ob h (fun p5 h=> ?_) (fun p5 h=> ?_)
  ·conv=>whnf
   refine Ask.o h fun p6 h=> ?_
   conv=>whnf
   cases h;exact ⟨rfl,rfl⟩
  conv=>whnf
  cases h;exact ⟨rfl,rfl⟩
 conv=>whnf
 cases h;exact ⟨rfl,rfl⟩
noncomputable def Hd (n0:Int) (list0:(List Int)):Option Bool:=
 (Am (Cy n0 list0) (0:Int)).bind fun t=>match t with
 | (.inl _)=>(some false)
 | (.inr _)=>(some true)
theorem Ada {n0} {list0} {v} (h:Hd n0 list0=some v):Ret Try.prog Ms [Ae n0,(slr false 1 Ae) list0] (V.bool v):=by
 refine Ba Aem (Nat.le_of_ble_eq_true rfl) ?_
 unfold Hd at h
 conv=>whnf
 refine LoopQ.o [5,0,1] (J5 n0 list0) (Pq n0 list0) h (fun s o h=>Y8 s o h) (by rfl) (by rintro (_ | _)<;>rfl) ?_
 rintro (⟨⟩ | ⟨⟩) h
 ·try dsimp only at h
  conv=>whnf
  cases h;exact (by rfl)
 try dsimp only at h
 conv=>whnf
 cases h;exact (by rfl)
noncomputable def Fl (s0:Sspan) (t0:(List Int)):Option (Unit×Sspan):=
 (Hi (t0)).bind fun r1=>
 if ((Dz s0.at_ r1).isSome)=true then
 some ((),s0)
 else
 (Hi (t0)).bind fun r3=>
 ask ((s0.list).length+([t0]).length≤LIM) <|
 some ((),{ a:=s0.a,k:=s0.k,list:=s0.list++[t0],at_:=L9 s0.at_ r3 (↑s0.list.length:Int) })
theorem Xq {s0} {t0} {v} (h:Fl s0 t0=some v):Se Try.prog Lh [(rP true Ci) s0,(slr false 1 Ae) t0] ((fun _r=>V.tup []) v.1) 0 (rP true Ci v.2):=by
 refine Q9 Ah7 (Nat.le_of_ble_eq_true rfl) ?_
 unfold Fl at h
 conv=>whnf
 refine Cells.lit rfl rfl ?_
 conv=>whnf
 refine CallP.o V.str (by rfl) h (fun r h=>Rg h) (fun r1 h=> ?_)
 conv=>whnf
 refine Kid.lit rfl rfl ?_
 conv=>whnf
 refine LkQ.two (Lf.int IntKind.i64) Ae s0.at_ ((0:Int)) (by rfl) rfl (fun _=>rfl) ?_
 conv=>whnf
 refine Br.flip ?_
 conv=>whnf
 refine Br.ob h (fun p2 h=> ?_) (fun p2 h=> ?_)
 ·conv=>whnf
  cases h;exact ⟨(by rfl),(by rfl)⟩
 conv=>whnf
 refine Cells.lit rfl rfl ?_
 conv=>whnf
 refine CallP.o V.str (by rfl) h (fun r h=>Rg h) (fun r3 h=> ?_)
 conv=>whnf
 refine Cells.lit rfl rfl ?_
 conv=>whnf
 refine Kid.lit rfl rfl ?_
 conv=>whnf
 refine Len.map ?_
 conv=>whnf
 refine Kid.lit rfl rfl ?_
 conv=>whnf
 refine MsQ.o (Lf.int IntKind.i64) s0.at_ (↑s0.list.length:Int) (by rfl) rfl ?_
 conv=>whnf
 refine Kid.lit rfl rfl ?_
 conv=>whnf
 refine SetKids.lit rfl ?_
 conv=>whnf
 refine Cells.lit rfl rfl ?_
 conv=>whnf
 refine BslQ.o (slr false 1 Ae) [t0] (by exact fun _=>⟨rfl,rfl⟩) (by rfl) ?_
 conv=>whnf
 refine NoOwn.o (fun _=>rfl) ?_
 conv=>whnf
 refine Kid.lit rfl rfl ?_
 conv=>whnf
 refine Kid.lit rfl rfl ?_
 conv=>whnf
 refine SetKids.lit rfl ?_
 conv=>whnf
 refine AppQ.o (m:=1) (slr false 1 Ae) (by exact fun _=>⟨rfl,rfl⟩) (s0.list) ([t0]) (by rfl) (by rfl) h fun h=> ?_
 conv=>whnf
 refine SetKids.lit rfl ?_
 conv=>whnf
 cases h;exact ⟨(by rfl),(by rfl)⟩
noncomputable def C5 (a0:SAlgebra) (k0:Int) (tuples0:List (List Int)) (x8:Int) (x7:SAlgebra):(Int×SOp)→Option ((Int×SOp) ⊕ SOp):=fun (x10,x9)=>
 (F1 (x7.Size) (x9.Arity)).bind fun r3=>
 if x10<r3 then
 (I4 (x7.Size) (x9.Arity) (x10)).bind fun r5=>
 (G1 (tuples0) (r5)).bind fun r6=>
 (D5 (a0) (x8) (r6) (k0)).bind fun r7=>
 (C1 (tuples0) (r7)).bind fun r8=>
 ask ((x9.Table).length+([r8.fst]).length≤LIM) <|
 ask (InI (x10+(1:Int))) <|
 some (.inl (x10+(1:Int),{ Arity:=x9.Arity,Table:=x9.Table++[r8.fst] }))
 else
 some (.inr x9)
def Kv (a0:SAlgebra) (k0:Int) (tuples0:List (List Int)) (x8:Int) (x7:SAlgebra):(Int×SOp)→St:=fun s=>[(10,A.val (Ae s.1)),(9,A.val (rP true (Aw true) s.2)),(8,A.val (Ae x8)),(7,A.val (rP true (Af true) x7)),(6,A.val ((rP true (Af true)) ({ Size:=(0:Int),Ops:=Ar SOp }))),(3,A.val (rP true (Af false) a0)),(1,A.val (Ae k0)),(2,A.val (slr false 1 (slr false 1 Ae) tuples0))]
def Qv (a0:SAlgebra) (k0:Int) (tuples0:List (List Int)) (x8:Int) (x7:SAlgebra):SOp→Tgt
 | s=>((Ex.exit 2),[9,8,7,6,3,1,2],[(9,A.val (rP true (Aw true) s)),(8,A.val (Ae x8)),(7,A.val (rP true (Af true) x7)),(6,A.val ((rP true (Af true)) ({ Size:=(0:Int),Ops:=Ar SOp }))),(3,A.val (rP true (Af false) a0)),(1,A.val (Ae k0)),(2,A.val (slr false 1 (slr false 1 Ae) tuples0))])
theorem Aak {a0} {k0} {tuples0} {x8} {x7} (s) o (h:C5 a0 k0 tuples0 x8 x7 s=some o):vc Try.prog Qu (Co [10,9,8,7,6,3,1,2] (Kv a0 k0 tuples0 x8 x7) (Qv a0 k0 tuples0 x8 x7) o) (Kv a0 k0 tuples0 x8 x7 s):=by
 obtain ⟨x10,x9⟩:=s
 unfold C5 at h
 try dsimp only at h
 conv=>whnf
 refine Cells.lit rfl rfl ?_
 conv=>whnf
 refine Cells.lit rfl rfl ?_
 conv=>whnf
 refine CallQ.o Ae (by rfl) h (fun r h=>Wp h) (fun r3 h=> ?_)
 conv=>whnf
 refine Br.od h (fun p4 h=> ?_) (fun p4 h=> ?_)
 ·conv=>whnf
  refine Cells.lit rfl rfl ?_
  conv=>whnf
  refine Cells.lit rfl rfl ?_
  conv=>whnf
  refine Cells.lit rfl rfl ?_
  conv=>whnf
  refine CallP.o (slr false 1 Ae) (by rfl) h (fun r h=>Ret.frz (Ali h) (by first | rfl | simp only [V.fz,Ab,slr] | simp [Aa,V.fz,fzL,V.up,upL,Ab,Ac,Ad,slr])) (fun r5 h=> ?_)
  conv=>whnf
  refine CallP.o (slr true 1 (slr false 1 Ae)) (by rfl) h (fun r h=>Xv h) (fun r6 h=> ?_)
  conv=>whnf
  refine CallP.rd (slr true 1 Ae) (by first | rfl | simp only [V.fz,fzL,V.up,Ab,Ad,slr] | simp [Aa,V.fz,fzL,V.up,upL,Ab,Ac,Ad,slr]) (fun _=>by simp [V.noFz,Ch]) h (fun r h=>Ka h) (fun r7 h=> ?_)
  conv=>whnf
  refine CallP.rd (fun r=>V.tup [Ae r.1,V.bool r.2]) (by first | rfl | simp only [V.fz,V.up,Ab,slr] | simp [Aa,V.fz,fzL,V.up,upL,Ab,Ac,Ad,slr]) (fun _=>by simp [V.noFz,Ce]) h (fun r h=>K6 h) (fun r8 h=> ?_)
  conv=>whnf
  refine Cells.lit rfl rfl ?_
  conv=>whnf
  refine BslQ.o Ae [r8.fst] (by exact fun _=>⟨rfl,rfl⟩) (by rfl) ?_
  conv=>whnf
  refine NoOwn.o (fun _=>rfl) ?_
  conv=>whnf
  refine Kid.lit rfl rfl ?_
  conv=>whnf
  refine Kid.lit rfl rfl ?_
  conv=>whnf
  refine SetKids.lit rfl ?_
  conv=>whnf
  refine AppQ.o (m:=1) Ae (by exact fun _=>⟨rfl,rfl⟩) (x9.Table) ([r8.fst]) (by rfl) (by rfl) h fun h=> ?_
  conv=>whnf
  refine SetKids.lit rfl ?_
  conv=>whnf
  refine Ask.o h fun p9 h=> ?_
  conv=>whnf
  cases h;exact ⟨rfl,rfl⟩
 conv=>whnf
 cases h;exact ⟨rfl,rfl⟩
noncomputable def C9 (a0:SAlgebra) (k0:Int) (tuples0:List (List Int)):(Int×SAlgebra)→Option ((Int×SAlgebra) ⊕ SAlgebra):=fun (x8,x7)=>
 if x8<(↑a0.Ops.length:Int) then
 ask ((0:Int)≤x8∧x8<(↑a0.Ops.length:Int)) <|
 (Am (C5 a0 k0 tuples0 x8 x7) ((0:Int),{ Arity:=(nth a0.Ops x8.toNat).Arity,Table:=Ar Int })).bind fun q10_9=>
 ask ((x7.Ops).length+([q10_9]).length≤LIM) <|
 ask (InI (x8+(1:Int))) <|
 some (.inl (x8+(1:Int),{ Size:=x7.Size,Ops:=x7.Ops++[q10_9] }))
 else
 some (.inr x7)
def Ky (a0:SAlgebra) (k0:Int) (tuples0:List (List Int)):(Int×SAlgebra)→St:=fun s=>[(8,A.val (Ae s.1)),(7,A.val (rP true (Af true) s.2)),(6,A.val ((rP true (Af true)) ({ Size:=(0:Int),Ops:=Ar SOp }))),(3,A.val (rP true (Af false) a0)),(1,A.val (Ae k0)),(2,A.val (slr false 1 (slr false 1 Ae) tuples0))]
def Qy (_a0:SAlgebra) (_k0:Int) (_tuples0:List (List Int)):SAlgebra→Tgt
 | s=>((Ex.exit 0),[7,6],[(7,A.val (rP true (Af true) s)),(6,A.val ((rP true (Af true)) ({ Size:=(0:Int),Ops:=Ar SOp })))])
theorem Aae {a0} {k0} {tuples0} (s) o (h:C9 a0 k0 tuples0 s=some o):vc Try.prog Q0 (Co [8,7,6,3,1,2] (Ky a0 k0 tuples0) (Qy a0 k0 tuples0) o) (Ky a0 k0 tuples0 s):=by
 obtain ⟨x8,x7⟩:=s
 unfold C9 at h
 try dsimp only at h
 conv=>whnf
 refine Cells.lit rfl rfl ?_
 conv=>whnf
 refine Len.map ?_
 conv=>whnf
 refine Br.od h (fun p1 h=> ?_) (fun p1 h=> ?_)
 ·conv=>whnf
  refine Cells.lit rfl rfl ?_
  conv=>whnf
  refine Len.map ?_
  conv=>whnf
  refine Ask.o h fun p2 h=> ?_
  conv=>whnf
  refine Elem.o (by first | omega | (simp [At] at * <;> omega)) ?_
  conv=>whnf
  refine BslQ.o Ae (Ar Int) (by exact fun _=>⟨rfl,rfl⟩) (by rfl) ?_
  conv=>whnf
  refine SetKids.lit rfl ?_
  conv=>whnf
  refine LoopQ.o [10,9,8,7,6,3,1,2] (Kv a0 k0 tuples0 x8 x7) (Qv a0 k0 tuples0 x8 x7) h (fun s o h=>Aak s o h) (by rfl) (fun _=>rfl) ?_
  rintro q10_9 h
  try dsimp only at h
  conv=>whnf
  refine Cells.lit rfl rfl ?_
  conv=>whnf
  refine Cells.lit rfl rfl ?_
  conv=>whnf
  refine BslQ.o (Aw true) [q10_9] (by exact fun _=>⟨rfl,rfl⟩) (by rfl) ?_
  conv=>whnf
  refine NoOwn.own rfl ?_
  conv=>whnf
  refine Kid.lit rfl rfl ?_
  conv=>whnf
  refine Kid.lit rfl rfl ?_
  conv=>whnf
  refine SetKids.lit rfl ?_
  conv=>whnf
  refine AppQ.o (m:=2) (Aw true) (by exact fun _=>⟨rfl,rfl⟩) (x7.Ops) ([q10_9]) (by rfl) (by rfl) h fun h=> ?_
  conv=>whnf
  refine SetKids.lit rfl ?_
  conv=>whnf
  refine Ask.o h fun p11 h=> ?_
  conv=>whnf
  cases h;exact ⟨rfl,rfl⟩
 conv=>whnf
 cases h;exact ⟨rfl,rfl⟩
noncomputable def H9 (a0:SAlgebra) (k0:Int) (tuples0:(List (List Int))):Option SAlgebra:=
 (Am (C9 a0 k0 tuples0) ((0:Int),{ Size:=(↑tuples0.length:Int),Ops:=Ar SOp })).bind fun q12_7=>
 some q12_7
theorem Af4 {a0} {k0} {tuples0} {v} (h:H9 a0 k0 tuples0=some v):Ret Try.prog Oe [(Af false) a0,Ae k0,(slr false 1 (slr false 1 Ae)) tuples0] (Af true v):=by
 refine Ba Ae6 (Nat.le_of_ble_eq_true rfl) ?_
 unfold H9 at h
 conv=>whnf
 refine Len.map ?_
 conv=>whnf
 refine BslQ.o (Aw true) (Ar SOp) (by exact fun _=>⟨rfl,rfl⟩) (by rfl) ?_
 conv=>whnf
 refine SetKids.lit rfl ?_
 conv=>whnf
 refine LoopQ.o [8,7,6,3,1,2] (Ky a0 k0 tuples0) (Qy a0 k0 tuples0) h (fun s o h=>Aae s o h) (by rfl) (fun _=>rfl) ?_
 rintro q12_7 h
 try dsimp only at h
 conv=>whnf
 refine Cells.lit rfl rfl ?_
 conv=>whnf
 refine SetKids.lit rfl ?_
 conv=>whnf
 cases h;exact (by rfl)
noncomputable def M6 (a0:SAlgebra) (b0:SAlgebra) (f0:(List Int)):Option Bool:=
 (Mo (a0) (b0) (f0)).bind fun r1=>
 if (r1)=true then
 (Ht (a0) (b0) (f0)).bind fun r3=>
 some (decide (r3.fst<(0:Int)))
 else
 some false
theorem An5 {a0} {b0} {f0} {v} (h:M6 a0 b0 f0=some v):Ret Try.prog Wd [(Af false) a0,(Af false) b0,(slr false 1 Ae) f0] (V.bool v):=by
 refine Ba Aon (Nat.le_of_ble_eq_true rfl) ?_
 unfold M6 at h
 conv=>whnf
 refine Cells.lit rfl rfl ?_
 conv=>whnf
 refine Cells.lit rfl rfl ?_
 conv=>whnf
 refine CallQ.o V.bool (by rfl) h (fun r h=>Apq h) (fun r1 h=> ?_)
 conv=>whnf
 refine Br.flip ?_
 conv=>whnf
 refine Br.ob h (fun p2 h=> ?_) (fun p2 h=> ?_)
 ·conv=>whnf
  refine Cells.lit rfl rfl ?_
  conv=>whnf
  refine Cells.lit rfl rfl ?_
  conv=>whnf
  refine CallQ.o (fun r=>V.tup [Ae r.1,Ae r.2]) (by rfl) h (fun r h=>Aju h) (fun r3 h=> ?_)
  conv=>whnf
  cases h;exact (by rfl)
 conv=>whnf
 cases h;exact (by rfl)
noncomputable def Bz (c0:Sl1Cur) (n0:Int):Option (Bool×Sl1Cur):=
 (A7 (c0) (n0)).bind fun (r1,u2)=>
 some (r1==(0:Int),u2)
theorem Et {c0} {n0} {v} (h:Bz c0 n0=some v):Se Try.prog C4 [(rP true (Aj false)) c0,Ae n0] (V.bool v.1) 0 (rP true (Aj false) v.2):=by
 refine Q9 Ae3 (Nat.le_of_ble_eq_true rfl) ?_
 unfold Bz at h
 conv=>whnf
 refine CallQ.io Ae (rP true (Aj false)) (by rfl) rfl (fun _=>rfl) (fun _=>⟨rfl,rfl⟩) rfl h (fun r h=>Bf h) (fun r1 u2 h=> ?_)
 conv=>whnf
 cases h;exact ⟨(by rfl),(by rfl)⟩
end Go.Proofs.Ytmmcfdfdacpjgaa.Ax
