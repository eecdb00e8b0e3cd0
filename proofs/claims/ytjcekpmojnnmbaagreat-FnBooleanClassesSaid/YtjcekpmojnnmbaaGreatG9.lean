/-
 What the functions compute, as functions on plain data, and that the program does compute it; written by program.
-/
import Derived.Test.YtjcekpmojnnmbaaGreatCode
import Derived.Test.YtjcekpmojnnmbaaGreatG3
import Derived.Test.YtjcekpmojnnmbaaGreatG4
import Derived.Test.YtjcekpmojnnmbaaGreatG6
import Derived.Test.YtjcekpmojnnmbaaGreatG8
namespace Go.Proofs.YtjcekpmojnnmbaaGreat.Ax
open Go
set_option maxRecDepth 100000
set_option maxHeartbeats 4000000
noncomputable def Mj (vars0:Int) (size0:Int) (c0:SConstraint):Option Bool:=
 (G7 (size0) (c0.Rel)).bind fun r1=>
 if (r1)=true then
 if (↑c0.Scope.length:Int)=c0.Rel.Arity then
 (Eo (vars0) (c0.Scope)).bind fun r4=>
 some r4
 else
 some false
 else
 some false
theorem Aof {vars0:Int} {size0:Int} {c0:SConstraint} {v:Bool} (h:Mj vars0 size0 c0=some v):Ret Tryz.prog Vm [Ae vars0,Ae size0,(Ap false) c0] (V.bool v):=by
 refine A5 Aop (Nat.le_of_ble_eq_true rfl) ?_
 unfold Mj at h
 conv=>whnf
 refine Cells.lit rfl rfl ?_
 conv=>whnf
 refine CallQ.o V.bool (by first | rfl | simp only [Aa,V.fz,fzL,V.up,upL,Ab,Ac,Ad,slr,List.cons_append,List.nil_append] | simp [Aa,V.fz,fzL,V.up,upL,Ab,Ac,Ad,slr]) h (fun r h=>Xq h) (fun r1 h=> ?_)
 conv=>whnf
 refine Br.ob h (fun p2 h=> ?_) (fun p2 h=> ?_)
 ·conv=>whnf
  refine Br.yes ?_
  conv=>whnf
  refine Cells.lit rfl rfl ?_
  conv=>whnf
  refine Br.yes ?_
  conv=>whnf
  refine Len.map ?_
  conv=>whnf
  refine Br.yes ?_
  conv=>whnf
  refine Br.yes ?_
  conv=>whnf
  refine Br.yes ?_
  conv=>whnf
  refine Cells.lit rfl rfl ?_
  conv=>whnf
  refine Br.yes ?_
  conv=>whnf
  refine Br.yes ?_
  conv=>whnf
  refine Br.oe h (fun p3 h=> ?_) (fun p3 h=> ?_)
  ·conv=>whnf
   refine Br.yes ?_
   conv=>whnf
   refine Br.yes ?_
   conv=>whnf
   refine Cells.lit rfl rfl ?_
   conv=>whnf
   refine Br.yes ?_
   conv=>whnf
   refine CallQ.o V.bool (by first | rfl | simp only [Aa,V.fz,fzL,V.up,upL,Ab,Ac,Ad,slr,List.cons_append,List.nil_append] | simp [Aa,V.fz,fzL,V.up,upL,Ab,Ac,Ad,slr]) h (fun r h=>R4 h) (fun r4 h=> ?_)
   conv=>whnf
   refine Br.yes ?_
   conv=>whnf
   cases h;exact (by first | rfl | simp only [Ah,Aa,V.fz,fzL,V.up,upL,Ab,Ac,Ad,slr] | simp [Ah,Aa,V.fz,fzL,V.up,upL,Ab,Ac,Ad,slr])
  conv=>whnf
  refine Br.no ?_
  conv=>whnf
  refine Br.no ?_
  conv=>whnf
  refine Br.no ?_
  conv=>whnf
  refine Br.no ?_
  conv=>whnf
  cases h;exact (by first | rfl | simp only [Ah,Aa,V.fz,fzL,V.up,upL,Ab,Ac,Ad,slr] | simp [Ah,Aa,V.fz,fzL,V.up,upL,Ab,Ac,Ad,slr])
 conv=>whnf
 refine Br.no ?_
 conv=>whnf
 refine Br.no ?_
 conv=>whnf
 refine Br.no ?_
 conv=>whnf
 refine Br.no ?_
 conv=>whnf
 refine Br.no ?_
 conv=>whnf
 refine Br.no ?_
 conv=>whnf
 refine Br.no ?_
 conv=>whnf
 refine Br.no ?_
 conv=>whnf
 refine Br.no ?_
 conv=>whnf
 refine Br.no ?_
 conv=>whnf
 refine Br.no ?_
 conv=>whnf
 refine Br.no ?_
 conv=>whnf
 cases h;exact (by first | rfl | simp only [Ah,Aa,V.fz,fzL,V.up,upL,Ab,Ac,Ad,slr] | simp [Ah,Aa,V.fz,fzL,V.up,upL,Ab,Ac,Ad,slr])
noncomputable def F4 (n0:Int) (op0:SOp) (r0:SRelation):Option Bool:=
 (Kr (n0) (op0) (r0)).bind fun r1=>
 some !r1.snd.snd
theorem Ahg {n0:Int} {op0:SOp} {r0:SRelation} {v:Bool} (h:F4 n0 op0 r0=some v):Ret Tryz.prog Oy [Ae n0,(Co false) op0,(Ai false) r0] (V.bool v):=by
 refine A5 Age (Nat.le_of_ble_eq_true rfl) ?_
 unfold F4 at h
 conv=>whnf
 refine Cells.lit rfl rfl ?_
 conv=>whnf
 refine Cells.lit rfl rfl ?_
 conv=>whnf
 refine CallQ.o (fun r=>V.tup [(slr false 1 Ae) r.1,(slr false 1 Ae) r.2.1,V.bool r.2.2]) (by first | rfl | simp only [Aa,V.fz,fzL,V.up,upL,Ab,Ac,Ad,slr,List.cons_append,List.nil_append] | simp [Aa,V.fz,fzL,V.up,upL,Ab,Ac,Ad,slr]) h (fun r h=>Aha h) (fun r1 h=> ?_)
 conv=>whnf
 cases h;exact (by first | rfl | simp only [Ah,Aa,V.fz,fzL,V.up,upL,Ab,Ac,Ad,slr] | simp [Ah,Aa,V.fz,fzL,V.up,upL,Ab,Ac,Ad,slr])
noncomputable def Cm (net0:SNetwork):Option ((List Bool)×Bool):=
 (Ee (net0)).bind fun r1=>
 if (r1)=true then
 (C8 (net0.Constraints)).bind fun r3=>
 some (r3,true)
 else
 some (Au Bool,false)
theorem H5 {net0:SNetwork} {v:((List Bool)×Bool)} (h:Cm net0=some v):Ret Tryz.prog D6 [(Aj false) net0] ((fun r=>V.tup [(slr true 1 V.bool) r.1,V.bool r.2]) v):=by
 refine A5 W0 (Nat.le_of_ble_eq_true rfl) ?_
 unfold Cm at h
 conv=>whnf
 refine Cells.lit rfl rfl ?_
 conv=>whnf
 refine CallQ.o V.bool (by first | rfl | simp only [Aa,V.fz,fzL,V.up,upL,Ab,Ac,Ad,slr,List.cons_append,List.nil_append] | simp [Aa,V.fz,fzL,V.up,upL,Ab,Ac,Ad,slr]) h (fun r h=>Mr h) (fun r1 h=> ?_)
 conv=>whnf
 refine Br.flip ?_
 conv=>whnf
 refine Br.ob h (fun p2 h=> ?_) (fun p2 h=> ?_)
 ·conv=>whnf
  refine Cells.lit rfl rfl ?_
  conv=>whnf
  refine CallQ.o (slr true 1 V.bool) (by first | rfl | simp only [Aa,V.fz,fzL,V.up,upL,Ab,Ac,Ad,slr,List.cons_append,List.nil_append] | simp [Aa,V.fz,fzL,V.up,upL,Ab,Ac,Ad,slr]) h (fun r h=>Mn h) (fun r3 h=> ?_)
  conv=>whnf
  cases h;exact (by first | rfl | simp only [Ah,Aa,V.fz,fzL,V.up,upL,Ab,Ac,Ad,slr] | simp [Ah,Aa,V.fz,fzL,V.up,upL,Ab,Ac,Ad,slr])
 conv=>whnf
 refine BslQ.o V.bool (Au Bool) (by exact fun _=>⟨rfl,rfl⟩) (by first | rfl | (simp only [Aa,V.fz,fzL,V.up,upL,Ab,Ac,Ad,slr,List.cons_append,List.nil_append];done) | simp [Aa,V.fz,fzL,V.up,upL,Ab,Ac,Ad,slr]) ?_
 conv=>whnf
 cases h;exact (by first | rfl | simp only [Ah,Aa,V.fz,fzL,V.up,upL,Ab,Ac,Ad,slr] | simp [Ah,Aa,V.fz,fzL,V.up,upL,Ab,Ac,Ad,slr])
noncomputable def Cr (r3:List Bool):Int→Option (Int ⊕ (Int ⊕ Unit)):=fun x13=>
 if x13<(↑r3.length:Int) then
 ask ((0:Int)≤x13∧x13<(↑r3.length:Int)) <|
 if (nth r3 x13.toNat)=true then
 some (.inr (.inl x13))
 else
 ask (InI (x13+(1:Int))) <|
 some (.inl (x13+(1:Int)))
 else
 some (.inr (.inr ()))
def In (r3:List Bool):Int→St:=fun s=>[(13,A.val (Ae s)),(12,A.val (Ae ((↑r3.length:Int)))),(11,A.val ((slr true 1 V.bool) (r3)))]
def N4 (_r3:List Bool):(Int ⊕ Unit)→Tgt
 | (.inl s)=>(Ex.ret,[3,2],[(3,A.val (V.bool (true))),(2,A.val (Ae s))])
 | (.inr _s)=>((Ex.exit 0),[],[])
theorem Ye {r3:List Bool} (x13:Int) (o:Int ⊕ (Int ⊕ Unit)) (h:Cr r3 x13=some o):vc Tryz.prog Oe (Dc [13,12,11] (In r3) (N4 r3) o) (In r3 x13):=by
 unfold Cr at h
 try dsimp only at h
 conv=>whnf
 refine Br.od h (fun p4 h=> ?_) (fun p4 h=> ?_)
 ·conv=>whnf
  refine Len.map ?_
  conv=>whnf
  refine Ask.o h fun p5 h=> ?_
  conv=>whnf
  refine Cells.one (fun _=>⟨rfl,rfl⟩) (by first | omega | (simp [Be] at * <;> omega)) ?_
  conv=>whnf
  refine Br.ob h (fun p6 h=> ?_) (fun p6 h=> ?_)
  ·conv=>whnf
   cases h;exact ⟨rfl,rfl⟩
  conv=>whnf
  refine Ask.o h fun p7 h=> ?_
  conv=>whnf
  cases h;exact ⟨rfl,rfl⟩
 conv=>whnf
 cases h;exact ⟨rfl,rfl⟩
noncomputable def Ga (net0:SNetwork):Option (Int×Bool):=
 (Ee (net0)).bind fun r1=>
 if (r1)=true then
 (C8 (net0.Constraints)).bind fun r3=>
 (Ao (Cr r3) (0:Int)).bind fun t=>match t with
 | (.inl q8_2)=>(some (q8_2,true))
 | (.inr _)=>(some ((6:Int),true))
 else
 some ((0:Int),false)
theorem Acl {net0:SNetwork} {v:(Int×Bool)} (h:Ga net0=some v):Ret Tryz.prog Lm [(Aj false) net0] ((fun r=>V.tup [Ae r.1,V.bool r.2]) v):=by
 refine A5 Ac3 (Nat.le_of_ble_eq_true rfl) ?_
 unfold Ga at h
 conv=>whnf
 refine Cells.lit rfl rfl ?_
 conv=>whnf
 refine CallQ.o V.bool (by first | rfl | simp only [Aa,V.fz,fzL,V.up,upL,Ab,Ac,Ad,slr,List.cons_append,List.nil_append] | simp [Aa,V.fz,fzL,V.up,upL,Ab,Ac,Ad,slr]) h (fun r h=>Mr h) (fun r1 h=> ?_)
 conv=>whnf
 refine Br.flip ?_
 conv=>whnf
 refine Br.ob h (fun p2 h=> ?_) (fun p2 h=> ?_)
 ·conv=>whnf
  refine Cells.lit rfl rfl ?_
  conv=>whnf
  refine CallQ.o (slr true 1 V.bool) (by first | rfl | simp only [Aa,V.fz,fzL,V.up,upL,Ab,Ac,Ad,slr,List.cons_append,List.nil_append] | simp [Aa,V.fz,fzL,V.up,upL,Ab,Ac,Ad,slr]) h (fun r h=>Mn h) (fun r3 h=> ?_)
  conv=>whnf
  refine Len.map ?_
  conv=>whnf
  refine LoopQ.o [13,12,11] (In r3) (N4 r3) h (fun s o h=>Ye s o h) (by first | rfl | simp [restrict,look,Aa,V.fz,fzL,V.up,upL,Ab,Ac,Ad,slr]) (by rintro (_ | _)<;>rfl) ?_
  rintro (q8_2 | ⟨⟩) h
  ·try dsimp only at h
   conv=>whnf
   cases h;exact (by first | rfl | simp only [Ah,Aa,V.fz,fzL,V.up,upL,Ab,Ac,Ad,slr] | simp [Ah,Aa,V.fz,fzL,V.up,upL,Ab,Ac,Ad,slr])
  try dsimp only at h
  conv=>whnf
  cases h;exact (by first | rfl | simp only [Ah,Aa,V.fz,fzL,V.up,upL,Ab,Ac,Ad,slr] | simp [Ah,Aa,V.fz,fzL,V.up,upL,Ab,Ac,Ad,slr])
 conv=>whnf
 cases h;exact (by first | rfl | simp only [Ah,Aa,V.fz,fzL,V.up,upL,Ab,Ac,Ad,slr] | simp [Ah,Aa,V.fz,fzL,V.up,upL,Ab,Ac,Ad,slr])
noncomputable def Ce (_class0:Int) (_x6:Int) (x5:SNetwork):(Int×SConstraint×Sl1Cur)→Option ((Int×SConstraint×Sl1Cur) ⊕ (SConstraint×Sl1Cur)):=fun (x8,x7,x87')=>
 if x8<x7.Rel.Arity then
 (Bn (x87') (x5.Vars)).bind fun (r11,u12)=>
 ask ((x7.Scope).length+([r11]).length≤LIM) <|
 ask (InI (x8+(1:Int))) <|
 some (.inl (x8+(1:Int),{ Scope:=x7.Scope++[r11],Rel:=x7.Rel },u12))
 else
 some (.inr (x7,x87'))
def Fw (class0:Int) (x6:Int) (x5:SNetwork):(Int×SConstraint×Sl1Cur)→St:=fun s=>[(8,A.val (Ae s.1)),(7,A.val ((rP true (Gp)) s.2.1)),(6,A.val (Ae (x6))),(5,A.val ((rP true (Dt)) (x5))),(4,A.val ((rP true (Dt)) ({ Vars:=(0:Int),Size:=(0:Int),Constraints:=Au SConstraint }))),(0,A.ref 87 []),(87,A.val ((rP true (Ak false)) s.2.2)),(1,A.val (Ae (class0)))]
def Jr (class0:Int) (x6:Int) (x5:SNetwork):(SConstraint×Sl1Cur)→Tgt
 | s=>((Ex.exit 2),[7,6,5,4,0,87,1],[(7,A.val ((rP true (Gp)) s.1)),(6,A.val (Ae (x6))),(5,A.val ((rP true (Dt)) (x5))),(4,A.val ((rP true (Dt)) ({ Vars:=(0:Int),Size:=(0:Int),Constraints:=Au SConstraint }))),(0,A.ref 87 []),(87,A.val ((rP true (Ak false)) s.2)),(1,A.val (Ae (class0)))])
theorem Q6 {class0:Int} {x6:Int} {x5:SNetwork} (s:(Int×SConstraint×Sl1Cur)) (o:(Int×SConstraint×Sl1Cur) ⊕ (SConstraint×Sl1Cur)) (h:Ce class0 x6 x5 s=some o):vc Tryz.prog Jp (Dc [8,7,6,5,4,0,87,1] (Fw class0 x6 x5) (Jr class0 x6 x5) o) (Fw class0 x6 x5 s):=by
 obtain ⟨x8,x7,x87'⟩:=s
 unfold Ce at h
 try dsimp only at h
 conv=>whnf
 refine Cells.lit rfl rfl ?_
 conv=>whnf
 refine Br.od h (fun p10 h=> ?_) (fun p10 h=> ?_)
 ·conv=>whnf
  refine Cells.lit rfl rfl ?_
  conv=>whnf
  refine Cells.lit rfl rfl ?_
  conv=>whnf
  refine LendP.io Ae (rP true (Ak false)) (by first | rfl | simp only [Aa,V.fz,fzL,V.up,upL,Ab,Ac,Ad,slr,List.cons_append,List.nil_append] | simp [Aa,V.fz,fzL,V.up,upL,Ab,Ac,Ad,slr]) (fun _=>rfl) (fun _=>⟨rfl,rfl⟩) (fun _=>rfl) h (fun r h=>C6 h) (fun r11 u12 h=> ?_)
  conv=>whnf
  refine BslQ.o Ae [r11] (by exact fun _=>⟨rfl,rfl⟩) (by first | rfl | (simp only [Aa,V.fz,fzL,V.up,upL,Ab,Ac,Ad,slr,List.cons_append,List.nil_append];done) | simp [Aa,V.fz,fzL,V.up,upL,Ab,Ac,Ad,slr]) ?_
  conv=>whnf
  refine NoOwn.o (fun _=>rfl) ?_
  conv=>whnf
  refine Kid.lit rfl rfl ?_
  conv=>whnf
  refine Kid.lit rfl rfl ?_
  conv=>whnf
  refine SetKids.lit rfl ?_
  conv=>whnf
  refine AppQ.o (m:=1) Ae (by exact fun _=>⟨rfl,rfl⟩) (x7.Scope) ([r11]) (by first | rfl | simp only [Aa,V.fz,fzL,V.up,upL,Ab,Ac,Ad,slr,List.cons_append,List.nil_append] | simp [Aa,V.fz,fzL,V.up,upL,Ab,Ac,Ad,slr]) (by first | rfl | simp only [Aa,V.fz,fzL,V.up,upL,Ab,Ac,Ad,slr,List.cons_append,List.nil_append] | simp [Aa,V.fz,fzL,V.up,upL,Ab,Ac,Ad,slr]) h fun h=> ?_
  conv=>whnf
  refine SetKids.lit rfl ?_
  conv=>whnf
  refine Ask.o h fun p13 h=> ?_
  conv=>whnf
  cases h;exact ⟨rfl,rfl⟩
 conv=>whnf
 cases h;exact ⟨rfl,rfl⟩
noncomputable def Cy (class0:Int):(Int×SNetwork×Sl1Cur)→Option ((Int×SNetwork×Sl1Cur) ⊕ (SNetwork×Sl1Cur)):=fun (x6,x5,x87)=>
 ((if x6>(0:Int) then
 if x5.Vars>(0:Int) then
 some (.inl ())
 else
 some (.inr ())
 else
 some (.inr ()):Option (Unit ⊕ Unit))).bind fun t=>match t with
 | (.inl _)=>((Fj (x87) (class0)).bind fun (r8,u9)=>
 (Ao (Ce class0 x6 x5) ((0:Int),{ Scope:=Au Int,Rel:=r8 },u9)).bind fun (q14_7,q14_87)=>
 ask ((x5.Constraints).length+([q14_7]).length≤LIM) <|
 ask (InI (x6-(1:Int))) <|
 some (.inl (x6-(1:Int),{ Vars:=x5.Vars,Size:=x5.Size,Constraints:=x5.Constraints++[q14_7] },q14_87)))
 | (.inr _)=>(some (.inr (x5,x87)))
def Fx (class0:Int):(Int×SNetwork×Sl1Cur)→St:=fun s=>[(6,A.val (Ae s.1)),(5,A.val ((rP true (Dt)) s.2.1)),(4,A.val ((rP true (Dt)) ({ Vars:=(0:Int),Size:=(0:Int),Constraints:=Au SConstraint }))),(0,A.ref 87 []),(87,A.val ((rP true (Ak false)) s.2.2)),(1,A.val (Ae (class0)))]
def Jq (_class0:Int):(SNetwork×Sl1Cur)→Tgt
 | s=>((Ex.exit 0),[5,4,0,87],[(5,A.val ((rP true (Dt)) s.1)),(4,A.val ((rP true (Dt)) ({ Vars:=(0:Int),Size:=(0:Int),Constraints:=Au SConstraint }))),(0,A.ref 87 []),(87,A.val ((rP true (Ak false)) s.2))])
theorem Rb {class0:Int} (s:(Int×SNetwork×Sl1Cur)) (o:(Int×SNetwork×Sl1Cur) ⊕ (SNetwork×Sl1Cur)) (h:Cy class0 s=some o):vc Tryz.prog Jo (Dc [6,5,4,0,87,1] (Fx class0) (Jq class0) o) (Fx class0 s):=by
 obtain ⟨x6,x5,x87⟩:=s
 unfold Cy at h
 try dsimp only at h
 conv=>whnf
 refine CutQ.o (fun t:(Unit ⊕ Unit)=>match t with | (.inl s)=>(Ex.normal,[6,5,4,0,87,1],[(6,A.val (Ae (x6))),(5,A.val ((rP true (Dt)) (x5))),(4,A.val ((rP true (Dt)) ({ Vars:=(0:Int),Size:=(0:Int),Constraints:=Au SConstraint }))),(0,A.ref 87 []),(87,A.val ((rP true (Ak false)) (x87))),(1,A.val (Ae (class0)))]) | (.inr s)=>((Ex.exit 0),[5,4,0,87],[(5,A.val ((rP true (Dt)) (x5))),(4,A.val ((rP true (Dt)) ({ Vars:=(0:Int),Size:=(0:Int),Constraints:=Au SConstraint }))),(0,A.ref 87 []),(87,A.val ((rP true (Ak false)) (x87)))])) h ?_ ?_
 ·intro t h
  conv=>whnf
  refine Br.od h (fun p5 h=> ?_) (fun p5 h=> ?_)
  ·conv=>whnf
   refine Br.yes ?_
   conv=>whnf
   refine Cells.lit rfl rfl ?_
   conv=>whnf
   refine Br.yes ?_
   conv=>whnf
   refine Br.yes ?_
   conv=>whnf
   refine Br.od h (fun p6 h=> ?_) (fun p6 h=> ?_)
   ·conv=>whnf
    cases h;exact ⟨rfl,rfl⟩
   conv=>whnf
   cases h;exact ⟨rfl,rfl⟩
  conv=>whnf
  refine Br.no ?_
  conv=>whnf
  refine Br.no ?_
  conv=>whnf
  refine Br.no ?_
  conv=>whnf
  refine Br.no ?_
  conv=>whnf
  cases h;exact ⟨rfl,rfl⟩
 rintro (⟨⟩ | ⟨⟩) h
 ·try dsimp only at h
  conv=>whnf
  refine CallQ.io (Ai false) (rP true (Ak false)) (by first | rfl | simp only [Aa,V.fz,fzL,V.up,upL,Ab,Ac,Ad,slr,List.cons_append,List.nil_append] | simp [Aa,V.fz,fzL,V.up,upL,Ab,Ac,Ad,slr]) rfl (fun _=>rfl) (fun _=>⟨rfl,rfl⟩) rfl h (fun r h=>Aai h) (fun r8 u9 h=> ?_)
  conv=>whnf
  refine SetKids.lit rfl ?_
  conv=>whnf
  refine LoopQ.o [8,7,6,5,4,0,87,1] (Fw class0 x6 x5) (Jr class0 x6 x5) h (fun s o h=>Q6 s o h) (by first | rfl | simp [restrict,look,Aa,V.fz,fzL,V.up,upL,Ab,Ac,Ad,slr]) (fun _=>rfl) ?_
  rintro ⟨q14_7,q14_87⟩ h
  try dsimp only at h
  conv=>whnf
  refine Cells.lit rfl rfl ?_
  conv=>whnf
  refine Cells.lit rfl rfl ?_
  conv=>whnf
  refine BslQ.o (Gp) [q14_7] (by exact fun _=>⟨rfl,rfl⟩) (by first | rfl | (simp only [Aa,V.fz,fzL,V.up,upL,Ab,Ac,Ad,slr,List.cons_append,List.nil_append];done) | simp [Aa,V.fz,fzL,V.up,upL,Ab,Ac,Ad,slr]) ?_
  conv=>whnf
  refine NoOwn.own rfl ?_
  conv=>whnf
  refine Kid.lit rfl rfl ?_
  conv=>whnf
  refine Kid.lit rfl rfl ?_
  conv=>whnf
  refine SetKids.lit rfl ?_
  conv=>whnf
  refine AppQ.o (m:=3) (Gp) (by exact fun _=>⟨rfl,rfl⟩) (x5.Constraints) ([q14_7]) (by first | rfl | simp only [Aa,V.fz,fzL,V.up,upL,Ab,Ac,Ad,slr,List.cons_append,List.nil_append] | simp [Aa,V.fz,fzL,V.up,upL,Ab,Ac,Ad,slr]) (by first | rfl | simp only [Aa,V.fz,fzL,V.up,upL,Ab,Ac,Ad,slr,List.cons_append,List.nil_append] | simp [Aa,V.fz,fzL,V.up,upL,Ab,Ac,Ad,slr]) h fun h=> ?_
  conv=>whnf
  refine SetKids.lit rfl ?_
  conv=>whnf
  refine Ask.o h fun p15 h=> ?_
  conv=>whnf
  cases h;exact ⟨rfl,rfl⟩
 try dsimp only at h
 conv=>whnf
 cases h;exact ⟨rfl,rfl⟩
noncomputable def Du (c0:Sl1Cur) (class0:Int):Option (SNetwork×Sl1Cur):=
 (Bj (c0) ([(2:Int),(3:Int),(3:Int),(4:Int),(5:Int),(1:Int),(9:Int),(0:Int)])).bind fun (r1,u2)=>
 (Bj (u2) ([(1:Int),(2:Int),(3:Int),(4:Int),(5:Int),(6:Int),(0:Int)])).bind fun (r3,u4)=>
 (Ao (Cy class0) (r3,{ Vars:=r1,Size:=(2:Int),Constraints:=Au SConstraint },u4)).bind fun (q16_5,q16_87)=>
 (Bn (q16_87) ((40:Int))).bind fun (r17,u18)=>
 if r17=(0:Int) then
 (Bj (u18) ([(3:Int),(1:Int),(0:Int)])).bind fun (r20,u21)=>
 some ({ Vars:=q16_5.Vars,Size:=r20,Constraints:=q16_5.Constraints },u21)
 else
 if r17=(1:Int) then
 ask (InI (q16_5.Vars+(1:Int))) <|
 (Bj (u18) ([(-1:Int),(10:Int),q16_5.Vars+(1:Int)])).bind fun (r24,u25)=>
 some ({ Vars:=r24,Size:=q16_5.Size,Constraints:=q16_5.Constraints },u25)
 else
 if r17=(2:Int) then
 if (↑q16_5.Constraints.length:Int)>(0:Int) then
 ask ((0:Int)≤(0:Int)∧(0:Int)<(↑q16_5.Constraints.length:Int)) <|
 ask ((0:Int)≤(0:Int)∧(0:Int)<(↑q16_5.Constraints.length:Int)) <|
 ask ((0:Int)≤(0:Int)∧(0:Int)<(↑q16_5.Constraints.length:Int)) <|
 ask (((nth q16_5.Constraints (Int.toNat (0:Int))).Scope).length+([(0:Int)]).length≤LIM) <|
 ask ((0:Int)≤(0:Int)∧(0:Int)<(↑q16_5.Constraints.length:Int)) <|
 some ({ Vars:=q16_5.Vars,Size:=q16_5.Size,Constraints:=q16_5.Constraints.set (Int.toNat (0:Int)) { Scope:=(nth q16_5.Constraints (Int.toNat (0:Int))).Scope++[(0:Int)],Rel:=(nth q16_5.Constraints (Int.toNat (0:Int))).Rel } },u18)
 else
 some (q16_5,u18)
 else
 some (q16_5,u18)
theorem U9 {c0:Sl1Cur} {class0:Int} {v:(SNetwork×Sl1Cur)} (h:Du c0 class0=some v):Rc Tryz.prog Hm [(rP true (Ak false)) c0,Ae class0] ((Aj false) v.1) 0 ((rP true (Ak false)) v.2):=by
 refine Afc Vt (Nat.le_of_ble_eq_true rfl) ?_
 unfold Du at h
 conv=>whnf
 refine BslQ.o Ae ([(2:Int),(3:Int),(3:Int),(4:Int),(5:Int),(1:Int),(9:Int),(0:Int)]) (by exact fun _=>⟨rfl,rfl⟩) (by first | rfl | (simp only [Aa,V.fz,fzL,V.up,upL,Ab,Ac,Ad,slr,List.cons_append,List.nil_append];done) | simp [Aa,V.fz,fzL,V.up,upL,Ab,Ac,Ad,slr]) ?_
 conv=>whnf
 refine CallQ.io Ae (rP true (Ak false)) (by first | rfl | (simp only [Aa,Am,V.fz,fzL,Ab,Ac,slr];done) | simp [Aa,Am,V.fz,fzL,V.up,upL,Ab,Ac,Ad,slr]) rfl (fun _=>rfl) (fun _=>⟨rfl,rfl⟩) rfl h (fun r h=>Ct h) (fun r1 u2 h=> ?_)
 conv=>whnf
 refine BslQ.o (Ap true) (Au SConstraint) (by exact fun _=>⟨rfl,rfl⟩) (by first | rfl | (simp only [Aa,V.fz,fzL,V.up,upL,Ab,Ac,Ad,slr,List.cons_append,List.nil_append];done) | simp [Aa,V.fz,fzL,V.up,upL,Ab,Ac,Ad,slr]) ?_
 conv=>whnf
 refine SetKids.lit rfl ?_
 conv=>whnf
 refine BslQ.o Ae ([(1:Int),(2:Int),(3:Int),(4:Int),(5:Int),(6:Int),(0:Int)]) (by exact fun _=>⟨rfl,rfl⟩) (by first | rfl | (simp only [Aa,V.fz,fzL,V.up,upL,Ab,Ac,Ad,slr,List.cons_append,List.nil_append];done) | simp [Aa,V.fz,fzL,V.up,upL,Ab,Ac,Ad,slr]) ?_
 conv=>whnf
 refine CallQ.io Ae (rP true (Ak false)) (by first | rfl | (simp only [Aa,Am,V.fz,fzL,Ab,Ac,slr];done) | simp [Aa,Am,V.fz,fzL,V.up,upL,Ab,Ac,Ad,slr]) rfl (fun _=>rfl) (fun _=>⟨rfl,rfl⟩) rfl h (fun r h=>Ct h) (fun r3 u4 h=> ?_)
 conv=>whnf
 refine LoopQ.o [6,5,4,0,87,1] (Fx class0) (Jq class0) h (fun s o h=>Rb s o h) (by first | rfl | simp [restrict,look,Aa,V.fz,fzL,V.up,upL,Ab,Ac,Ad,slr]) (fun _=>rfl) ?_
 rintro ⟨q16_5,q16_87⟩ h
 try dsimp only at h
 conv=>whnf
 refine CallQ.io Ae (rP true (Ak false)) (by first | rfl | simp only [Aa,V.fz,fzL,V.up,upL,Ab,Ac,Ad,slr,List.cons_append,List.nil_append] | simp [Aa,V.fz,fzL,V.up,upL,Ab,Ac,Ad,slr]) rfl (fun _=>rfl) (fun _=>⟨rfl,rfl⟩) rfl h (fun r h=>C6 h) (fun r17 u18 h=> ?_)
 conv=>whnf
 refine Br.oe h (fun p19 h=> ?_) (fun p19 h=> ?_)
 ·conv=>whnf
  refine BslQ.o Ae ([(3:Int),(1:Int),(0:Int)]) (by exact fun _=>⟨rfl,rfl⟩) (by first | rfl | (simp only [Aa,V.fz,fzL,V.up,upL,Ab,Ac,Ad,slr,List.cons_append,List.nil_append];done) | simp [Aa,V.fz,fzL,V.up,upL,Ab,Ac,Ad,slr]) ?_
  conv=>whnf
  refine CallQ.io Ae (rP true (Ak false)) (by first | rfl | (simp only [Aa,Am,V.fz,fzL,Ab,Ac,slr];done) | simp [Aa,Am,V.fz,fzL,V.up,upL,Ab,Ac,Ad,slr]) rfl (fun _=>rfl) (fun _=>⟨rfl,rfl⟩) rfl h (fun r h=>Ct h) (fun r20 u21 h=> ?_)
  conv=>whnf
  refine SetKids.lit rfl ?_
  conv=>whnf
  refine Cells.lit rfl rfl ?_
  conv=>whnf
  refine SetKids.lit rfl ?_
  conv=>whnf
  cases h;exact ⟨(by first | rfl | simp only [Ah,V.fz,fzL,V.up,Ab,slr] | simp [Ah,Aa,V.fz,fzL,V.up,upL,Ab,Ac,Ad,slr]),(by first | rfl | simp only [Ah,Aa,V.fz,fzL,V.up,upL,Ab,Ac,Ad,slr] | simp [Ah,Aa,V.fz,fzL,V.up,upL,Ab,Ac,Ad,slr])⟩
 conv=>whnf
 refine Br.oe h (fun p22 h=> ?_) (fun p22 h=> ?_)
 ·conv=>whnf
  refine Cells.lit rfl rfl ?_
  conv=>whnf
  refine Ask.o h fun p23 h=> ?_
  conv=>whnf
  refine BslQ.o Ae ([(-1:Int),(10:Int),q16_5.Vars+(1:Int)]) (by exact fun _=>⟨rfl,rfl⟩) (by first | rfl | (simp only [Aa,V.fz,fzL,V.up,upL,Ab,Ac,Ad,slr,List.cons_append,List.nil_append];done) | simp [Aa,V.fz,fzL,V.up,upL,Ab,Ac,Ad,slr]) ?_
  conv=>whnf
  refine CallQ.io Ae (rP true (Ak false)) (by first | rfl | (simp only [Aa,Am,V.fz,fzL,Ab,Ac,slr];done) | simp [Aa,Am,V.fz,fzL,V.up,upL,Ab,Ac,Ad,slr]) rfl (fun _=>rfl) (fun _=>⟨rfl,rfl⟩) rfl h (fun r h=>Ct h) (fun r24 u25 h=> ?_)
  conv=>whnf
  refine SetKids.lit rfl ?_
  conv=>whnf
  refine Cells.lit rfl rfl ?_
  conv=>whnf
  refine SetKids.lit rfl ?_
  conv=>whnf
  cases h;exact ⟨(by first | rfl | simp only [Ah,V.fz,fzL,V.up,Ab,slr] | simp [Ah,Aa,V.fz,fzL,V.up,upL,Ab,Ac,Ad,slr]),(by first | rfl | simp only [Ah,Aa,V.fz,fzL,V.up,upL,Ab,Ac,Ad,slr] | simp [Ah,Aa,V.fz,fzL,V.up,upL,Ab,Ac,Ad,slr])⟩
 conv=>whnf
 refine Br.oe h (fun p26 h=> ?_) (fun p26 h=> ?_)
 ·conv=>whnf
  refine Cells.lit rfl rfl ?_
  conv=>whnf
  refine Kid.lit rfl rfl ?_
  conv=>whnf
  refine Len.map ?_
  conv=>whnf
  refine Br.od h (fun p27 h=> ?_) (fun p27 h=> ?_)
  ·conv=>whnf
   refine Cells.lit rfl rfl ?_
   conv=>whnf
   refine Cells.lit rfl rfl ?_
   conv=>whnf
   refine Kid.lit rfl rfl ?_
   conv=>whnf
   refine Len.map ?_
   conv=>whnf
   refine Ask.o h fun p28 h=> ?_
   conv=>whnf
   refine Kid.lit rfl rfl ?_
   conv=>whnf
   refine Cells.wide (by exact fun _=>⟨rfl,rfl⟩) (by first | omega | (simp [Be] at * <;> omega)) (by decide) ?_
   conv=>whnf
   refine SameQ.mk ⟨rfl,?_⟩
   conv=>whnf
   refine Cells.lit rfl rfl ?_
   conv=>whnf
   refine SameQ.mk ⟨rfl,?_⟩
   conv=>whnf
   refine SameQ.mk ⟨rfl,?_⟩
   conv=>whnf
   refine Cells.lit rfl rfl ?_
   conv=>whnf
   refine SameQ.mk ⟨rfl,?_⟩
   conv=>whnf
   refine Kid.lit rfl rfl ?_
   conv=>whnf
   refine Len.map ?_
   conv=>whnf
   refine Ask.o h fun p29 h=> ?_
   conv=>whnf
   refine SameQ.mk ⟨rfl,?_⟩
   conv=>whnf
   refine SameQ.mk ⟨rfl,?_⟩
   conv=>whnf
   refine Kid.lit rfl rfl ?_
   conv=>whnf
   refine Cells.wide (by exact fun _=>⟨rfl,rfl⟩) (by first | omega | (simp [Be] at * <;> omega)) (by decide) ?_
   conv=>whnf
   refine SameQ.mk ⟨rfl,?_⟩
   conv=>whnf
   refine BslQ.o Ae ([(0:Int)]) (by exact fun _=>⟨rfl,rfl⟩) (by first | rfl | (simp only [Aa,V.fz,fzL,V.up,upL,Ab,Ac,Ad,slr,List.cons_append,List.nil_append];done) | simp [Aa,V.fz,fzL,V.up,upL,Ab,Ac,Ad,slr]) ?_
   conv=>whnf
   refine SameQ.mk ⟨rfl,?_⟩
   conv=>whnf
   refine Cells.lit rfl rfl ?_
   conv=>whnf
   refine SameQ.mk ⟨rfl,?_⟩
   conv=>whnf
   refine SameQ.mk ⟨rfl,?_⟩
   conv=>whnf
   refine Cells.lit rfl rfl ?_
   conv=>whnf
   refine SameQ.mk ⟨rfl,?_⟩
   conv=>whnf
   refine Kid.lit rfl rfl ?_
   conv=>whnf
   refine Len.map ?_
   conv=>whnf
   refine Ask.o h fun p30 h=> ?_
   conv=>whnf
   refine SameQ.mk ⟨rfl,?_⟩
   conv=>whnf
   refine SameQ.mk ⟨rfl,?_⟩
   conv=>whnf
   refine Kid.lit rfl rfl ?_
   conv=>whnf
   refine Cells.wide (by exact fun _=>⟨rfl,rfl⟩) (by first | omega | (simp [Be] at * <;> omega)) (by decide) ?_
   conv=>whnf
   refine SameQ.mk ⟨rfl,?_⟩
   conv=>whnf
   refine NoOwn.o (fun _=>rfl) ?_
   conv=>whnf
   refine Kid.lit rfl rfl ?_
   conv=>whnf
   refine Kid.wide (by exact fun _=>⟨rfl,rfl⟩) (by first | omega | (simp [Be] at * <;> omega)) (by rfl) ?_
   conv=>whnf
   refine Kid.lit rfl rfl ?_
   conv=>whnf
   refine Kid.wide (by exact fun _=>⟨rfl,rfl⟩) (by first | omega | (simp [Be] at * <;> omega)) (by rfl) ?_
   conv=>whnf
   refine SetKids.mkholeW (by exact fun _=>⟨rfl,rfl⟩) _ (by first | omega | (simp [Be] at * <;> omega)) (by rfl) (by decide) ?_
   conv=>whnf
   refine SetKids.lit rfl ?_
   conv=>whnf
   refine AppQ.o (m:=1) Ae (by exact fun _=>⟨rfl,rfl⟩) ((nth q16_5.Constraints (Int.toNat (0:Int))).Scope) ([(0:Int)]) (by first | rfl | simp only [Aa,V.fz,fzL,V.up,upL,Ab,Ac,Ad,slr,List.cons_append,List.nil_append] | simp [Aa,V.fz,fzL,V.up,upL,Ab,Ac,Ad,slr]) (by first | rfl | simp only [Aa,V.fz,fzL,V.up,upL,Ab,Ac,Ad,slr,List.cons_append,List.nil_append] | simp [Aa,V.fz,fzL,V.up,upL,Ab,Ac,Ad,slr]) h fun h=> ?_
   conv=>whnf
   refine SameQ.mk ⟨rfl,?_⟩
   conv=>whnf
   refine Cells.lit rfl rfl ?_
   conv=>whnf
   refine SameQ.mk ⟨rfl,?_⟩
   conv=>whnf
   refine Kid.lit rfl rfl ?_
   conv=>whnf
   refine Len.holeW ?_
   conv=>whnf
   refine Ask.o h fun p31 h=> ?_
   conv=>whnf
   refine Kid.lit rfl rfl ?_
   conv=>whnf
   refine SetKids.fillW (by exact fun _=>⟨rfl,rfl⟩) ({ Scope:=(nth q16_5.Constraints (Int.toNat (0:Int))).Scope++[(0:Int)],Rel:=(nth q16_5.Constraints (Int.toNat (0:Int))).Rel }) (by first | omega | (simp [Be] at * <;> omega)) (by rfl) (by rfl) (by decide) ?_
   conv=>whnf
   refine Kid.lit rfl rfl ?_
   conv=>whnf
   refine SetKids.lit rfl ?_
   conv=>whnf
   refine Cells.lit rfl rfl ?_
   conv=>whnf
   refine SetKids.lit rfl ?_
   conv=>whnf
   cases h;exact ⟨(by first | rfl | simp only [Ah,V.fz,fzL,V.up,Ab] | simp [Ah,Aa,V.fz,fzL,V.up,upL,Ab,Ac,Ad,slr]),(by first | rfl | simp only [Ah,Aa,V.fz,fzL,V.up,upL,Ab,Ac,Ad,slr] | simp [Ah,Aa,V.fz,fzL,V.up,upL,Ab,Ac,Ad,slr])⟩
  conv=>whnf
  refine Cells.lit rfl rfl ?_
  conv=>whnf
  refine SetKids.lit rfl ?_
  conv=>whnf
  cases h;exact ⟨(by first | rfl | simp only [Ah,V.fz,fzL,V.up,Ab,slr] | simp [Ah,Aa,V.fz,fzL,V.up,upL,Ab,Ac,Ad,slr]),(by first | rfl | simp only [Ah,Aa,V.fz,fzL,V.up,upL,Ab,Ac,Ad,slr] | simp [Ah,Aa,V.fz,fzL,V.up,upL,Ab,Ac,Ad,slr])⟩
 conv=>whnf
 refine Cells.lit rfl rfl ?_
 conv=>whnf
 refine SetKids.lit rfl ?_
 conv=>whnf
 cases h;exact ⟨(by first | rfl | simp only [Ah,V.fz,fzL,V.up,Ab,slr] | simp [Ah,Aa,V.fz,fzL,V.up,upL,Ab,Ac,Ad,slr]),(by first | rfl | simp only [Ah,Aa,V.fz,fzL,V.up,upL,Ab,Ac,Ad,slr] | simp [Ah,Aa,V.fz,fzL,V.up,upL,Ab,Ac,Ad,slr])⟩
end Go.Proofs.YtjcekpmojnnmbaaGreat.Ax
