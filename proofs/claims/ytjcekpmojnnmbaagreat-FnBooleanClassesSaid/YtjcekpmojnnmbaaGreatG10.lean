/-
 What the functions compute, as functions on plain data, and that the program does compute it; written by program.
-/
import Derived.Test.YtjcekpmojnnmbaaGreatCode
import Derived.Test.YtjcekpmojnnmbaaGreatG1
import Derived.Test.YtjcekpmojnnmbaaGreatG3
import Derived.Test.YtjcekpmojnnmbaaGreatG5
import Derived.Test.YtjcekpmojnnmbaaGreatG8
import Derived.Test.YtjcekpmojnnmbaaGreatG9
namespace Go.Proofs.YtjcekpmojnnmbaaGreat.Ax
open Go
set_option maxRecDepth 100000
set_option maxHeartbeats 4000000
noncomputable def B4 (net0:SNetwork) (f0:SOp):(Int×(List SConstraint))→Option ((Int×(List SConstraint)) ⊕ (List SConstraint)):=fun (x29,x6)=>
 if x29<(↑net0.Constraints.length:Int) then
 ask ((0:Int)≤x29∧x29<(↑net0.Constraints.length:Int)) <|
 (Jk ((nth net0.Constraints x29.toNat).Scope)).bind fun r9=>
 (Do ((nth net0.Constraints x29.toNat).Rel) (f0.Table)).bind fun r10=>
 ask ((x6).length+(([{ Scope:=r9,Rel:=r10 }]:List SConstraint)).length≤LIM) <|
 ask (InI (x29+(1:Int))) <|
 some (.inl (x29+(1:Int),x6++[{ Scope:=r9,Rel:=r10 }]))
 else
 some (.inr x6)
def Gi (net0:SNetwork) (f0:SOp):(Int×(List SConstraint))→St:=fun s=>[(29,A.val (Ae s.1)),(28,A.val (Ae ((↑net0.Constraints.length:Int)))),(27,A.val ((slr false 3 (Ap false)) (net0.Constraints))),(6,A.val ((slr true 3 (Ap false)) s.2)),(4,A.val ((rP true (Aj true)) ({ Vars:=(0:Int),Size:=(0:Int),Constraints:=Au SConstraint }))),(3,A.val ((rP true (Co false)) (f0))),(2,A.val ((rP true (Aj false)) (net0)))]
def Kq (net0:SNetwork) (_f0:SOp):(List SConstraint)→Tgt
 | s=>((Ex.exit 0),[6,4,2],[(6,A.val ((slr true 3 (Ap false)) s)),(4,A.val ((rP true (Aj true)) ({ Vars:=(0:Int),Size:=(0:Int),Constraints:=Au SConstraint }))),(2,A.val ((rP true (Aj false)) (net0)))])
theorem Tb {net0:SNetwork} {f0:SOp} (s:(Int×(List SConstraint))) (o:(Int×(List SConstraint)) ⊕ (List SConstraint)) (h:B4 net0 f0 s=some o):vc Tryz.prog Kf (Dc [29,28,27,6,4,3,2] (Gi net0 f0) (Kq net0 f0) o) (Gi net0 f0 s):=by
 obtain ⟨x29,x6⟩:=s
 unfold B4 at h
 try dsimp only at h
 conv=>whnf
 refine Br.od h (fun p7 h=> ?_) (fun p7 h=> ?_)
 ·conv=>whnf
  refine Len.map ?_
  conv=>whnf
  refine Ask.o h fun p8 h=> ?_
  conv=>whnf
  refine Elem.o (by first | omega | (simp [Be] at * <;> omega)) ?_
  conv=>whnf
  refine SetKids.lit rfl ?_
  conv=>whnf
  refine Cells.lit rfl rfl ?_
  conv=>whnf
  refine Cells.lit rfl rfl ?_
  conv=>whnf
  refine Cells.lit rfl rfl ?_
  conv=>whnf
  refine SameQ.mk ⟨rfl,?_⟩
  conv=>whnf
  refine SameQ.mk ⟨rfl,?_⟩
  conv=>whnf
  refine Cells.lit rfl rfl ?_
  conv=>whnf
  refine SameQ.mk ⟨rfl,?_⟩
  conv=>whnf
  refine SameQ.mk ⟨rfl,?_⟩
  conv=>whnf
  refine Cells.lit rfl rfl ?_
  conv=>whnf
  refine SameQ.mk ⟨rfl,?_⟩
  conv=>whnf
  refine SameQ.mk ⟨rfl,?_⟩
  conv=>whnf
  refine Cells.lit rfl rfl ?_
  conv=>whnf
  refine SameQ.mk ⟨rfl,?_⟩
  conv=>whnf
  refine CallQ.o (slr false 1 Ae) (by first | rfl | simp only [Aa,V.fz,fzL,V.up,upL,Ab,Ac,Ad,slr,List.cons_append,List.nil_append] | simp [Aa,V.fz,fzL,V.up,upL,Ab,Ac,Ad,slr]) h (fun r h=>Ret.frz (Adn h) (by first | rfl | simp only [V.fz,Ab,slr] | simp [Aa,V.fz,fzL,V.up,upL,Ab,Ac,Ad,slr])) (fun r9 h=> ?_)
  conv=>whnf
  refine SameQ.mk ⟨rfl,?_⟩
  conv=>whnf
  refine SameQ.mk ⟨rfl,?_⟩
  conv=>whnf
  refine Cells.lit rfl rfl ?_
  conv=>whnf
  refine SameQ.mk ⟨rfl,?_⟩
  conv=>whnf
  refine SameQ.mk ⟨rfl,?_⟩
  conv=>whnf
  refine Cells.lit rfl rfl ?_
  conv=>whnf
  refine SameQ.mk ⟨rfl,?_⟩
  conv=>whnf
  refine CallQ.o (Ai false) (by first | rfl | simp only [Aa,V.fz,fzL,V.up,upL,Ab,Ac,Ad,slr,List.cons_append,List.nil_append] | simp [Aa,V.fz,fzL,V.up,upL,Ab,Ac,Ad,slr]) h (fun r h=>Ym h) (fun r10 h=> ?_)
  conv=>whnf
  refine SameQ.mk ⟨rfl,?_⟩
  conv=>whnf
  refine SameQ.mk ⟨rfl,?_⟩
  conv=>whnf
  refine BslQ.o (Ap false) ([{ Scope:=r9,Rel:=r10 }]) (by exact fun _=>⟨rfl,rfl⟩) (by first | rfl | (simp only [Aa,V.fz,fzL,V.up,upL,Ab,Ac,Ad,slr,List.cons_append,List.nil_append];done) | simp [Aa,V.fz,fzL,V.up,upL,Ab,Ac,Ad,slr]) ?_
  conv=>whnf
  refine SameQ.mk ⟨rfl,?_⟩
  conv=>whnf
  refine NoOwn.o (fun _=>rfl) ?_
  conv=>whnf
  refine AppQ.o (m:=3) (Ap false) (by exact fun _=>⟨rfl,rfl⟩) (x6) ([{ Scope:=r9,Rel:=r10 }]) (by first | rfl | simp only [Aa,V.fz,fzL,V.up,upL,Ab,Ac,Ad,slr,List.cons_append,List.nil_append] | simp [Aa,V.fz,fzL,V.up,upL,Ab,Ac,Ad,slr]) (by first | rfl | simp only [Aa,V.fz,fzL,V.up,upL,Ab,Ac,Ad,slr,List.cons_append,List.nil_append] | simp [Aa,V.fz,fzL,V.up,upL,Ab,Ac,Ad,slr]) h fun h=> ?_
  conv=>whnf
  refine Ask.o h fun p11 h=> ?_
  conv=>whnf
  cases h;exact ⟨rfl,rfl⟩
 conv=>whnf
 cases h;exact ⟨rfl,rfl⟩
noncomputable def Fq (net0:SNetwork) (f0:SOp):Option (SNetwork×Bool):=
 (((Fe (net0)).bind fun r1=>
 if (r1)=true then
 if f0.Arity≠(1:Int) then
 some (.inl ())
 else
 (K7 (f0) (net0.Size)).bind fun r4=>
 if (r4)=true then
 some (.inr ())
 else
 some (.inl ())
 else
 some (.inl ()):Option (Unit ⊕ Unit))).bind fun t=>match t with
 | (.inl _)=>(some ({ Vars:=(0:Int),Size:=(0:Int),Constraints:=Au SConstraint },false))
 | (.inr _)=>((Ao (B4 net0 f0) ((0:Int),Au SConstraint)).bind fun q12_6=>
 (E7 (net0) (q12_6)).bind fun r13=>
 some r13)
theorem Wu {net0:SNetwork} {f0:SOp} {v:(SNetwork×Bool)} (h:Fq net0 f0=some v):Ret Tryz.prog H9 [(Aj false) net0,(Co false) f0] ((fun r=>V.tup [(Aj false) r.1,V.bool r.2]) v):=by
 refine Uw Xf (Nat.le_of_ble_eq_true rfl) ?_
 unfold Fq at h
 conv=>whnf
 refine CutQ.o (fun t:(Unit ⊕ Unit)=>match t with | (.inl s)=>(Ex.ret,[5,4],[(5,A.val (V.bool (false))),(4,A.val ((rP true (Aj true)) ({ Vars:=(0:Int),Size:=(0:Int),Constraints:=Au SConstraint })))]) | (.inr s)=>(Ex.normal,[4,3,2],[(4,A.val ((rP true (Aj true)) ({ Vars:=(0:Int),Size:=(0:Int),Constraints:=Au SConstraint }))),(3,A.val ((rP true (Co false)) (f0))),(2,A.val ((rP true (Aj false)) (net0)))])) h ?_ ?_
 ·intro t h
  conv=>whnf
  refine Cells.lit rfl rfl ?_
  conv=>whnf
  refine CallQ.o V.bool (by first | rfl | simp only [Aa,V.fz,fzL,V.up,upL,Ab,Ac,Ad,slr,List.cons_append,List.nil_append] | simp [Aa,V.fz,fzL,V.up,upL,Ab,Ac,Ad,slr]) h (fun r h=>Ub h) (fun r1 h=> ?_)
  conv=>whnf
  refine Br.flip ?_
  conv=>whnf
  refine Br.ob h (fun p2 h=> ?_) (fun p2 h=> ?_)
  ·conv=>whnf
   refine Br.no ?_
   conv=>whnf
   refine Cells.lit rfl rfl ?_
   conv=>whnf
   refine Br.no ?_
   conv=>whnf
   refine Br.no ?_
   conv=>whnf
   refine Br.on h (fun p3 h=> ?_) (fun p3 h=> ?_)
   ·conv=>whnf
    refine Br.yes ?_
    conv=>whnf
    refine Br.yes ?_
    conv=>whnf
    refine Br.yes ?_
    conv=>whnf
    refine Br.yes ?_
    conv=>whnf
    refine Br.yes ?_
    conv=>whnf
    refine Br.yes ?_
    conv=>whnf
    refine SetKids.lit rfl ?_
    conv=>whnf
    cases h;exact ⟨rfl,rfl⟩
   conv=>whnf
   refine Cells.lit rfl rfl ?_
   conv=>whnf
   refine Br.no ?_
   conv=>whnf
   refine Br.no ?_
   conv=>whnf
   refine Cells.lit rfl rfl ?_
   conv=>whnf
   refine Br.no ?_
   conv=>whnf
   refine CallQ.o V.bool (by first | rfl | simp only [Aa,V.fz,fzL,V.up,upL,Ab,Ac,Ad,slr,List.cons_append,List.nil_append] | simp [Aa,V.fz,fzL,V.up,upL,Ab,Ac,Ad,slr]) h (fun r h=>Af8 h) (fun r4 h=> ?_)
   conv=>whnf
   refine Br.no ?_
   conv=>whnf
   refine Br.no ?_
   conv=>whnf
   refine Br.flip ?_
   conv=>whnf
   refine Br.ob h (fun p5 h=> ?_) (fun p5 h=> ?_)
   ·conv=>whnf
    cases h;exact ⟨rfl,rfl⟩
   conv=>whnf
   refine SetKids.lit rfl ?_
   conv=>whnf
   cases h;exact ⟨rfl,rfl⟩
  conv=>whnf
  refine Br.yes ?_
  conv=>whnf
  refine Br.yes ?_
  conv=>whnf
  refine Br.yes ?_
  conv=>whnf
  refine Br.yes ?_
  conv=>whnf
  refine Br.yes ?_
  conv=>whnf
  refine Br.yes ?_
  conv=>whnf
  refine Br.yes ?_
  conv=>whnf
  refine Br.yes ?_
  conv=>whnf
  refine Br.yes ?_
  conv=>whnf
  refine Br.yes ?_
  conv=>whnf
  refine SetKids.lit rfl ?_
  conv=>whnf
  cases h;exact ⟨rfl,rfl⟩
 rintro (⟨⟩ | ⟨⟩) h
 ·try dsimp only at h
  conv=>whnf
  cases h;exact (by first | rfl | simp only [Ah,Aa,V.fz,fzL,V.up,upL,Ab,Ac,Ad,slr] | simp [Ah,Aa,V.fz,fzL,V.up,upL,Ab,Ac,Ad,slr])
 try dsimp only at h
 conv=>whnf
 refine BslQ.o (Ap true) (Au SConstraint) (by exact fun _=>⟨rfl,rfl⟩) (by first | rfl | (simp only [Aa,V.fz,fzL,V.up,upL,Ab,Ac,Ad,slr,List.cons_append,List.nil_append];done) | simp [Aa,V.fz,fzL,V.up,upL,Ab,Ac,Ad,slr]) ?_
 conv=>whnf
 refine Cells.lit rfl rfl ?_
 conv=>whnf
 refine Len.map ?_
 conv=>whnf
 refine LoopQ.o [29,28,27,6,4,3,2] (Gi net0 f0) (Kq net0 f0) h (fun s o h=>Tb s o h) (by first | rfl | simp [restrict,look,Aa,V.fz,fzL,V.up,upL,Ab,Ac,Ad,slr]) (fun _=>rfl) ?_
 rintro q12_6 h
 try dsimp only at h
 conv=>whnf
 refine FrzQ.d ((slr false 3 (Ap false)) q12_6) ((Am _).trans (Eq.trans (b:=V.fz ((slr true 3 (Ap false)) q12_6)) rfl (Ad (slr true 3 (Ap false)) _))) ?_
 conv=>whnf
 refine Cells.lit rfl rfl ?_
 conv=>whnf
 refine CallQ.o (fun r=>V.tup [(Aj false) r.1,V.bool r.2]) (by first | rfl | simp only [Aa,V.fz,fzL,V.up,upL,Ab,Ac,Ad,slr,List.cons_append,List.nil_append] | simp [Aa,V.fz,fzL,V.up,upL,Ab,Ac,Ad,slr]) h (fun r h=>Vy h) (fun r13 h=> ?_)
 conv=>whnf
 refine SetKids.lit rfl ?_
 conv=>whnf
 cases h;exact (by first | rfl | simp only [Ah,Aa,V.fz,fzL,V.up,upL,Ab,Ac,Ad,slr] | simp [Ah,Aa,V.fz,fzL,V.up,upL,Ab,Ac,Ad,slr])
noncomputable def Et (net0:SNetwork):Int→Option (Int ⊕ (Unit ⊕ Unit)):=fun x3=>
 if x3<(↑net0.Constraints.length:Int) then
 ask ((0:Int)≤x3∧x3<(↑net0.Constraints.length:Int)) <|
 (Mj (net0.Vars) (net0.Size) (nth net0.Constraints x3.toNat)).bind fun r9=>
 if (r9)=true then
 ask (InI (x3+(1:Int))) <|
 some (.inl (x3+(1:Int)))
 else
 some (.inr (.inl ()))
 else
 some (.inr (.inr ()))
def Lt (net0:SNetwork):Int→St:=fun s=>[(3,A.val (Ae s)),(1,A.val ((rP true (Aj false)) (net0)))]
def R9 (_net0:SNetwork):(Unit ⊕ Unit)→Tgt
 | (.inl _s)=>(Ex.ret,[2],[(2,A.val (V.bool (false)))])
 | (.inr _s)=>((Ex.exit 0),[],[])
theorem Abs {net0:SNetwork} (x3:Int) (o:Int ⊕ (Unit ⊕ Unit)) (h:Et net0 x3=some o):vc Tryz.prog Rf (Dc [3,1] (Lt net0) (R9 net0) o) (Lt net0 x3):=by
 unfold Et at h
 try dsimp only at h
 conv=>whnf
 refine Cells.lit rfl rfl ?_
 conv=>whnf
 refine Len.map ?_
 conv=>whnf
 refine Br.od h (fun p7 h=> ?_) (fun p7 h=> ?_)
 ·conv=>whnf
  refine Cells.lit rfl rfl ?_
  conv=>whnf
  refine Cells.lit rfl rfl ?_
  conv=>whnf
  refine Cells.lit rfl rfl ?_
  conv=>whnf
  refine Len.map ?_
  conv=>whnf
  refine Ask.o h fun p8 h=> ?_
  conv=>whnf
  refine Elem.o (by first | omega | (simp [Be] at * <;> omega)) ?_
  conv=>whnf
  refine CallQ.o V.bool (by first | rfl | simp only [Aa,V.fz,fzL,V.up,upL,Ab,Ac,Ad,slr,List.cons_append,List.nil_append] | simp [Aa,V.fz,fzL,V.up,upL,Ab,Ac,Ad,slr]) h (fun r h=>Aof h) (fun r9 h=> ?_)
  conv=>whnf
  refine Br.flip ?_
  conv=>whnf
  refine Br.ob h (fun p10 h=> ?_) (fun p10 h=> ?_)
  ·conv=>whnf
   refine Ask.o h fun p11 h=> ?_
   conv=>whnf
   cases h;exact ⟨rfl,rfl⟩
  conv=>whnf
  cases h;exact ⟨rfl,rfl⟩
 conv=>whnf
 cases h;exact ⟨rfl,rfl⟩
noncomputable def I7 (net0:SNetwork):Option Bool:=
 (((Fb (net0.Vars) ((0:Int)) ((9:Int))).bind fun r1=>
 if (r1)=true then
 (Fb (net0.Size) ((1:Int)) ((4:Int))).bind fun r3=>
 if (r3)=true then
 if (↑net0.Constraints.length:Int)>(40:Int) then
 some (.inl ())
 else
 some (.inr ())
 else
 some (.inl ())
 else
 some (.inl ()):Option (Unit ⊕ Unit))).bind fun t=>match t with
 | (.inl _)=>(some false)
 | (.inr _)=>((Ao (Et net0) (0:Int)).bind fun t=>match t with
 | (.inl _)=>(some false)
 | (.inr _)=>(some true))
theorem Ai3 {net0:SNetwork} {v:Bool} (h:I7 net0=some v):Ret Tryz.prog Qa [(Aj false) net0] (V.bool v):=by
 refine A5 Ai2 (Nat.le_of_ble_eq_true rfl) ?_
 unfold I7 at h
 conv=>whnf
 refine CutQ.o (fun t:(Unit ⊕ Unit)=>match t with | (.inl s)=>(Ex.ret,[2],[(2,A.val (V.bool (false)))]) | (.inr s)=>(Ex.normal,[1],[(1,A.val ((rP true (Aj false)) (net0)))])) h ?_ ?_
 ·intro t h
  conv=>whnf
  refine Cells.lit rfl rfl ?_
  conv=>whnf
  refine CallQ.o V.bool (by first | rfl | simp only [Aa,V.fz,fzL,V.up,upL,Ab,Ac,Ad,slr,List.cons_append,List.nil_append] | simp [Aa,V.fz,fzL,V.up,upL,Ab,Ac,Ad,slr]) h (fun r h=>Lc h) (fun r1 h=> ?_)
  conv=>whnf
  refine Br.flip ?_
  conv=>whnf
  refine Br.ob h (fun p2 h=> ?_) (fun p2 h=> ?_)
  ·conv=>whnf
   refine Br.no ?_
   conv=>whnf
   refine Cells.lit rfl rfl ?_
   conv=>whnf
   refine Br.no ?_
   conv=>whnf
   refine CallQ.o V.bool (by first | rfl | simp only [Aa,V.fz,fzL,V.up,upL,Ab,Ac,Ad,slr,List.cons_append,List.nil_append] | simp [Aa,V.fz,fzL,V.up,upL,Ab,Ac,Ad,slr]) h (fun r h=>Lc h) (fun r3 h=> ?_)
   conv=>whnf
   refine Br.no ?_
   conv=>whnf
   refine Br.no ?_
   conv=>whnf
   refine Br.flip ?_
   conv=>whnf
   refine Br.ob h (fun p4 h=> ?_) (fun p4 h=> ?_)
   ·conv=>whnf
    refine Br.no ?_
    conv=>whnf
    refine Cells.lit rfl rfl ?_
    conv=>whnf
    refine Br.no ?_
    conv=>whnf
    refine Len.map ?_
    conv=>whnf
    refine Br.no ?_
    conv=>whnf
    refine Br.no ?_
    conv=>whnf
    refine Br.od h (fun p5 h=> ?_) (fun p5 h=> ?_)
    ·conv=>whnf
     cases h;exact ⟨rfl,rfl⟩
    conv=>whnf
    cases h;exact ⟨rfl,rfl⟩
   conv=>whnf
   refine Br.yes ?_
   conv=>whnf
   refine Br.yes ?_
   conv=>whnf
   refine Br.yes ?_
   conv=>whnf
   refine Br.yes ?_
   conv=>whnf
   refine Br.yes ?_
   conv=>whnf
   cases h;exact ⟨rfl,rfl⟩
  conv=>whnf
  refine Br.yes ?_
  conv=>whnf
  refine Br.yes ?_
  conv=>whnf
  refine Br.yes ?_
  conv=>whnf
  refine Br.yes ?_
  conv=>whnf
  refine Br.yes ?_
  conv=>whnf
  refine Br.yes ?_
  conv=>whnf
  refine Br.yes ?_
  conv=>whnf
  refine Br.yes ?_
  conv=>whnf
  refine Br.yes ?_
  conv=>whnf
  refine Br.yes ?_
  conv=>whnf
  cases h;exact ⟨rfl,rfl⟩
 rintro (⟨⟩ | ⟨⟩) h
 ·try dsimp only at h
  conv=>whnf
  cases h;exact (by first | rfl | simp only [Ah,Aa,V.fz,fzL,V.up,upL,Ab,Ac,Ad,slr] | simp [Ah,Aa,V.fz,fzL,V.up,upL,Ab,Ac,Ad,slr])
 try dsimp only at h
 conv=>whnf
 refine LoopQ.o [3,1] (Lt net0) (R9 net0) h (fun s o h=>Abs s o h) (by first | rfl | simp [restrict,look,Aa,V.fz,fzL,V.up,upL,Ab,Ac,Ad,slr]) (by rintro (_ | _)<;>rfl) ?_
 rintro (⟨⟩ | ⟨⟩) h
 ·try dsimp only at h
  conv=>whnf
  cases h;exact (by first | rfl | simp only [Ah,Aa,V.fz,fzL,V.up,upL,Ab,Ac,Ad,slr] | simp [Ah,Aa,V.fz,fzL,V.up,upL,Ab,Ac,Ad,slr])
 try dsimp only at h
 conv=>whnf
 cases h;exact (by first | rfl | simp only [Ah,Aa,V.fz,fzL,V.up,upL,Ab,Ac,Ad,slr] | simp [Ah,Aa,V.fz,fzL,V.up,upL,Ab,Ac,Ad,slr])
noncomputable def Ez (r0:SRelation) (class0:Int):(Int×(List Int))→Option ((Int×(List Int)) ⊕ (List Int)):=fun (x6,x5)=>
 if x6<r0.Arity then
 ask ((x5).length+([class0]).length≤LIM) <|
 ask (InI (x6+(1:Int))) <|
 some (.inl (x6+(1:Int),x5++[class0]))
 else
 some (.inr x5)
def Ox (r0:SRelation) (class0:Int):(Int×(List Int))→St:=fun s=>[(6,A.val (Ae s.1)),(5,A.val ((slr true 1 Ae) s.2)),(2,A.val ((rP true (Ai false)) (r0))),(1,A.val (Ae (class0)))]
def Wp (r0:SRelation) (_class0:Int):(List Int)→Tgt
 | s=>((Ex.exit 0),[5,2],[(5,A.val ((slr true 1 Ae) s)),(2,A.val ((rP true (Ai false)) (r0)))])
theorem Ag7 {r0:SRelation} {class0:Int} (s:(Int×(List Int))) (o:(Int×(List Int)) ⊕ (List Int)) (h:Ez r0 class0 s=some o):vc Tryz.prog Wh (Dc [6,5,2,1] (Ox r0 class0) (Wp r0 class0) o) (Ox r0 class0 s):=by
 obtain ⟨x6,x5⟩:=s
 unfold Ez at h
 try dsimp only at h
 conv=>whnf
 refine Cells.lit rfl rfl ?_
 conv=>whnf
 refine Br.od h (fun p2 h=> ?_) (fun p2 h=> ?_)
 ·conv=>whnf
  refine BslQ.o Ae [class0] (by exact fun _=>⟨rfl,rfl⟩) (by first | rfl | (simp only [Aa,V.fz,fzL,V.up,upL,Ab,Ac,Ad,slr,List.cons_append,List.nil_append];done) | simp [Aa,V.fz,fzL,V.up,upL,Ab,Ac,Ad,slr]) ?_
  conv=>whnf
  refine NoOwn.o (fun _=>rfl) ?_
  conv=>whnf
  refine AppQ.o (m:=1) Ae (by exact fun _=>⟨rfl,rfl⟩) (x5) ([class0]) (by first | rfl | simp only [Aa,V.fz,fzL,V.up,upL,Ab,Ac,Ad,slr,List.cons_append,List.nil_append] | simp [Aa,V.fz,fzL,V.up,upL,Ab,Ac,Ad,slr]) (by first | rfl | simp only [Aa,V.fz,fzL,V.up,upL,Ab,Ac,Ad,slr,List.cons_append,List.nil_append] | simp [Aa,V.fz,fzL,V.up,upL,Ab,Ac,Ad,slr]) h fun h=> ?_
  conv=>whnf
  refine Ask.o h fun p3 h=> ?_
  conv=>whnf
  cases h;exact ⟨rfl,rfl⟩
 conv=>whnf
 cases h;exact ⟨rfl,rfl⟩
noncomputable def Ma (r0:SRelation) (class0:Int):Option Bool:=
 if class0≤(1:Int) then
 (Ao (Ez r0 class0) ((0:Int),Au Int)).bind fun q4_5=>
 (Hv (r0) (q4_5)).bind fun r5=>
 some r5
 else
 (Gh).bind fun r6=>
 ask (InI (class0-(2:Int))) <|
 ask ((0:Int)≤class0-(2:Int)∧class0-(2:Int)<(↑r6.length:Int)) <|
 (F4 ((2:Int)) (nth r6 (class0-(2:Int)).toNat) (r0)).bind fun r9=>
 some r9
theorem Aow {r0:SRelation} {class0:Int} {v:Bool} (h:Ma r0 class0=some v):Ret Tryz.prog Vq [(Ai false) r0,Ae class0] (V.bool v):=by
 refine A5 Aoj (Nat.le_of_ble_eq_true rfl) ?_
 unfold Ma at h
 conv=>whnf
 refine Br.od h (fun p1 h=> ?_) (fun p1 h=> ?_)
 ·conv=>whnf
  refine BslQ.o Ae (Au Int) (by exact fun _=>⟨rfl,rfl⟩) (by first | rfl | (simp only [Aa,V.fz,fzL,V.up,upL,Ab,Ac,Ad,slr,List.cons_append,List.nil_append];done) | simp [Aa,V.fz,fzL,V.up,upL,Ab,Ac,Ad,slr]) ?_
  conv=>whnf
  refine LoopQ.o [6,5,2,1] (Ox r0 class0) (Wp r0 class0) h (fun s o h=>Ag7 s o h) (by first | rfl | simp [restrict,look,Aa,V.fz,fzL,V.up,upL,Ab,Ac,Ad,slr]) (fun _=>rfl) ?_
  rintro q4_5 h
  try dsimp only at h
  conv=>whnf
  refine Cells.lit rfl rfl ?_
  conv=>whnf
  refine CallQ.rd V.bool (by first | rfl | simp only [V.fz,fzL,Ab,slr] | simp [Aa,V.fz,fzL,V.up,upL,Ab,Ac,Ad,slr]) (fun _=>rfl) h (fun r h=>Z4 h) (fun r5 h=> ?_)
  conv=>whnf
  cases h;exact (by first | rfl | simp only [Ah,Aa,V.fz,fzL,V.up,upL,Ab,Ac,Ad,slr] | simp [Ah,Aa,V.fz,fzL,V.up,upL,Ab,Ac,Ad,slr])
 conv=>whnf
 refine CallP.o (slr false 2 (Co false)) (by first | rfl | simp only [Aa,V.fz,fzL,V.up,upL,Ab,Ac,Ad,slr,List.cons_append,List.nil_append] | simp [Aa,V.fz,fzL,V.up,upL,Ab,Ac,Ad,slr]) h (fun r h=>Ret.frz (Z2 h) (by first | rfl | simp only [V.fz,Ab,slr] | simp [Aa,V.fz,fzL,V.up,upL,Ab,Ac,Ad,slr])) (fun r6 h=> ?_)
 conv=>whnf
 refine Ask.o h fun p7 h=> ?_
 conv=>whnf
 refine Len.map ?_
 conv=>whnf
 refine Ask.o h fun p8 h=> ?_
 conv=>whnf
 refine Elem.o (by first | omega | (simp [Be] at * <;> omega)) ?_
 conv=>whnf
 refine Cells.lit rfl rfl ?_
 conv=>whnf
 refine CallQ.o V.bool (by first | rfl | simp only [Aa,V.fz,fzL,V.up,upL,Ab,Ac,Ad,slr,List.cons_append,List.nil_append] | simp [Aa,V.fz,fzL,V.up,upL,Ab,Ac,Ad,slr]) h (fun r h=>Ahg h) (fun r9 h=> ?_)
 conv=>whnf
 cases h;exact (by first | rfl | simp only [Ah,Aa,V.fz,fzL,V.up,upL,Ab,Ac,Ad,slr] | simp [Ah,Aa,V.fz,fzL,V.up,upL,Ab,Ac,Ad,slr])
noncomputable def Cw (code0:(List Int)):Option SNetwork:=
 (Bn ({ code:=code0,at_:=(0:Int),seed:=(0:Int) }) ((8:Int))).bind fun (r1,u2)=>
 (Du (u2) (r1)).bind fun (r3,_u4)=>
 some r3
theorem Q9 {code0:(List Int)} {v:SNetwork} (h:Cw code0=some v):Ret Tryz.prog Fv [(slr false 1 (V.int IntKind.u8)) code0] ((Aj false) v):=by
 refine A5 Ra (Nat.le_of_ble_eq_true rfl) ?_
 unfold Cw at h
 conv=>whnf
 refine CallQ.io Ae (rP true (Ak false)) (by first | rfl | simp only [Aa,V.fz,fzL,V.up,upL,Ab,Ac,Ad,slr,List.cons_append,List.nil_append] | simp [Aa,V.fz,fzL,V.up,upL,Ab,Ac,Ad,slr]) rfl (fun _=>rfl) (fun _=>⟨rfl,rfl⟩) rfl h (fun r h=>C6 h) (fun r1 u2 h=> ?_)
 conv=>whnf
 refine CallQ.io (Aj false) (rP true (Ak false)) (by first | rfl | simp only [Aa,V.fz,fzL,V.up,upL,Ab,Ac,Ad,slr,List.cons_append,List.nil_append] | simp [Aa,V.fz,fzL,V.up,upL,Ab,Ac,Ad,slr]) rfl (fun _=>rfl) (fun _=>⟨rfl,rfl⟩) rfl h (fun r h=>U9 h) (fun r3 u4 h=> ?_)
 conv=>whnf
 refine SetKids.lit rfl ?_
 conv=>whnf
 cases h;exact (by first | rfl | simp only [Ah,Aa,V.fz,fzL,V.up,upL,Ab,Ac,Ad,slr] | simp [Ah,Aa,V.fz,fzL,V.up,upL,Ab,Ac,Ad,slr])
noncomputable def Eg (net0:SNetwork):Option (SNetwork×Bool):=
 (Ee (net0)).bind fun r1=>
 if (r1)=true then
 (Fq (net0) ({ Arity:=(1:Int),Table:=[(1:Int),(0:Int)] })).bind fun r3=>
 some r3
 else
 some ({ Vars:=(0:Int),Size:=(0:Int),Constraints:=Au SConstraint },false)
theorem Qf {net0:SNetwork} {v:(SNetwork×Bool)} (h:Eg net0=some v):Ret Tryz.prog Hg [(Aj false) net0] ((fun r=>V.tup [(Aj false) r.1,V.bool r.2]) v):=by
 refine Uw Aan (Nat.le_of_ble_eq_true rfl) ?_
 unfold Eg at h
 conv=>whnf
 refine Cells.lit rfl rfl ?_
 conv=>whnf
 refine CallQ.o V.bool (by first | rfl | simp only [Aa,V.fz,fzL,V.up,upL,Ab,Ac,Ad,slr,List.cons_append,List.nil_append] | simp [Aa,V.fz,fzL,V.up,upL,Ab,Ac,Ad,slr]) h (fun r h=>Mr h) (fun r1 h=> ?_)
 conv=>whnf
 refine Br.flip ?_
 conv=>whnf
 refine Br.ob h (fun p2 h=> ?_) (fun p2 h=> ?_)
 ·conv=>whnf
  refine Cells.lit rfl rfl ?_
  conv=>whnf
  refine BslQ.o Ae ([(1:Int),(0:Int)]) (by exact fun _=>⟨rfl,rfl⟩) (by first | rfl | (simp only [Aa,V.fz,fzL,V.up,upL,Ab,Ac,Ad,slr,List.cons_append,List.nil_append];done) | simp [Aa,V.fz,fzL,V.up,upL,Ab,Ac,Ad,slr]) ?_
  conv=>whnf
  refine FrzQ.d (V.sl false (1:Nat) (List.map Ae [(1:Int),(0:Int)])) (by first | (simp only [Am,Ac];done) | (simp [Am,V.fz,Ab,Ac,slr];done) | (simp [Am,V.fz,fzL,Ab,slr];done)) ?_
  conv=>whnf
  refine CallQ.o (fun r=>V.tup [(Aj false) r.1,V.bool r.2]) (by first | rfl | simp only [Aa,V.fz,fzL,V.up,upL,Ab,Ac,Ad,slr,List.cons_append,List.nil_append] | simp [Aa,V.fz,fzL,V.up,upL,Ab,Ac,Ad,slr]) h (fun r h=>Wu h) (fun r3 h=> ?_)
  conv=>whnf
  refine SetKids.lit rfl ?_
  conv=>whnf
  cases h;exact (by first | rfl | simp only [Ah,Aa,V.fz,fzL,V.up,upL,Ab,Ac,Ad,slr] | simp [Ah,Aa,V.fz,fzL,V.up,upL,Ab,Ac,Ad,slr])
 conv=>whnf
 refine SetKids.lit rfl ?_
 conv=>whnf
 cases h;exact (by first | rfl | simp only [Ah,Aa,V.fz,fzL,V.up,upL,Ab,Ac,Ad,slr] | simp [Ah,Aa,V.fz,fzL,V.up,upL,Ab,Ac,Ad,slr])
noncomputable def G4 (net0:SNetwork):Option Bool:=
 if net0.Size=(2:Int) then
 (I7 (net0)).bind fun r2=>
 some r2
 else
 some false
theorem Xw {net0:SNetwork} {v:Bool} (h:G4 net0=some v):Ret Tryz.prog Ln [(Aj false) net0] (V.bool v):=by
 refine A5 Ah2 (Nat.le_of_ble_eq_true rfl) ?_
 unfold G4 at h
 conv=>whnf
 refine Cells.lit rfl rfl ?_
 conv=>whnf
 refine Br.oe h (fun p1 h=> ?_) (fun p1 h=> ?_)
 ·conv=>whnf
  refine Cells.lit rfl rfl ?_
  conv=>whnf
  refine Br.yes ?_
  conv=>whnf
  refine CallQ.o V.bool (by first | rfl | simp only [Aa,V.fz,fzL,V.up,upL,Ab,Ac,Ad,slr,List.cons_append,List.nil_append] | simp [Aa,V.fz,fzL,V.up,upL,Ab,Ac,Ad,slr]) h (fun r h=>Ai3 h) (fun r2 h=> ?_)
  conv=>whnf
  refine Br.yes ?_
  conv=>whnf
  cases h;exact (by first | rfl | simp only [Ah,Aa,V.fz,fzL,V.up,upL,Ab,Ac,Ad,slr] | simp [Ah,Aa,V.fz,fzL,V.up,upL,Ab,Ac,Ad,slr])
 conv=>whnf
 refine Br.no ?_
 conv=>whnf
 refine Br.no ?_
 conv=>whnf
 cases h;exact (by first | rfl | simp only [Ah,Aa,V.fz,fzL,V.up,upL,Ab,Ac,Ad,slr] | simp [Ah,Aa,V.fz,fzL,V.up,upL,Ab,Ac,Ad,slr])
noncomputable def F1 (net0:SNetwork) (class0:Int):Int→Option (Int ⊕ (Unit ⊕ Unit)):=fun x5=>
 if x5<(↑net0.Constraints.length:Int) then
 ask ((0:Int)≤x5∧x5<(↑net0.Constraints.length:Int)) <|
 (Ma ((nth net0.Constraints x5.toNat).Rel) (class0)).bind fun r3=>
 if (r3)=true then
 ask (InI (x5+(1:Int))) <|
 some (.inl (x5+(1:Int)))
 else
 some (.inr (.inl ()))
 else
 some (.inr (.inr ()))
def Ot (net0:SNetwork) (class0:Int):Int→St:=fun s=>[(5,A.val (Ae s)),(2,A.val ((rP true (Aj false)) (net0))),(1,A.val (Ae (class0)))]
def V9 (_net0:SNetwork) (_class0:Int):(Unit ⊕ Unit)→Tgt
 | (.inl _s)=>(Ex.ret,[4],[(4,A.val (V.bool (false)))])
 | (.inr _s)=>((Ex.exit 0),[],[])
theorem Agf {net0:SNetwork} {class0:Int} (x5:Int) (o:Int ⊕ (Unit ⊕ Unit)) (h:F1 net0 class0 x5=some o):vc Tryz.prog Wg (Dc [5,2,1] (Ot net0 class0) (V9 net0 class0) o) (Ot net0 class0 x5):=by
 unfold F1 at h
 try dsimp only at h
 conv=>whnf
 refine Cells.lit rfl rfl ?_
 conv=>whnf
 refine Len.map ?_
 conv=>whnf
 refine Br.od h (fun p1 h=> ?_) (fun p1 h=> ?_)
 ·conv=>whnf
  refine Cells.lit rfl rfl ?_
  conv=>whnf
  refine Len.map ?_
  conv=>whnf
  refine Ask.o h fun p2 h=> ?_
  conv=>whnf
  refine Elem.o (by first | omega | (simp [Be] at * <;> omega)) ?_
  conv=>whnf
  refine CallQ.o V.bool (by first | rfl | simp only [Aa,V.fz,fzL,V.up,upL,Ab,Ac,Ad,slr,List.cons_append,List.nil_append] | simp [Aa,V.fz,fzL,V.up,upL,Ab,Ac,Ad,slr]) h (fun r h=>Aow h) (fun r3 h=> ?_)
  conv=>whnf
  refine Br.flip ?_
  conv=>whnf
  refine Br.ob h (fun p4 h=> ?_) (fun p4 h=> ?_)
  ·conv=>whnf
   refine Ask.o h fun p5 h=> ?_
   conv=>whnf
   cases h;exact ⟨rfl,rfl⟩
  conv=>whnf
  cases h;exact ⟨rfl,rfl⟩
 conv=>whnf
 cases h;exact ⟨rfl,rfl⟩
noncomputable def Ji (net0:SNetwork) (class0:Int):Option Bool:=
 (Ao (F1 net0 class0) (0:Int)).bind fun t=>match t with
 | (.inl _)=>(some false)
 | (.inr _)=>(some true)
theorem Acq {net0:SNetwork} {class0:Int} {v:Bool} (h:Ji net0 class0=some v):Ret Tryz.prog Pm [(Aj false) net0,Ae class0] (V.bool v):=by
 refine A5 An5 (Nat.le_of_ble_eq_true rfl) ?_
 unfold Ji at h
 conv=>whnf
 refine LoopQ.o [5,2,1] (Ot net0 class0) (V9 net0 class0) h (fun s o h=>Agf s o h) (by first | rfl | simp [restrict,look,Aa,V.fz,fzL,V.up,upL,Ab,Ac,Ad,slr]) (by rintro (_ | _)<;>rfl) ?_
 rintro (⟨⟩ | ⟨⟩) h
 ·try dsimp only at h
  conv=>whnf
  cases h;exact (by first | rfl | simp only [Ah,Aa,V.fz,fzL,V.up,upL,Ab,Ac,Ad,slr] | simp [Ah,Aa,V.fz,fzL,V.up,upL,Ab,Ac,Ad,slr])
 try dsimp only at h
 conv=>whnf
 cases h;exact (by first | rfl | simp only [Ah,Aa,V.fz,fzL,V.up,upL,Ab,Ac,Ad,slr] | simp [Ah,Aa,V.fz,fzL,V.up,upL,Ab,Ac,Ad,slr])
noncomputable def B0 (net0:SNetwork):(Int×(List Bool))→Option ((Int×(List Bool)) ⊕ (List Bool)):=fun (x5,x4)=>
 if x5<(6:Int) then
 (Ji (net0) (x5)).bind fun r4=>
 ask ((x4).length+([r4]).length≤LIM) <|
 ask (InI (x5+(1:Int))) <|
 some (.inl (x5+(1:Int),x4++[r4]))
 else
 some (.inr x4)
def Gr (net0:SNetwork):(Int×(List Bool))→St:=fun s=>[(5,A.val (Ae s.1)),(4,A.val ((slr true 1 V.bool) s.2)),(1,A.val ((rP true (Aj false)) (net0)))]
def Kk (_net0:SNetwork):(List Bool)→Tgt
 | s=>((Ex.exit 0),[4],[(4,A.val ((slr true 1 V.bool) s))])
theorem Sx {net0:SNetwork} (s:(Int×(List Bool))) (o:(Int×(List Bool)) ⊕ (List Bool)) (h:B0 net0 s=some o):vc Tryz.prog Kp (Dc [5,4,1] (Gr net0) (Kk net0) o) (Gr net0 s):=by
 obtain ⟨x5,x4⟩:=s
 unfold B0 at h
 try dsimp only at h
 conv=>whnf
 refine Br.od h (fun p3 h=> ?_) (fun p3 h=> ?_)
 ·conv=>whnf
  refine Cells.lit rfl rfl ?_
  conv=>whnf
  refine CallQ.o V.bool (by first | rfl | simp only [Aa,V.fz,fzL,V.up,upL,Ab,Ac,Ad,slr,List.cons_append,List.nil_append] | simp [Aa,V.fz,fzL,V.up,upL,Ab,Ac,Ad,slr]) h (fun r h=>Acq h) (fun r4 h=> ?_)
  conv=>whnf
  refine BslQ.o V.bool [r4] (by exact fun _=>⟨rfl,rfl⟩) (by first | rfl | (simp only [Aa,V.fz,fzL,V.up,upL,Ab,Ac,Ad,slr,List.cons_append,List.nil_append];done) | simp [Aa,V.fz,fzL,V.up,upL,Ab,Ac,Ad,slr]) ?_
  conv=>whnf
  refine NoOwn.o (fun _=>rfl) ?_
  conv=>whnf
  refine AppQ.o (m:=1) V.bool (by exact fun _=>⟨rfl,rfl⟩) (x4) ([r4]) (by first | rfl | simp only [Aa,V.fz,fzL,V.up,upL,Ab,Ac,Ad,slr,List.cons_append,List.nil_append] | simp [Aa,V.fz,fzL,V.up,upL,Ab,Ac,Ad,slr]) (by first | rfl | simp only [Aa,V.fz,fzL,V.up,upL,Ab,Ac,Ad,slr,List.cons_append,List.nil_append] | simp [Aa,V.fz,fzL,V.up,upL,Ab,Ac,Ad,slr]) h fun h=> ?_
  conv=>whnf
  refine Ask.o h fun p5 h=> ?_
  conv=>whnf
  cases h;exact ⟨rfl,rfl⟩
 conv=>whnf
 cases h;exact ⟨rfl,rfl⟩
noncomputable def D7 (net0:SNetwork):Option ((List Bool)×Bool):=
 (G4 (net0)).bind fun r1=>
 if (r1)=true then
 (Ao (B0 net0) ((0:Int),Au Bool)).bind fun q6_4=>
 some (q6_4,true)
 else
 some (Au Bool,false)
theorem Wz {net0:SNetwork} {v:((List Bool)×Bool)} (h:D7 net0=some v):Ret Tryz.prog H3 [(Aj false) net0] ((fun r=>V.tup [(slr true 1 V.bool) r.1,V.bool r.2]) v):=by
 refine A5 W6 (Nat.le_of_ble_eq_true rfl) ?_
 unfold D7 at h
 conv=>whnf
 refine BslQ.o V.bool (Au Bool) (by exact fun _=>⟨rfl,rfl⟩) (by first | rfl | (simp only [Aa,V.fz,fzL,V.up,upL,Ab,Ac,Ad,slr,List.cons_append,List.nil_append];done) | simp [Aa,V.fz,fzL,V.up,upL,Ab,Ac,Ad,slr]) ?_
 conv=>whnf
 refine Cells.lit rfl rfl ?_
 conv=>whnf
 refine CallQ.o V.bool (by first | rfl | simp only [Aa,V.fz,fzL,V.up,upL,Ab,Ac,Ad,slr,List.cons_append,List.nil_append] | simp [Aa,V.fz,fzL,V.up,upL,Ab,Ac,Ad,slr]) h (fun r h=>Xw h) (fun r1 h=> ?_)
 conv=>whnf
 refine Br.flip ?_
 conv=>whnf
 refine Br.ob h (fun p2 h=> ?_) (fun p2 h=> ?_)
 ·conv=>whnf
  refine LoopQ.o [5,4,1] (Gr net0) (Kk net0) h (fun s o h=>Sx s o h) (by first | rfl | simp [restrict,look,Aa,V.fz,fzL,V.up,upL,Ab,Ac,Ad,slr]) (fun _=>rfl) ?_
  rintro q6_4 h
  try dsimp only at h
  conv=>whnf
  cases h;exact (by first | rfl | simp only [Ah,Aa,V.fz,fzL,V.up,upL,Ab,Ac,Ad,slr] | simp [Ah,Aa,V.fz,fzL,V.up,upL,Ab,Ac,Ad,slr])
 conv=>whnf
 cases h;exact (by first | rfl | simp only [Ah,Aa,V.fz,fzL,V.up,upL,Ab,Ac,Ad,slr] | simp [Ah,Aa,V.fz,fzL,V.up,upL,Ab,Ac,Ad,slr])
noncomputable def De (net0:SNetwork):Int→Option (Int ⊕ (Int ⊕ Unit)):=fun x3=>
 if x3<(6:Int) then
 (Ji (net0) (x3)).bind fun r2=>
 if (r2)=true then
 some (.inr (.inl x3))
 else
 ask (InI (x3+(1:Int))) <|
 some (.inl (x3+(1:Int)))
 else
 some (.inr (.inr ()))
def Ky (net0:SNetwork):Int→St:=fun s=>[(3,A.val (Ae s)),(1,A.val ((rP true (Aj false)) (net0)))]
def Py (_net0:SNetwork):(Int ⊕ Unit)→Tgt
 | (.inl s)=>(Ex.ret,[2],[(2,A.val (Ae s))])
 | (.inr _s)=>((Ex.exit 0),[],[])
theorem Aaw {net0:SNetwork} (x3:Int) (o:Int ⊕ (Int ⊕ Unit)) (h:De net0 x3=some o):vc Tryz.prog Ql (Dc [3,1] (Ky net0) (Py net0) o) (Ky net0 x3):=by
 unfold De at h
 try dsimp only at h
 conv=>whnf
 refine Br.od h (fun p1 h=> ?_) (fun p1 h=> ?_)
 ·conv=>whnf
  refine Cells.lit rfl rfl ?_
  conv=>whnf
  refine CallQ.o V.bool (by first | rfl | simp only [Aa,V.fz,fzL,V.up,upL,Ab,Ac,Ad,slr,List.cons_append,List.nil_append] | simp [Aa,V.fz,fzL,V.up,upL,Ab,Ac,Ad,slr]) h (fun r h=>Acq h) (fun r2 h=> ?_)
  conv=>whnf
  refine Br.ob h (fun p3 h=> ?_) (fun p3 h=> ?_)
  ·conv=>whnf
   cases h;exact ⟨rfl,rfl⟩
  conv=>whnf
  refine Ask.o h fun p4 h=> ?_
  conv=>whnf
  cases h;exact ⟨rfl,rfl⟩
 conv=>whnf
 cases h;exact ⟨rfl,rfl⟩
noncomputable def Ks (net0:SNetwork):Option Int:=
 (Ao (De net0) (0:Int)).bind fun t=>match t with
 | (.inl q5_2)=>(some q5_2)
 | (.inr _)=>(some (6:Int))
theorem Ag1 {net0:SNetwork} {v:Int} (h:Ks net0=some v):Ret Tryz.prog Oq [(Aj false) net0] (Ae v):=by
 refine A5 Ag9 (Nat.le_of_ble_eq_true rfl) ?_
 unfold Ks at h
 conv=>whnf
 refine LoopQ.o [3,1] (Ky net0) (Py net0) h (fun s o h=>Aaw s o h) (by first | rfl | simp [restrict,look,Aa,V.fz,fzL,V.up,upL,Ab,Ac,Ad,slr]) (by rintro (_ | _)<;>rfl) ?_
 rintro (q5_2 | ⟨⟩) h
 ·try dsimp only at h
  conv=>whnf
  cases h;exact (by first | rfl | simp only [Ah,Aa,V.fz,fzL,V.up,upL,Ab,Ac,Ad,slr] | simp [Ah,Aa,V.fz,fzL,V.up,upL,Ab,Ac,Ad,slr])
 try dsimp only at h
 conv=>whnf
 cases h;exact (by first | rfl | simp only [Ah,Aa,V.fz,fzL,V.up,upL,Ab,Ac,Ad,slr] | simp [Ah,Aa,V.fz,fzL,V.up,upL,Ab,Ac,Ad,slr])
noncomputable def Gd (net0:SNetwork):Option (Int×Bool):=
 (G4 (net0)).bind fun r1=>
 if (r1)=true then
 (Ks (net0)).bind fun r3=>
 some (r3,true)
 else
 some ((0:Int),false)
theorem Adp {net0:SNetwork} {v:(Int×Bool)} (h:Gd net0=some v):Ret Tryz.prog Lz [(Aj false) net0] ((fun r=>V.tup [Ae r.1,V.bool r.2]) v):=by
 refine A5 Acs (Nat.le_of_ble_eq_true rfl) ?_
 unfold Gd at h
 conv=>whnf
 refine Cells.lit rfl rfl ?_
 conv=>whnf
 refine CallQ.o V.bool (by first | rfl | simp only [Aa,V.fz,fzL,V.up,upL,Ab,Ac,Ad,slr,List.cons_append,List.nil_append] | simp [Aa,V.fz,fzL,V.up,upL,Ab,Ac,Ad,slr]) h (fun r h=>Xw h) (fun r1 h=> ?_)
 conv=>whnf
 refine Br.flip ?_
 conv=>whnf
 refine Br.ob h (fun p2 h=> ?_) (fun p2 h=> ?_)
 ·conv=>whnf
  refine Cells.lit rfl rfl ?_
  conv=>whnf
  refine CallQ.o Ae (by first | rfl | simp only [Aa,V.fz,fzL,V.up,upL,Ab,Ac,Ad,slr,List.cons_append,List.nil_append] | simp [Aa,V.fz,fzL,V.up,upL,Ab,Ac,Ad,slr]) h (fun r h=>Ag1 h) (fun r3 h=> ?_)
  conv=>whnf
  cases h;exact (by first | rfl | simp only [Ah,Aa,V.fz,fzL,V.up,upL,Ab,Ac,Ad,slr] | simp [Ah,Aa,V.fz,fzL,V.up,upL,Ab,Ac,Ad,slr])
 conv=>whnf
 cases h;exact (by first | rfl | simp only [Ah,Aa,V.fz,fzL,V.up,upL,Ab,Ac,Ad,slr] | simp [Ah,Aa,V.fz,fzL,V.up,upL,Ab,Ac,Ad,slr])
end Go.Proofs.YtjcekpmojnnmbaaGreat.Ax
