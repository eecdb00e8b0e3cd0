/-
 What the functions compute, as functions on plain data, and that the program does compute it; written by program.
-/
import Derived.Test.YtjcekpmojnnmbaaGreatCode
import Derived.Test.YtjcekpmojnnmbaaGreatG1
import Derived.Test.YtjcekpmojnnmbaaGreatG2
import Derived.Test.YtjcekpmojnnmbaaGreatG3
import Derived.Test.YtjcekpmojnnmbaaGreatG4
import Derived.Test.YtjcekpmojnnmbaaGreatG5
import Derived.Test.YtjcekpmojnnmbaaGreatG6
import Derived.Test.YtjcekpmojnnmbaaGreatG7
namespace Go.Proofs.YtjcekpmojnnmbaaGreat.Ax
open Go
set_option maxRecDepth 100000
set_option maxHeartbeats 4000000
noncomputable def Dh (n0:Int) (op0:SOp) (r0:SRelation):(Bool×(List Int))→Option ((Bool×(List Int)) ⊕ (((List Int)×(List Int)) ⊕ Unit)):=fun (x10,x9)=>
 if (x10)=true then
 (Hq (r0.Tuples) (x9)).bind fun r5=>
 (Jg (n0) (op0) (r5) (r0.Arity)).bind fun r6=>
 (Hv (r0) (r6)).bind fun r7=>
 if (r7)=true then
 (Fc (x9) ((↑r0.Tuples.length:Int))).bind fun r9=>
 some (.inl (r9.snd,r9.fst))
 else
 some (.inr (.inl (r6,x9)))
 else
 some (.inr (.inr ()))
def K6 (n0:Int) (op0:SOp) (r0:SRelation):(Bool×(List Int))→St:=fun s=>[(10,A.val (V.bool s.1)),(9,A.val ((slr true 1 Ae) s.2)),(5,A.val ((rP true (Ai false)) (r0))),(4,A.val ((rP true (Co false)) (op0))),(0,A.val (Ae (n0)))]
def Qk (_n0:Int) (_op0:SOp) (_r0:SRelation):(((List Int)×(List Int)) ⊕ Unit)→Tgt
 | (.inl s)=>(Ex.ret,[8,7,6],[(8,A.val (V.bool (true))),(7,A.val ((slr true 1 Ae) s.1)),(6,A.val ((slr false 1 Ae) s.2))])
 | (.inr _s)=>((Ex.exit 0),[],[])
theorem Aah {n0:Int} {op0:SOp} {r0:SRelation} (s:(Bool×(List Int))) (o:(Bool×(List Int)) ⊕ (((List Int)×(List Int)) ⊕ Unit)) (h:Dh n0 op0 r0 s=some o):vc Tryz.prog Qi (Dc [10,9,5,4,0] (K6 n0 op0 r0) (Qk n0 op0 r0) o) (K6 n0 op0 r0 s):=by
 obtain ⟨x10,x9⟩:=s
 unfold Dh at h
 try dsimp only at h
 conv=>whnf
 refine Br.ob h (fun p4 h=> ?_) (fun p4 h=> ?_)
 ·conv=>whnf
  refine FrzQ.d (V.sl false (1:Nat) (List.map Ae x9)) (by first | (simp only [slr];done) | (simp [Am,V.fz,Ab,slr];done) | (simp [Am,V.fz,fzL,Ab,slr];done)) ?_
  conv=>whnf
  refine Cells.lit rfl rfl ?_
  conv=>whnf
  refine Cells.lit rfl rfl ?_
  conv=>whnf
  refine CallP.o (slr true 1 (slr false 1 Ae)) (by first | rfl | simp only [Aa,V.fz,fzL,V.up,upL,Ab,Ac,Ad,slr,List.cons_append,List.nil_append] | simp [Aa,V.fz,fzL,V.up,upL,Ab,Ac,Ad,slr]) h (fun r h=>Ahc h) (fun r5 h=> ?_)
  conv=>whnf
  refine Cells.lit rfl rfl ?_
  conv=>whnf
  refine CallQ.rd (slr true 1 Ae) (by first | rfl | simp only [V.fz,fzL,V.up,Ab,Ad,slr] | simp [Aa,V.fz,fzL,V.up,upL,Ab,Ac,Ad,slr]) (fun _=>by simp [V.noFz,Cd]) h (fun r h=>Aef h) (fun r6 h=> ?_)
  conv=>whnf
  refine Cells.lit rfl rfl ?_
  conv=>whnf
  refine CallQ.rd V.bool (by first | rfl | simp only [V.fz,fzL,Ab,slr] | simp [Aa,V.fz,fzL,V.up,upL,Ab,Ac,Ad,slr]) (fun _=>rfl) h (fun r h=>Z4 h) (fun r7 h=> ?_)
  conv=>whnf
  refine Br.flip ?_
  conv=>whnf
  refine Br.ob h (fun p8 h=> ?_) (fun p8 h=> ?_)
  ·conv=>whnf
   refine Cells.lit rfl rfl ?_
   conv=>whnf
   refine Len.map ?_
   conv=>whnf
   refine CallQ.o (fun r=>V.tup [(slr true 1 Ae) r.1,V.bool r.2]) (by first | rfl | simp only [Aa,V.fz,fzL,V.up,upL,Ab,Ac,Ad,slr,List.cons_append,List.nil_append] | simp [Aa,V.fz,fzL,V.up,upL,Ab,Ac,Ad,slr]) h (fun r h=>Aae h) (fun r9 h=> ?_)
   conv=>whnf
   cases h;exact ⟨rfl,rfl⟩
  conv=>whnf
  cases h;exact ⟨rfl,rfl⟩
 conv=>whnf
 cases h;exact ⟨rfl,rfl⟩
noncomputable def Kr (n0:Int) (op0:SOp) (r0:SRelation):Option ((List Int)×(List Int)×Bool):=
 ((ask ((0:Int)≤op0.Arity∧op0.Arity≤(↑LIM:Int)) <|
 if op0.Arity=(0:Int) then
 some true
 else
 some (decide ((↑r0.Tuples.length:Int)>(0:Int))):Option Bool)).bind fun q3_10=>
 (Ao (Dh n0 op0 r0) (q3_10,List.replicate op0.Arity.toNat (0:Int))).bind fun t=>match t with
 | (.inl (q10_7,q10_6))=>(some (q10_6,q10_7,true))
 | (.inr _)=>(some (Au Int,Au Int,false))
theorem Aha {n0:Int} {op0:SOp} {r0:SRelation} {v:((List Int)×(List Int)×Bool)} (h:Kr n0 op0 r0=some v):Ret Tryz.prog Ol [Ae n0,(Co false) op0,(Ai false) r0] ((fun r=>V.tup [(slr false 1 Ae) r.1,(slr false 1 Ae) r.2.1,V.bool r.2.2]) v):=by
 refine Uw Agw (Nat.le_of_ble_eq_true rfl) ?_
 unfold Kr at h
 conv=>whnf
 refine CutQ.o (fun t:Bool=>match t with | s=>(Ex.normal,[10,9,5,4,0],[(10,A.val (V.bool s)),(9,A.val ((slr true 1 Ae) (List.replicate op0.Arity.toNat (0:Int)))),(5,A.val ((rP true (Ai false)) (r0))),(4,A.val ((rP true (Co false)) (op0))),(0,A.val (Ae (n0)))])) h ?_ ?_
 ·intro t h
  conv=>whnf
  refine Cells.lit rfl rfl ?_
  conv=>whnf
  refine Ask.o h fun p1 h=> ?_
  conv=>whnf
  refine MkQ.o Ae ((0:Int)) rfl ?_
  conv=>whnf
  refine Cells.lit rfl rfl ?_
  conv=>whnf
  refine Br.oe h (fun p2 h=> ?_) (fun p2 h=> ?_)
  ·conv=>whnf
   refine Br.yes ?_
   conv=>whnf
   refine Br.yes ?_
   conv=>whnf
   refine Br.yes ?_
   conv=>whnf
   refine Br.yes ?_
   conv=>whnf
   cases h;exact ⟨rfl,rfl⟩
  conv=>whnf
  refine Br.no ?_
  conv=>whnf
  refine Cells.lit rfl rfl ?_
  conv=>whnf
  refine Br.no ?_
  conv=>whnf
  refine Len.map ?_
  conv=>whnf
  refine Br.no ?_
  conv=>whnf
  refine Br.no ?_
  conv=>whnf
  cases h;exact ⟨rfl,rfl⟩
 rintro q3_10 h
 try dsimp only at h
 conv=>whnf
 refine LoopQ.o [10,9,5,4,0] (K6 n0 op0 r0) (Qk n0 op0 r0) h (fun s o h=>Aah s o h) (by first | rfl | simp [restrict,look,Aa,V.fz,fzL,V.up,upL,Ab,Ac,Ad,slr]) (by rintro (_ | _)<;>rfl) ?_
 rintro (⟨q10_7,q10_6⟩ | ⟨⟩) h
 ·try dsimp only at h
  conv=>whnf
  cases h;exact (by first | rfl | simp only [Ah,V.fz,fzL,V.up,Ab,slr] | simp [Ah,Aa,V.fz,fzL,V.up,upL,Ab,Ac,Ad,slr])
 try dsimp only at h
 conv=>whnf
 refine BslQ.o Ae (Au Int) (by exact fun _=>⟨rfl,rfl⟩) (by first | rfl | (simp only [Aa,V.fz,fzL,V.up,upL,Ab,Ac,Ad,slr,List.cons_append,List.nil_append];done) | simp [Aa,V.fz,fzL,V.up,upL,Ab,Ac,Ad,slr]) ?_
 conv=>whnf
 refine BslQ.o Ae (Au Int) (by exact fun _=>⟨rfl,rfl⟩) (by first | rfl | (simp only [Aa,V.fz,fzL,V.up,upL,Ab,Ac,Ad,slr,List.cons_append,List.nil_append];done) | simp [Aa,V.fz,fzL,V.up,upL,Ab,Ac,Ad,slr]) ?_
 conv=>whnf
 cases h;exact (by first | rfl | simp only [Ah,Aa,V.fz,fzL,V.up,upL,Ab,Ac,Ad,slr] | simp [Ah,Aa,V.fz,fzL,V.up,upL,Ab,Ac,Ad,slr])
noncomputable def F3 (n0:Int) (op0:SOp) (r0:SRelation):Option (Bool×Bool):=
 (L6 (n0) (op0) (r0)).bind fun r1=>
 if (r1)=true then
 (Bv (n0) (op0) (r0)).bind fun r3=>
 some (!r3.snd.snd,true)
 else
 some (false,false)
theorem Ag6 {n0:Int} {op0:SOp} {r0:SRelation} {v:(Bool×Bool)} (h:F3 n0 op0 r0=some v):Ret Tryz.prog Om [Ae n0,(Co false) op0,(Ai false) r0] ((fun r=>V.tup [V.bool r.1,V.bool r.2]) v):=by
 refine A5 Agb (Nat.le_of_ble_eq_true rfl) ?_
 unfold F3 at h
 conv=>whnf
 refine Cells.lit rfl rfl ?_
 conv=>whnf
 refine Cells.lit rfl rfl ?_
 conv=>whnf
 refine CallQ.o V.bool (by first | rfl | simp only [Aa,V.fz,fzL,V.up,upL,Ab,Ac,Ad,slr,List.cons_append,List.nil_append] | simp [Aa,V.fz,fzL,V.up,upL,Ab,Ac,Ad,slr]) h (fun r h=>Ah3 h) (fun r1 h=> ?_)
 conv=>whnf
 refine Br.flip ?_
 conv=>whnf
 refine Br.ob h (fun p2 h=> ?_) (fun p2 h=> ?_)
 ·conv=>whnf
  refine Cells.lit rfl rfl ?_
  conv=>whnf
  refine Cells.lit rfl rfl ?_
  conv=>whnf
  refine CallQ.o (fun r=>V.tup [(slr true 1 Ae) r.1,(slr true 1 Ae) r.2.1,V.bool r.2.2]) (by first | rfl | simp only [Aa,V.fz,fzL,V.up,upL,Ab,Ac,Ad,slr,List.cons_append,List.nil_append] | simp [Aa,V.fz,fzL,V.up,upL,Ab,Ac,Ad,slr]) h (fun r h=>Rn h) (fun r3 h=> ?_)
  conv=>whnf
  cases h;exact (by first | rfl | simp only [Ah,Aa,V.fz,fzL,V.up,upL,Ab,Ac,Ad,slr] | simp [Ah,Aa,V.fz,fzL,V.up,upL,Ab,Ac,Ad,slr])
 conv=>whnf
 cases h;exact (by first | rfl | simp only [Ah,Aa,V.fz,fzL,V.up,upL,Ab,Ac,Ad,slr] | simp [Ah,Aa,V.fz,fzL,V.up,upL,Ab,Ac,Ad,slr])
noncomputable def Ee (net0:SNetwork):Option Bool:=
 (Fe (net0)).bind fun r1=>
 if (r1)=true then
 some (net0.Size==(2:Int))
 else
 some false
theorem Mr {net0:SNetwork} {v:Bool} (h:Ee net0=some v):Ret Tryz.prog Hb [(Aj false) net0] (V.bool v):=by
 refine A5 Aek (Nat.le_of_ble_eq_true rfl) ?_
 unfold Ee at h
 conv=>whnf
 refine Cells.lit rfl rfl ?_
 conv=>whnf
 refine CallQ.o V.bool (by first | rfl | simp only [Aa,V.fz,fzL,V.up,upL,Ab,Ac,Ad,slr,List.cons_append,List.nil_append] | simp [Aa,V.fz,fzL,V.up,upL,Ab,Ac,Ad,slr]) h (fun r h=>Ub h) (fun r1 h=> ?_)
 conv=>whnf
 refine Br.ob h (fun p2 h=> ?_) (fun p2 h=> ?_)
 ·conv=>whnf
  refine Br.yes ?_
  conv=>whnf
  refine Cells.lit rfl rfl ?_
  conv=>whnf
  refine Br.yes ?_
  conv=>whnf
  refine Br.yes ?_
  conv=>whnf
  cases h;exact (by first | rfl | simp only [Ah,Aa,V.fz,fzL,V.up,upL,Ab,Ac,Ad,slr] | simp [Ah,Aa,V.fz,fzL,V.up,upL,Ab,Ac,Ad,slr])
 conv=>whnf
 refine Br.no ?_
 conv=>whnf
 refine Br.no ?_
 conv=>whnf
 refine Br.no ?_
 conv=>whnf
 cases h;exact (by first | rfl | simp only [Ah,Aa,V.fz,fzL,V.up,upL,Ab,Ac,Ad,slr] | simp [Ah,Aa,V.fz,fzL,V.up,upL,Ab,Ac,Ad,slr])
noncomputable def Bh (list0:List SConstraint) (x12:Int):(Int×(List Bool))→Option ((Int×(List Bool)) ⊕ (List Bool)):=fun (x6,x3')=>
 if x6<(2:Int) then
 ask ((0:Int)≤x6∧x6<(↑x3'.length:Int)) <|
 if (nth x3' x6.toNat)=true then
 (Dl ((nth list0 x12.toNat).Rel.Arity) (x6)).bind fun r6=>
 (Hw ((nth list0 x12.toNat).Rel) (r6)).bind fun r7=>
 ask ((0:Int)≤x6∧x6<(↑x3'.length:Int)) <|
 ask (InI (x6+(1:Int))) <|
 some (.inl (x6+(1:Int),x3'.set x6.toNat r7))
 else
 ask ((0:Int)≤x6∧x6<(↑x3'.length:Int)) <|
 ask (InI (x6+(1:Int))) <|
 some (.inl (x6+(1:Int),x3'.set x6.toNat false))
 else
 some (.inr x3')
def Gf (list0:List SConstraint) (x12:Int):(Int×(List Bool))→St:=fun s=>[(6,A.val (Ae s.1)),(5,A.val ((rP true (Ap false)) (nth list0 x12.toNat))),(12,A.val (Ae (x12))),(11,A.val (Ae ((↑list0.length:Int)))),(10,A.val ((slr false 3 (Ap false)) (list0))),(3,A.val ((slr true 1 V.bool) s.2))]
def Kg (list0:List SConstraint) (x12:Int):(List Bool)→Tgt
 | s=>((Ex.exit 2),[5,12,11,10,3],[(5,A.val ((rP true (Ap false)) (nth list0 x12.toNat))),(12,A.val (Ae (x12))),(11,A.val (Ae ((↑list0.length:Int)))),(10,A.val ((slr false 3 (Ap false)) (list0))),(3,A.val ((slr true 1 V.bool) s))])
theorem Tg {list0:List SConstraint} {x12:Int} (s:(Int×(List Bool))) (o:(Int×(List Bool)) ⊕ (List Bool)) (h:Bh list0 x12 s=some o):vc Tryz.prog J7 (Dc [6,5,12,11,10,3] (Gf list0 x12) (Kg list0 x12) o) (Gf list0 x12 s):=by
 obtain ⟨x6,x3'⟩:=s
 unfold Bh at h
 try dsimp only at h
 conv=>whnf
 refine Br.od h (fun p3 h=> ?_) (fun p3 h=> ?_)
 ·conv=>whnf
  refine Len.map ?_
  conv=>whnf
  refine Ask.o h fun p4 h=> ?_
  conv=>whnf
  refine Cells.one (fun _=>⟨rfl,rfl⟩) (by first | omega | (simp [Be] at * <;> omega)) ?_
  conv=>whnf
  refine Br.ob h (fun p5 h=> ?_) (fun p5 h=> ?_)
  ·conv=>whnf
   refine Br.yes ?_
   conv=>whnf
   refine Cells.lit rfl rfl ?_
   conv=>whnf
   refine Br.yes ?_
   conv=>whnf
   refine Br.yes ?_
   conv=>whnf
   refine Br.yes ?_
   conv=>whnf
   refine Cells.lit rfl rfl ?_
   conv=>whnf
   refine Br.yes ?_
   conv=>whnf
   refine Br.yes ?_
   conv=>whnf
   refine CallP.o (slr true 1 Ae) (by first | rfl | simp only [Aa,V.fz,fzL,V.up,upL,Ab,Ac,Ad,slr,List.cons_append,List.nil_append] | simp [Aa,V.fz,fzL,V.up,upL,Ab,Ac,Ad,slr]) h (fun r h=>Yg h) (fun r6 h=> ?_)
   conv=>whnf
   refine Br.yes ?_
   conv=>whnf
   refine CallP.rd V.bool (by first | rfl | simp only [V.fz,fzL,Ab,slr] | simp [Aa,V.fz,fzL,V.up,upL,Ab,Ac,Ad,slr]) (fun _=>rfl) h (fun r h=>Aly h) (fun r7 h=> ?_)
   conv=>whnf
   refine Br.yes ?_
   conv=>whnf
   refine Len.map ?_
   conv=>whnf
   refine Ask.o h fun p8 h=> ?_
   conv=>whnf
   refine SetKids.one (fun _=>⟨rfl,rfl⟩) (r7) (by first | rfl | simp only [Aa,V.fz,fzL,V.up,upL,Ab,Ac,Ad,slr,List.cons_append,List.nil_append] | simp [Aa,V.fz,fzL,V.up,upL,Ab,Ac,Ad,slr]) (by first | omega | (simp [Be] at * <;> omega)) ?_
   conv=>whnf
   refine Ask.o h fun p9 h=> ?_
   conv=>whnf
   cases h;exact ⟨rfl,rfl⟩
  conv=>whnf
  refine Br.no ?_
  conv=>whnf
  refine Br.no ?_
  conv=>whnf
  refine Br.no ?_
  conv=>whnf
  refine Br.no ?_
  conv=>whnf
  refine Br.no ?_
  conv=>whnf
  refine Br.no ?_
  conv=>whnf
  refine Br.no ?_
  conv=>whnf
  refine Br.no ?_
  conv=>whnf
  refine Len.map ?_
  conv=>whnf
  refine Ask.o h fun p10 h=> ?_
  conv=>whnf
  refine SetKids.one (fun _=>⟨rfl,rfl⟩) (false) (by first | rfl | simp only [Aa,V.fz,fzL,V.up,upL,Ab,Ac,Ad,slr,List.cons_append,List.nil_append] | simp [Aa,V.fz,fzL,V.up,upL,Ab,Ac,Ad,slr]) (by first | omega | (simp [Be] at * <;> omega)) ?_
  conv=>whnf
  refine Ask.o h fun p11 h=> ?_
  conv=>whnf
  cases h;exact ⟨rfl,rfl⟩
 conv=>whnf
 cases h;exact ⟨rfl,rfl⟩
noncomputable def Bl (list0:List SConstraint) (x12:Int) (r13:List SOp):(Int×(List Bool))→Option ((Int×(List Bool)) ⊕ (List Bool)):=fun (x39,x3')=>
 if x39<(↑r13.length:Int) then
 ask ((0:Int)≤x39∧x39<(↑r13.length:Int)) <|
 ask (InI ((2:Int)+x39)) <|
 ask (InI ((2:Int)+x39)) <|
 ask ((0:Int)≤(2:Int)+x39∧(2:Int)+x39<(↑x3'.length:Int)) <|
 if (nth x3' ((2:Int)+x39).toNat)=true then
 (Hn ((2:Int)) ([(nth list0 x12.toNat).Rel]) (nth r13 x39.toNat)).bind fun r20=>
 ask ((0:Int)≤(2:Int)+x39∧(2:Int)+x39<(↑x3'.length:Int)) <|
 ask (InI (x39+(1:Int))) <|
 some (.inl (x39+(1:Int),x3'.set ((2:Int)+x39).toNat r20))
 else
 ask ((0:Int)≤(2:Int)+x39∧(2:Int)+x39<(↑x3'.length:Int)) <|
 ask (InI (x39+(1:Int))) <|
 some (.inl (x39+(1:Int),x3'.set ((2:Int)+x39).toNat false))
 else
 some (.inr x3')
def Gg (list0:List SConstraint) (x12:Int) (r13:List SOp):(Int×(List Bool))→St:=fun s=>[(39,A.val (Ae s.1)),(38,A.val (Ae ((↑r13.length:Int)))),(37,A.val ((slr false 2 (Co false)) (r13))),(5,A.val ((rP true (Ap false)) (nth list0 x12.toNat))),(12,A.val (Ae (x12))),(11,A.val (Ae ((↑list0.length:Int)))),(10,A.val ((slr false 3 (Ap false)) (list0))),(3,A.val ((slr true 1 V.bool) s.2))]
def Kj (list0:List SConstraint) (x12:Int) (_r13:List SOp):(List Bool)→Tgt
 | s=>((Ex.exit 4),[12,11,10,3],[(12,A.val (Ae (x12))),(11,A.val (Ae ((↑list0.length:Int)))),(10,A.val ((slr false 3 (Ap false)) (list0))),(3,A.val ((slr true 1 V.bool) s))])
theorem Te {list0:List SConstraint} {x12:Int} {r13:List SOp} (s:(Int×(List Bool))) (o:(Int×(List Bool)) ⊕ (List Bool)) (h:Bl list0 x12 r13 s=some o):vc Tryz.prog Ko (Dc [39,38,37,5,12,11,10,3] (Gg list0 x12 r13) (Kj list0 x12 r13) o) (Gg list0 x12 r13 s):=by
 obtain ⟨x39,x3'⟩:=s
 unfold Bl at h
 try dsimp only at h
 conv=>whnf
 refine Br.od h (fun p14 h=> ?_) (fun p14 h=> ?_)
 ·conv=>whnf
  refine Len.map ?_
  conv=>whnf
  refine Ask.o h fun p15 h=> ?_
  conv=>whnf
  refine Elem.o (by first | omega | (simp [Be] at * <;> omega)) ?_
  conv=>whnf
  refine SetKids.lit rfl ?_
  conv=>whnf
  refine Ask.o h fun p16 h=> ?_
  conv=>whnf
  refine Ask.o h fun p17 h=> ?_
  conv=>whnf
  refine Len.map ?_
  conv=>whnf
  refine Ask.o h fun p18 h=> ?_
  conv=>whnf
  refine Cells.one (fun _=>⟨rfl,rfl⟩) (by first | omega | (simp [Be] at * <;> omega)) ?_
  conv=>whnf
  refine Br.ob h (fun p19 h=> ?_) (fun p19 h=> ?_)
  ·conv=>whnf
   refine Br.yes ?_
   conv=>whnf
   refine Cells.lit rfl rfl ?_
   conv=>whnf
   refine Br.yes ?_
   conv=>whnf
   refine BslQ.o (Ai false) ([(nth list0 x12.toNat).Rel]) (by exact fun _=>⟨rfl,rfl⟩) (by first | rfl | (simp only [Aa,V.fz,fzL,V.up,upL,Ab,Ac,Ad,slr,List.cons_append,List.nil_append];done) | simp [Aa,V.fz,fzL,V.up,upL,Ab,Ac,Ad,slr]) ?_
   conv=>whnf
   refine FrzQ.d ((slr false 2 (Ai false)) ([(nth list0 x12.toNat).Rel])) ((Am _).trans (Eq.trans (b:=V.fz ((slr true 2 (Ai false)) ([(nth list0 x12.toNat).Rel]))) rfl (Ad (slr true 2 (Ai false)) _))) ?_
   conv=>whnf
   refine Br.yes ?_
   conv=>whnf
   refine Cells.lit rfl rfl ?_
   conv=>whnf
   refine Br.yes ?_
   conv=>whnf
   refine CallQ.o V.bool (by first | rfl | simp only [Aa,V.fz,fzL,V.up,upL,Ab,Ac,Ad,slr,List.cons_append,List.nil_append] | simp [Aa,V.fz,fzL,V.up,upL,Ab,Ac,Ad,slr]) h (fun r h=>Agl h) (fun r20 h=> ?_)
   conv=>whnf
   refine Br.yes ?_
   conv=>whnf
   refine Len.map ?_
   conv=>whnf
   refine Ask.o h fun p21 h=> ?_
   conv=>whnf
   refine SetKids.one (fun _=>⟨rfl,rfl⟩) (r20) (by first | rfl | simp only [Aa,V.fz,fzL,V.up,upL,Ab,Ac,Ad,slr,List.cons_append,List.nil_append] | simp [Aa,V.fz,fzL,V.up,upL,Ab,Ac,Ad,slr]) (by first | omega | (simp [Be] at * <;> omega)) ?_
   conv=>whnf
   refine Ask.o h fun p22 h=> ?_
   conv=>whnf
   cases h;exact ⟨rfl,rfl⟩
  conv=>whnf
  refine Br.no ?_
  conv=>whnf
  refine Br.no ?_
  conv=>whnf
  refine Br.no ?_
  conv=>whnf
  refine Br.no ?_
  conv=>whnf
  refine Br.no ?_
  conv=>whnf
  refine Len.map ?_
  conv=>whnf
  refine Ask.o h fun p23 h=> ?_
  conv=>whnf
  refine SetKids.one (fun _=>⟨rfl,rfl⟩) (false) (by first | rfl | simp only [Aa,V.fz,fzL,V.up,upL,Ab,Ac,Ad,slr,List.cons_append,List.nil_append] | simp [Aa,V.fz,fzL,V.up,upL,Ab,Ac,Ad,slr]) (by first | omega | (simp [Be] at * <;> omega)) ?_
  conv=>whnf
  refine Ask.o h fun p24 h=> ?_
  conv=>whnf
  cases h;exact ⟨rfl,rfl⟩
 conv=>whnf
 cases h;exact ⟨rfl,rfl⟩
noncomputable def B6 (list0:List SConstraint):(Int×(List Bool))→Option ((Int×(List Bool)) ⊕ (List Bool)):=fun (x12,x3)=>
 if x12<(↑list0.length:Int) then
 ask ((0:Int)≤x12∧x12<(↑list0.length:Int)) <|
 (Ao (Bh list0 x12) ((0:Int),x3)).bind fun q12_3=>
 (F6).bind fun r13=>
 (Ao (Bl list0 x12 r13) ((0:Int),q12_3)).bind fun q25_3=>
 ask (InI (x12+(1:Int))) <|
 some (.inl (x12+(1:Int),q25_3))
 else
 some (.inr x3)
def Gk (list0:List SConstraint):(Int×(List Bool))→St:=fun s=>[(12,A.val (Ae s.1)),(11,A.val (Ae ((↑list0.length:Int)))),(10,A.val ((slr false 3 (Ap false)) (list0))),(3,A.val ((slr true 1 V.bool) s.2))]
def J3 (_list0:List SConstraint):(List Bool)→Tgt
 | s=>((Ex.exit 0),[3],[(3,A.val ((slr true 1 V.bool) s))])
theorem Sz {list0:List SConstraint} (s:(Int×(List Bool))) (o:(Int×(List Bool)) ⊕ (List Bool)) (h:B6 list0 s=some o):vc Tryz.prog J9 (Dc [12,11,10,3] (Gk list0) (J3 list0) o) (Gk list0 s):=by
 obtain ⟨x12,x3⟩:=s
 unfold B6 at h
 try dsimp only at h
 conv=>whnf
 refine Br.od h (fun p1 h=> ?_) (fun p1 h=> ?_)
 ·conv=>whnf
  refine Len.map ?_
  conv=>whnf
  refine Ask.o h fun p2 h=> ?_
  conv=>whnf
  refine Elem.o (by first | omega | (simp [Be] at * <;> omega)) ?_
  conv=>whnf
  refine SetKids.lit rfl ?_
  conv=>whnf
  refine LoopQ.o [6,5,12,11,10,3] (Gf list0 x12) (Kg list0 x12) h (fun s o h=>Tg s o h) (by first | rfl | simp [restrict,look,Aa,V.fz,fzL,V.up,upL,Ab,Ac,Ad,slr]) (fun _=>rfl) ?_
  rintro q12_3 h
  try dsimp only at h
  conv=>whnf
  refine CallQ.o (slr false 2 (Co false)) (by first | rfl | simp only [Aa,V.fz,fzL,V.up,upL,Ab,Ac,Ad,slr,List.cons_append,List.nil_append] | simp [Aa,V.fz,fzL,V.up,upL,Ab,Ac,Ad,slr]) h (fun r h=>Ret.frz (Ac4 h) (by first | rfl | simp only [V.fz,Ab,slr] | simp [Aa,V.fz,fzL,V.up,upL,Ab,Ac,Ad,slr])) (fun r13 h=> ?_)
  conv=>whnf
  refine Len.map ?_
  conv=>whnf
  refine LoopQ.o [39,38,37,5,12,11,10,3] (Gg list0 x12 r13) (Kj list0 x12 r13) h (fun s o h=>Te s o h) (by first | rfl | simp [restrict,look,Aa,V.fz,fzL,V.up,upL,Ab,Ac,Ad,slr]) (fun _=>rfl) ?_
  rintro q25_3 h
  try dsimp only at h
  conv=>whnf
  refine Ask.o h fun p26 h=> ?_
  conv=>whnf
  cases h;exact ⟨rfl,rfl⟩
 conv=>whnf
 cases h;exact ⟨rfl,rfl⟩
noncomputable def C8 (list0:(List SConstraint)):Option (List Bool):=
 (Ao (B6 list0) ((0:Int),[true,true,true,true,true,true])).bind fun q27_3=>
 some q27_3
theorem Mn {list0:(List SConstraint)} {v:(List Bool)} (h:C8 list0=some v):Ret Tryz.prog Fs [(slr false 3 (Ap false)) list0] ((slr true 1 V.bool) v):=by
 refine A5 Xe (Nat.le_of_ble_eq_true rfl) ?_
 unfold C8 at h
 conv=>whnf
 refine BslQ.o V.bool ([true,true,true,true,true,true]) (by exact fun _=>⟨rfl,rfl⟩) (by first | rfl | (simp only [Aa,V.fz,fzL,V.up,upL,Ab,Ac,Ad,slr,List.cons_append,List.nil_append];done) | simp [Aa,V.fz,fzL,V.up,upL,Ab,Ac,Ad,slr]) ?_
 conv=>whnf
 refine Len.map ?_
 conv=>whnf
 refine LoopQ.o [12,11,10,3] (Gk list0) (J3 list0) h (fun s o h=>Sz s o h) (by first | rfl | simp [restrict,look,Aa,V.fz,fzL,V.up,upL,Ab,Ac,Ad,slr]) (fun _=>rfl) ?_
 rintro q27_3 h
 try dsimp only at h
 conv=>whnf
 cases h;exact (by first | rfl | simp only [Ah,Aa,V.fz,fzL,V.up,upL,Ab,Ac,Ad,slr] | simp [Ah,Aa,V.fz,fzL,V.up,upL,Ab,Ac,Ad,slr])
noncomputable def Fj (c0:Sl1Cur) (class0:Int):Option (SRelation×Sl1Cur):=
 (Bj (c0) ([(1:Int),(2:Int),(2:Int),(3:Int),(3:Int),(3:Int)])).bind fun (r1,u2)=>
 (D4 (u2) ((2:Int)) (r1)).bind fun (r3,u4)=>
 (((G7 ((2:Int)) (r3)).bind fun r5=>
 if (r5)=true then
 some r3
 else
 (Da ((2:Int)) (r1)).bind fun r7=>
 some r7:Option SRelation)).bind fun q8_6=>
 ((if class0≤(1:Int) then
 some (decide ((↑q8_6.Tuples.length:Int)>(0:Int)))
 else
 some false:Option Bool)).bind fun q10_18=>
 if (q10_18)=true then
 (Fk (q8_6.Arity) (class0)).bind fun r12=>
 (E9 (q8_6.Tuples) (r12)).bind fun r13=>
 some ({ Arity:=q8_6.Arity,Tuples:=r13 },u4)
 else
 ((if class0>(1:Int) then
 some (decide (class0<(6:Int)))
 else
 some false:Option Bool)).bind fun q15_35=>
 if (q15_35)=true then
 (Gh).bind fun r17=>
 ask (InI (class0-(2:Int))) <|
 ask ((0:Int)≤class0-(2:Int)∧class0-(2:Int)<(↑r17.length:Int)) <|
 (G3 ({ Size:=(2:Int),Ops:=[nth r17 (class0-(2:Int)).toNat] }) (q8_6.Arity) (q8_6.Tuples)).bind fun r20=>
 some ({ Arity:=q8_6.Arity,Tuples:=r20.fst },u4)
 else
 some (q8_6,u4)
theorem Aai {c0:Sl1Cur} {class0:Int} {v:(SRelation×Sl1Cur)} (h:Fj c0 class0=some v):Rc Tryz.prog K2 [(rP true (Ak false)) c0,Ae class0] ((Ai false) v.1) 0 ((rP true (Ak false)) v.2):=by
 refine Afc Aar (Nat.le_of_ble_eq_true rfl) ?_
 unfold Fj at h
 conv=>whnf
 refine BslQ.o Ae ([(1:Int),(2:Int),(2:Int),(3:Int),(3:Int),(3:Int)]) (by exact fun _=>⟨rfl,rfl⟩) (by first | rfl | (simp only [Aa,V.fz,fzL,V.up,upL,Ab,Ac,Ad,slr,List.cons_append,List.nil_append];done) | simp [Aa,V.fz,fzL,V.up,upL,Ab,Ac,Ad,slr]) ?_
 conv=>whnf
 refine CallQ.io Ae (rP true (Ak false)) (by first | rfl | (simp only [Aa,Am,V.fz,fzL,Ab,Ac,slr];done) | simp [Aa,Am,V.fz,fzL,V.up,upL,Ab,Ac,Ad,slr]) rfl (fun _=>rfl) (fun _=>⟨rfl,rfl⟩) rfl h (fun r h=>Ct h) (fun r1 u2 h=> ?_)
 conv=>whnf
 refine CallQ.io (Ar) (rP true (Ak false)) (by first | rfl | simp only [Aa,V.fz,fzL,V.up,upL,Ab,Ac,Ad,slr,List.cons_append,List.nil_append] | simp [Aa,V.fz,fzL,V.up,upL,Ab,Ac,Ad,slr]) rfl (fun _=>rfl) (fun _=>⟨rfl,rfl⟩) rfl h (fun r h=>W2 h) (fun r3 u4 h=> ?_)
 conv=>whnf
 refine SetKids.lit rfl ?_
 conv=>whnf
 refine CutQ.o (fun t:SRelation=>match t with | s=>(Ex.normal,[6,4,59,1],[(6,A.val ((rP true (Ar)) s)),(4,A.val ((rP true (Ar)) ({ Arity:=(0:Int),Tuples:=Au (List Int) }))),(59,A.val ((rP true (Ak false)) (u4))),(1,A.val (Ae (class0)))])) h ?_ ?_
 ·intro t h
  conv=>whnf
  refine Cells.lit rfl rfl ?_
  conv=>whnf
  refine CallQ.rd V.bool (by first | rfl | simp only [V.fz,Ab] | simp [Aa,V.fz,fzL,V.up,upL,Ab,Ac,Ad,slr]) (fun _=>rfl) h (fun r h=>Xq h) (fun r5 h=> ?_)
  conv=>whnf
  refine Br.flip ?_
  conv=>whnf
  refine Br.ob h (fun p6 h=> ?_) (fun p6 h=> ?_)
  ·conv=>whnf
   cases h;exact ⟨rfl,rfl⟩
  conv=>whnf
  refine CallQ.o (Ar) (by first | rfl | simp only [Aa,V.fz,fzL,V.up,upL,Ab,Ac,Ad,slr,List.cons_append,List.nil_append] | simp [Aa,V.fz,fzL,V.up,upL,Ab,Ac,Ad,slr]) h (fun r h=>Xm h) (fun r7 h=> ?_)
  conv=>whnf
  refine SetKids.lit rfl ?_
  conv=>whnf
  cases h;exact ⟨rfl,rfl⟩
 rintro q8_6 h
 try dsimp only at h
 conv=>whnf
 refine CutQ.o (fun t:Bool=>match t with | s=>(Ex.normal,[18,6,4,59,1],[(18,A.val (V.bool s)),(6,A.val ((rP true (Ar)) (q8_6))),(4,A.val ((rP true (Ar)) ({ Arity:=(0:Int),Tuples:=Au (List Int) }))),(59,A.val ((rP true (Ak false)) (u4))),(1,A.val (Ae (class0)))])) h ?_ ?_
 ·intro t h
  conv=>whnf
  refine Br.od h (fun p9 h=> ?_) (fun p9 h=> ?_)
  ·conv=>whnf
   refine Br.yes ?_
   conv=>whnf
   refine Cells.lit rfl rfl ?_
   conv=>whnf
   refine Br.yes ?_
   conv=>whnf
   refine Kid.lit rfl rfl ?_
   conv=>whnf
   refine Len.map ?_
   conv=>whnf
   refine Br.yes ?_
   conv=>whnf
   refine Br.yes ?_
   conv=>whnf
   cases h;exact ⟨rfl,rfl⟩
  conv=>whnf
  refine Br.no ?_
  conv=>whnf
  refine Br.no ?_
  conv=>whnf
  refine Br.no ?_
  conv=>whnf
  refine Br.no ?_
  conv=>whnf
  cases h;exact ⟨rfl,rfl⟩
 rintro q10_18 h
 try dsimp only at h
 conv=>whnf
 refine Br.ob h (fun p11 h=> ?_) (fun p11 h=> ?_)
 ·conv=>whnf
  refine Cells.lit rfl rfl ?_
  conv=>whnf
  refine Cells.lit rfl rfl ?_
  conv=>whnf
  refine CallP.o (slr true 1 Ae) (by first | rfl | simp only [Aa,V.fz,fzL,V.up,upL,Ab,Ac,Ad,slr,List.cons_append,List.nil_append] | simp [Aa,V.fz,fzL,V.up,upL,Ab,Ac,Ad,slr]) h (fun r h=>Aao h) (fun r12 h=> ?_)
  conv=>whnf
  refine Kid.lit rfl rfl ?_
  conv=>whnf
  refine CallQ.give (slr true 1 (slr false 1 Ae)) (by first | rfl | (simp only [slr];done) | simp [Am,V.fz,Ab,slr]) rfl (fun _=>rfl) rfl h (fun r h=>Pi h) (fun r13 h=> ?_)
  conv=>whnf
  refine Kid.lit rfl rfl ?_
  conv=>whnf
  refine SetKids.lit rfl ?_
  conv=>whnf
  refine SetKids.lit rfl ?_
  conv=>whnf
  refine Cells.lit rfl rfl ?_
  conv=>whnf
  refine SetKids.lit rfl ?_
  conv=>whnf
  cases h;exact ⟨(by first | rfl | simp only [Ah,V.fz,fzL,V.up,Ab,slr] | simp [Ah,Aa,V.fz,fzL,V.up,upL,Ab,Ac,Ad,slr]),(by first | rfl | simp only [Ah,Aa,V.fz,fzL,V.up,upL,Ab,Ac,Ad,slr] | simp [Ah,Aa,V.fz,fzL,V.up,upL,Ab,Ac,Ad,slr])⟩
 conv=>whnf
 refine CutQ.o (fun t:Bool=>match t with | s=>(Ex.normal,[35,6,4,59,1],[(35,A.val (V.bool s)),(6,A.val ((rP true (Ar)) (q8_6))),(4,A.val ((rP true (Ar)) ({ Arity:=(0:Int),Tuples:=Au (List Int) }))),(59,A.val ((rP true (Ak false)) (u4))),(1,A.val (Ae (class0)))])) h ?_ ?_
 ·intro t h
  conv=>whnf
  refine Br.od h (fun p14 h=> ?_) (fun p14 h=> ?_)
  ·conv=>whnf
   refine Br.yes ?_
   conv=>whnf
   refine Br.yes ?_
   conv=>whnf
   cases h;exact ⟨rfl,rfl⟩
  conv=>whnf
  refine Br.no ?_
  conv=>whnf
  refine Br.no ?_
  conv=>whnf
  cases h;exact ⟨rfl,rfl⟩
 rintro q15_35 h
 try dsimp only at h
 conv=>whnf
 refine Br.ob h (fun p16 h=> ?_) (fun p16 h=> ?_)
 ·conv=>whnf
  refine FrzQ.d (V.ptr true (V.agg [V.int IntKind.i64 q8_6.Arity,V.sl false (1:Nat) (List.map (slr false (1:Nat) Ae) q8_6.Tuples)])) (by first | (simp only [V.fzAt,Cz,Ac];done) | exact Eq.trans (b:=V.ptr true (V.agg [V.int IntKind.i64 q8_6.Arity,(V.sl true (1:Nat) (List.map (slr false (1:Nat) Ae) q8_6.Tuples)).fz])) rfl (by simp only [Ac])) ?_
  conv=>whnf
  refine CallP.o (slr false 2 (Co false)) (by first | rfl | simp only [Aa,V.fz,fzL,V.up,upL,Ab,Ac,Ad,slr,List.cons_append,List.nil_append] | simp [Aa,V.fz,fzL,V.up,upL,Ab,Ac,Ad,slr]) h (fun r h=>Ret.frz (Z2 h) (by first | rfl | simp only [V.fz,Ab,slr] | simp [Aa,V.fz,fzL,V.up,upL,Ab,Ac,Ad,slr])) (fun r17 h=> ?_)
  conv=>whnf
  refine Ask.o h fun p18 h=> ?_
  conv=>whnf
  refine Len.map ?_
  conv=>whnf
  refine Ask.o h fun p19 h=> ?_
  conv=>whnf
  refine Elem.o (by first | omega | (simp [Be] at * <;> omega)) ?_
  conv=>whnf
  refine BslQ.o (Co false) ([nth r17 (class0-(2:Int)).toNat]) (by exact fun _=>⟨rfl,rfl⟩) (by first | rfl | (simp only [Aa,V.fz,fzL,V.up,upL,Ab,Ac,Ad,slr,List.cons_append,List.nil_append];done) | simp [Aa,V.fz,fzL,V.up,upL,Ab,Ac,Ad,slr]) ?_
  conv=>whnf
  refine FrzQ.z ?_
  conv=>whnf
  refine Cells.lit rfl rfl ?_
  conv=>whnf
  refine Cells.lit rfl rfl ?_
  conv=>whnf
  refine CallP.o (fun r=>V.tup [(slr true 1 (slr false 1 Ae)) r.1,V.bool r.2]) (by first | rfl | simp only [Aa,V.fz,fzL,V.up,upL,Ab,Ac,Ad,slr,List.cons_append,List.nil_append] | simp [Aa,V.fz,fzL,V.up,upL,Ab,Ac,Ad,slr]) h (fun r h=>Ah1 h) (fun r20 h=> ?_)
  conv=>whnf
  refine SetKids.lit rfl ?_
  conv=>whnf
  refine Cells.lit rfl rfl ?_
  conv=>whnf
  refine SetKids.lit rfl ?_
  conv=>whnf
  cases h;exact ⟨(by first | rfl | simp only [Ah,V.fz,fzL,V.up,Ab,slr] | simp [Ah,Aa,V.fz,fzL,V.up,upL,Ab,Ac,Ad,slr]),(by first | rfl | simp only [Ah,Aa,V.fz,fzL,V.up,upL,Ab,Ac,Ad,slr] | simp [Ah,Aa,V.fz,fzL,V.up,upL,Ab,Ac,Ad,slr])⟩
 conv=>whnf
 refine Cells.lit rfl rfl ?_
 conv=>whnf
 refine SetKids.lit rfl ?_
 conv=>whnf
 cases h;exact ⟨(by first | rfl | simp only [Ah,V.fz,fzL,V.up,Ab,slr] | simp [Ah,Aa,V.fz,fzL,V.up,upL,Ab,Ac,Ad,slr]),(by first | rfl | simp only [Ah,Aa,V.fz,fzL,V.up,upL,Ab,Ac,Ad,slr] | simp [Ah,Aa,V.fz,fzL,V.up,upL,Ab,Ac,Ad,slr])⟩
noncomputable def B8 (r0:SRelation) (f0:List Int):(Int×(List (List Int)))→Option ((Int×(List (List Int))) ⊕ (List (List Int))):=fun (x12,x5)=>
 if x12<(↑r0.Tuples.length:Int) then
 ask ((0:Int)≤x12∧x12<(↑r0.Tuples.length:Int)) <|
 (Iw (nth r0.Tuples x12.toNat) (f0)).bind fun r3=>
 ask ((x5).length+([r3]).length≤LIM) <|
 ask (InI (x12+(1:Int))) <|
 some (.inl (x12+(1:Int),x5++[r3]))
 else
 some (.inr x5)
def Gy (r0:SRelation) (f0:List Int):(Int×(List (List Int)))→St:=fun s=>[(12,A.val (Ae s.1)),(11,A.val (Ae ((↑r0.Tuples.length:Int)))),(10,A.val ((slr false 1 (slr false 1 Ae)) (r0.Tuples))),(5,A.val ((slr true 1 (slr true 1 Ae)) s.2)),(4,A.val ((rP true (Ai true)) ({ Arity:=(0:Int),Tuples:=Au (List Int) }))),(2,A.val ((rP true (Ai false)) (r0))),(1,A.val ((slr false 1 Ae) (f0)))]
def K8 (r0:SRelation) (_f0:List Int):(List (List Int))→Tgt
 | s=>((Ex.exit 0),[5,4,2],[(5,A.val ((slr true 1 (slr true 1 Ae)) s)),(4,A.val ((rP true (Ai true)) ({ Arity:=(0:Int),Tuples:=Au (List Int) }))),(2,A.val ((rP true (Ai false)) (r0)))])
theorem T7 {r0:SRelation} {f0:List Int} (s:(Int×(List (List Int)))) (o:(Int×(List (List Int))) ⊕ (List (List Int))) (h:B8 r0 f0 s=some o):vc Tryz.prog Lh (Dc [12,11,10,5,4,2,1] (Gy r0 f0) (K8 r0 f0) o) (Gy r0 f0 s):=by
 obtain ⟨x12,x5⟩:=s
 unfold B8 at h
 try dsimp only at h
 conv=>whnf
 refine Br.od h (fun p1 h=> ?_) (fun p1 h=> ?_)
 ·conv=>whnf
  refine Len.map ?_
  conv=>whnf
  refine Ask.o h fun p2 h=> ?_
  conv=>whnf
  refine Elem.o (by first | omega | (simp [Be] at * <;> omega)) ?_
  conv=>whnf
  refine CallQ.o (slr true 1 Ae) (by first | rfl | simp only [Aa,V.fz,fzL,V.up,upL,Ab,Ac,Ad,slr,List.cons_append,List.nil_append] | simp [Aa,V.fz,fzL,V.up,upL,Ab,Ac,Ad,slr]) h (fun r h=>Ahn h) (fun r3 h=> ?_)
  conv=>whnf
  refine BslQ.o (slr true 1 Ae) [r3] (by exact fun _=>⟨rfl,rfl⟩) (by first | rfl | (simp only [Aa,V.fz,fzL,V.up,upL,Ab,Ac,Ad,slr,List.cons_append,List.nil_append];done) | simp [Aa,V.fz,fzL,V.up,upL,Ab,Ac,Ad,slr]) ?_
  conv=>whnf
  refine NoOwn.own rfl ?_
  conv=>whnf
  refine AppQ.o (m:=1) (slr true 1 Ae) (by exact fun _=>⟨rfl,rfl⟩) (x5) ([r3]) (by first | rfl | simp only [Aa,V.fz,fzL,V.up,upL,Ab,Ac,Ad,slr,List.cons_append,List.nil_append] | simp [Aa,V.fz,fzL,V.up,upL,Ab,Ac,Ad,slr]) (by first | rfl | simp only [Aa,V.fz,fzL,V.up,upL,Ab,Ac,Ad,slr,List.cons_append,List.nil_append] | simp [Aa,V.fz,fzL,V.up,upL,Ab,Ac,Ad,slr]) h fun h=> ?_
  conv=>whnf
  refine Ask.o h fun p4 h=> ?_
  conv=>whnf
  cases h;exact ⟨rfl,rfl⟩
 conv=>whnf
 cases h;exact ⟨rfl,rfl⟩
noncomputable def Do (r0:SRelation) (f0:(List Int)):Option SRelation:=
 (Ao (B8 r0 f0) ((0:Int),Au (List Int))).bind fun q5_5=>
 (Gv (r0.Arity) (q5_5)).bind fun r6=>
 some r6
theorem Ym {r0:SRelation} {f0:(List Int)} {v:SRelation} (h:Do r0 f0=some v):Ret Tryz.prog Jb [(Ai false) r0,(slr false 1 Ae) f0] ((Ai false) v):=by
 refine Uw Yt (Nat.le_of_ble_eq_true rfl) ?_
 unfold Do at h
 conv=>whnf
 refine BslQ.o (slr true 1 Ae) (Au (List Int)) (by exact fun _=>⟨rfl,rfl⟩) (by first | rfl | (simp only [Aa,V.fz,fzL,V.up,upL,Ab,Ac,Ad,slr,List.cons_append,List.nil_append];done) | simp [Aa,V.fz,fzL,V.up,upL,Ab,Ac,Ad,slr]) ?_
 conv=>whnf
 refine Cells.lit rfl rfl ?_
 conv=>whnf
 refine Len.map ?_
 conv=>whnf
 refine LoopQ.o [12,11,10,5,4,2,1] (Gy r0 f0) (K8 r0 f0) h (fun s o h=>T7 s o h) (by first | rfl | simp [restrict,look,Aa,V.fz,fzL,V.up,upL,Ab,Ac,Ad,slr]) (fun _=>rfl) ?_
 rintro q5_5 h
 try dsimp only at h
 conv=>whnf
 refine FrzQ.d (V.sl false (1:Nat) (List.map (slr false (1:Nat) Ae) q5_5)) (by first | (simp only [slr];done) | (simp [Am,V.fz,Ab,slr];done) | (simp [Am,V.fz,fzL,Ab,slr];done)) ?_
 conv=>whnf
 refine Cells.lit rfl rfl ?_
 conv=>whnf
 refine CallQ.o (Ai false) (by first | rfl | simp only [Aa,V.fz,fzL,V.up,upL,Ab,Ac,Ad,slr,List.cons_append,List.nil_append] | simp [Aa,V.fz,fzL,V.up,upL,Ab,Ac,Ad,slr]) h (fun r h=>Zn h) (fun r6 h=> ?_)
 conv=>whnf
 refine SetKids.lit rfl ?_
 conv=>whnf
 cases h;exact (by first | rfl | simp only [Ah,Aa,V.fz,fzL,V.up,upL,Ab,Ac,Ad,slr] | simp [Ah,Aa,V.fz,fzL,V.up,upL,Ab,Ac,Ad,slr])
end Go.Proofs.YtjcekpmojnnmbaaGreat.Ax
