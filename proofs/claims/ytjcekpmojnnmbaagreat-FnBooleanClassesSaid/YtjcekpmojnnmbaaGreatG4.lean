/-
 What the functions compute, as functions on plain data, and that the program does compute it; written by program.
-/
import Derived.Test.YtjcekpmojnnmbaaGreatCode
import Derived.Test.YtjcekpmojnnmbaaGreatG1
import Derived.Test.YtjcekpmojnnmbaaGreatG2
import Derived.Test.YtjcekpmojnnmbaaGreatG3
namespace Go.Proofs.YtjcekpmojnnmbaaGreat.Ax
open Go
set_option maxRecDepth 100000
set_option maxHeartbeats 4000000
noncomputable def G0 (a0:SAlgebra):(Int×Int)→Option ((Int×Int) ⊕ Int):=fun (x4,x3)=>
 if x4<(↑a0.Ops.length:Int) then
 ask ((0:Int)≤x4∧x4<(↑a0.Ops.length:Int)) <|
 (J6 (x3) ((nth a0.Ops x4.toNat).Arity)).bind fun r3=>
 ask (InI (x4+(1:Int))) <|
 some (.inl (x4+(1:Int),r3))
 else
 some (.inr x3)
def M0 (a0:SAlgebra):(Int×Int)→St:=fun s=>[(4,A.val (Ae s.1)),(3,A.val (Ae s.2)),(1,A.val ((rP true (A8 false)) (a0)))]
def U5 (_a0:SAlgebra):Int→Tgt
 | s=>((Ex.exit 0),[3],[(3,A.val (Ae s))])
theorem Afh {a0:SAlgebra} (s:(Int×Int)) (o:(Int×Int) ⊕ Int) (h:G0 a0 s=some o):vc Tryz.prog Uh (Dc [4,3,1] (M0 a0) (U5 a0) o) (M0 a0 s):=by
 obtain ⟨x4,x3⟩:=s
 unfold G0 at h
 try dsimp only at h
 conv=>whnf
 refine Cells.lit rfl rfl ?_
 conv=>whnf
 refine Len.map ?_
 conv=>whnf
 refine Br.od h (fun p1 h=> ?_) (fun p1 h=> ?_)
 ·conv=>whnf
  refine Cells.lit rfl rfl ?_
  conv=>whnf
  refine Len.map ?_
  conv=>whnf
  refine Ask.o h fun p2 h=> ?_
  conv=>whnf
  refine Elem.o (by first | omega | (simp [Be] at * <;> omega)) ?_
  conv=>whnf
  refine CallQ.o Ae (by first | rfl | simp only [Aa,V.fz,fzL,V.up,upL,Ab,Ac,Ad,slr,List.cons_append,List.nil_append] | simp [Aa,V.fz,fzL,V.up,upL,Ab,Ac,Ad,slr]) h (fun r h=>Amf h) (fun r3 h=> ?_)
  conv=>whnf
  refine Ask.o h fun p4 h=> ?_
  conv=>whnf
  cases h;exact ⟨rfl,rfl⟩
 conv=>whnf
 cases h;exact ⟨rfl,rfl⟩
noncomputable def Kh (a0:SAlgebra):Option Int:=
 (Ao (G0 a0) ((0:Int),(0:Int))).bind fun q5_3=>
 if q5_3=(3:Int) then
 some (40:Int)
 else
 if q5_3=(2:Int) then
 some (200:Int)
 else
 some (300:Int)
theorem Akp {a0:SAlgebra} {v:Int} (h:Kh a0=some v):Ret Tryz.prog S9 [(A8 false) a0] (Ae v):=by
 refine A5 Alf (Nat.le_of_ble_eq_true rfl) ?_
 unfold Kh at h
 conv=>whnf
 refine LoopQ.o [4,3,1] (M0 a0) (U5 a0) h (fun s o h=>Afh s o h) (by first | rfl | simp [restrict,look,Aa,V.fz,fzL,V.up,upL,Ab,Ac,Ad,slr]) (fun _=>rfl) ?_
 rintro q5_3 h
 try dsimp only at h
 conv=>whnf
 refine Br.oe h (fun p6 h=> ?_) (fun p6 h=> ?_)
 ·conv=>whnf
  cases h;exact (by first | rfl | simp only [Ah,Aa,V.fz,fzL,V.up,upL,Ab,Ac,Ad,slr] | simp [Ah,Aa,V.fz,fzL,V.up,upL,Ab,Ac,Ad,slr])
 conv=>whnf
 refine Br.oe h (fun p7 h=> ?_) (fun p7 h=> ?_)
 ·conv=>whnf
  cases h;exact (by first | rfl | simp only [Ah,Aa,V.fz,fzL,V.up,upL,Ab,Ac,Ad,slr] | simp [Ah,Aa,V.fz,fzL,V.up,upL,Ab,Ac,Ad,slr])
 conv=>whnf
 cases h;exact (by first | rfl | simp only [Ah,Aa,V.fz,fzL,V.up,upL,Ab,Ac,Ad,slr] | simp [Ah,Aa,V.fz,fzL,V.up,upL,Ab,Ac,Ad,slr])
noncomputable def G1 (n0:Int):(Int×(List Int))→Option ((Int×(List Int)) ⊕ ((List Int) ⊕ (List Int))):=fun (x7,x6)=>
 if x7≥(0:Int) then
 ask ((0:Int)≤x7∧x7<(↑x6.length:Int)) <|
 ask (InI (n0-(1:Int))) <|
 if nth x6 x7.toNat<n0-(1:Int) then
 ask ((0:Int)≤x7∧x7<(↑x6.length:Int)) <|
 ask (InI (nth x6 x7.toNat+(1:Int))) <|
 ask ((0:Int)≤x7∧x7<(↑x6.length:Int)) <|
 some (.inr (.inl (x6.set x7.toNat (nth x6 x7.toNat+(1:Int)))))
 else
 ask ((0:Int)≤x7∧x7<(↑x6.length:Int)) <|
 ask (InI (x7-(1:Int))) <|
 some (.inl (x7-(1:Int),x6.set x7.toNat (0:Int)))
 else
 some (.inr (.inr x6))
def Mw (n0:Int):(Int×(List Int))→St:=fun s=>[(7,A.val (Ae s.1)),(6,A.val ((slr true 1 Ae) s.2)),(1,A.val (Ae (n0)))]
def Ux (_n0:Int):((List Int) ⊕ (List Int))→Tgt
 | (.inl s)=>(Ex.ret,[5,4],[(5,A.val (V.bool (true))),(4,A.val ((slr true 1 Ae) s))])
 | (.inr s)=>((Ex.exit 0),[6],[(6,A.val ((slr true 1 Ae) s))])
theorem Ad9 {n0:Int} (s:(Int×(List Int))) (o:(Int×(List Int)) ⊕ ((List Int) ⊕ (List Int))) (h:G1 n0 s=some o):vc Tryz.prog U4 (Dc [7,6,1] (Mw n0) (Ux n0) o) (Mw n0 s):=by
 obtain ⟨x7,x6⟩:=s
 unfold G1 at h
 try dsimp only at h
 conv=>whnf
 refine Br.od h (fun p3 h=> ?_) (fun p3 h=> ?_)
 ·conv=>whnf
  refine Len.map ?_
  conv=>whnf
  refine Ask.o h fun p4 h=> ?_
  conv=>whnf
  refine Cells.one (fun _=>⟨rfl,rfl⟩) (by first | omega | (simp [Be] at * <;> omega)) ?_
  conv=>whnf
  refine Ask.o h fun p5 h=> ?_
  conv=>whnf
  refine Br.od h (fun p6 h=> ?_) (fun p6 h=> ?_)
  ·conv=>whnf
   refine Len.map ?_
   conv=>whnf
   refine Ask.o h fun p7 h=> ?_
   conv=>whnf
   refine Cells.one (fun _=>⟨rfl,rfl⟩) (by first | omega | (simp [Be] at * <;> omega)) ?_
   conv=>whnf
   refine Ask.o h fun p8 h=> ?_
   conv=>whnf
   refine Len.map ?_
   conv=>whnf
   refine Ask.o h fun p9 h=> ?_
   conv=>whnf
   refine SetKids.one (fun _=>⟨rfl,rfl⟩) (nth x6 x7.toNat+(1:Int)) (by first | rfl | simp only [Aa,V.fz,fzL,V.up,upL,Ab,Ac,Ad,slr,List.cons_append,List.nil_append] | simp [Aa,V.fz,fzL,V.up,upL,Ab,Ac,Ad,slr]) (by first | omega | (simp [Be] at * <;> omega)) ?_
   conv=>whnf
   cases h;exact ⟨rfl,rfl⟩
  conv=>whnf
  refine Len.map ?_
  conv=>whnf
  refine Ask.o h fun p10 h=> ?_
  conv=>whnf
  refine SetKids.one (fun _=>⟨rfl,rfl⟩) ((0:Int)) (by first | rfl | simp only [Aa,V.fz,fzL,V.up,upL,Ab,Ac,Ad,slr,List.cons_append,List.nil_append] | simp [Aa,V.fz,fzL,V.up,upL,Ab,Ac,Ad,slr]) (by first | omega | (simp [Be] at * <;> omega)) ?_
  conv=>whnf
  refine Ask.o h fun p11 h=> ?_
  conv=>whnf
  cases h;exact ⟨rfl,rfl⟩
 conv=>whnf
 cases h;exact ⟨rfl,rfl⟩
noncomputable def Fc (list0:(List Int)) (n0:Int):Option ((List Int)×Bool):=
 (Jn (list0)).bind fun r1=>
 ask (InI ((↑r1.length:Int)-(1:Int))) <|
 (Ao (G1 n0) ((↑r1.length:Int)-(1:Int),r1)).bind fun t=>match t with
 | (.inl q12_4)=>(some (q12_4,true))
 | (.inr q12_6)=>(some (q12_6,false))
theorem Aae {list0:(List Int)} {n0:Int} {v:((List Int)×Bool)} (h:Fc list0 n0=some v):Ret Tryz.prog Ng [(slr false 1 Ae) list0,Ae n0] ((fun r=>V.tup [(slr true 1 Ae) r.1,V.bool r.2]) v):=by
 refine A5 Ala (Nat.le_of_ble_eq_true rfl) ?_
 unfold Fc at h
 conv=>whnf
 refine CallQ.o (slr true 1 Ae) (by first | rfl | simp only [Aa,V.fz,fzL,V.up,upL,Ab,Ac,Ad,slr,List.cons_append,List.nil_append] | simp [Aa,V.fz,fzL,V.up,upL,Ab,Ac,Ad,slr]) h (fun r h=>Ad3 h) (fun r1 h=> ?_)
 conv=>whnf
 refine Len.map ?_
 conv=>whnf
 refine Ask.o h fun p2 h=> ?_
 conv=>whnf
 refine LoopQ.o [7,6,1] (Mw n0) (Ux n0) h (fun s o h=>Ad9 s o h) (by first | rfl | simp [restrict,look,Aa,V.fz,fzL,V.up,upL,Ab,Ac,Ad,slr]) (by rintro (_ | _)<;>rfl) ?_
 rintro (q12_4 | q12_6) h
 ·try dsimp only at h
  conv=>whnf
  cases h;exact (by first | rfl | simp only [Ah,Aa,V.fz,fzL,V.up,upL,Ab,Ac,Ad,slr] | simp [Ah,Aa,V.fz,fzL,V.up,upL,Ab,Ac,Ad,slr])
 try dsimp only at h
 conv=>whnf
 cases h;exact (by first | rfl | simp only [Ah,Aa,V.fz,fzL,V.up,upL,Ab,Ac,Ad,slr] | simp [Ah,Aa,V.fz,fzL,V.up,upL,Ab,Ac,Ad,slr])
noncomputable def Cu (n0:Int) (list0:List Int):Int→Option (Int ⊕ (Unit ⊕ Unit)):=fun x5=>
 if x5<(↑list0.length:Int) then
 ask ((0:Int)≤x5∧x5<(↑list0.length:Int)) <|
 ask (InI (n0-(1:Int))) <|
 (Fb (nth list0 x5.toNat) ((0:Int)) (n0-(1:Int))).bind fun r4=>
 if (r4)=true then
 ask (InI (x5+(1:Int))) <|
 some (.inl (x5+(1:Int)))
 else
 some (.inr (.inl ()))
 else
 some (.inr (.inr ()))
def I2 (n0:Int) (list0:List Int):Int→St:=fun s=>[(5,A.val (Ae s)),(0,A.val (Ae (n0))),(1,A.val ((slr false 1 Ae) (list0)))]
def N9 (_n0:Int) (_list0:List Int):(Unit ⊕ Unit)→Tgt
 | (.inl _s)=>(Ex.ret,[4],[(4,A.val (V.bool (false)))])
 | (.inr _s)=>((Ex.exit 0),[],[])
theorem X8 {n0:Int} {list0:List Int} (x5:Int) (o:Int ⊕ (Unit ⊕ Unit)) (h:Cu n0 list0 x5=some o):vc Tryz.prog Nt (Dc [5,0,1] (I2 n0 list0) (N9 n0 list0) o) (I2 n0 list0 x5):=by
 unfold Cu at h
 try dsimp only at h
 conv=>whnf
 refine Len.map ?_
 conv=>whnf
 refine Br.od h (fun p1 h=> ?_) (fun p1 h=> ?_)
 ·conv=>whnf
  refine Len.map ?_
  conv=>whnf
  refine Ask.o h fun p2 h=> ?_
  conv=>whnf
  refine Elem.o (by first | omega | (simp [Be] at * <;> omega)) ?_
  conv=>whnf
  refine Ask.o h fun p3 h=> ?_
  conv=>whnf
  refine CallQ.o V.bool (by first | rfl | simp only [Aa,V.fz,fzL,V.up,upL,Ab,Ac,Ad,slr,List.cons_append,List.nil_append] | simp [Aa,V.fz,fzL,V.up,upL,Ab,Ac,Ad,slr]) h (fun r h=>Lc h) (fun r4 h=> ?_)
  conv=>whnf
  refine Br.flip ?_
  conv=>whnf
  refine Br.ob h (fun p5 h=> ?_) (fun p5 h=> ?_)
  ·conv=>whnf
   refine Ask.o h fun p6 h=> ?_
   conv=>whnf
   cases h;exact ⟨rfl,rfl⟩
  conv=>whnf
  cases h;exact ⟨rfl,rfl⟩
 conv=>whnf
 cases h;exact ⟨rfl,rfl⟩
noncomputable def Eo (n0:Int) (list0:(List Int)):Option Bool:=
 (Ao (Cu n0 list0) (0:Int)).bind fun t=>match t with
 | (.inl _)=>(some false)
 | (.inr _)=>(some true)
theorem R4 {n0:Int} {list0:(List Int)} {v:Bool} (h:Eo n0 list0=some v):Ret Tryz.prog Id [Ae n0,(slr false 1 Ae) list0] (V.bool v):=by
 refine A5 Acc (Nat.le_of_ble_eq_true rfl) ?_
 unfold Eo at h
 conv=>whnf
 refine LoopQ.o [5,0,1] (I2 n0 list0) (N9 n0 list0) h (fun s o h=>X8 s o h) (by first | rfl | simp [restrict,look,Aa,V.fz,fzL,V.up,upL,Ab,Ac,Ad,slr]) (by rintro (_ | _)<;>rfl) ?_
 rintro (⟨⟩ | ⟨⟩) h
 ·try dsimp only at h
  conv=>whnf
  cases h;exact (by first | rfl | simp only [Ah,Aa,V.fz,fzL,V.up,upL,Ab,Ac,Ad,slr] | simp [Ah,Aa,V.fz,fzL,V.up,upL,Ab,Ac,Ad,slr])
 try dsimp only at h
 conv=>whnf
 cases h;exact (by first | rfl | simp only [Ah,Aa,V.fz,fzL,V.up,upL,Ab,Ac,Ad,slr] | simp [Ah,Aa,V.fz,fzL,V.up,upL,Ab,Ac,Ad,slr])
noncomputable def C4 (rows0:List (List Int)):(Int×(List (List Int)))→Option ((Int×(List (List Int))) ⊕ (List (List Int))):=fun (x9,x3)=>
 if x9<(↑rows0.length:Int) then
 ask ((0:Int)≤x9∧x9<(↑rows0.length:Int)) <|
 if x9=(0:Int) then
 ask ((x3).length+([nth rows0 x9.toNat]).length≤LIM) <|
 ask (InI (x9+(1:Int))) <|
 some (.inl (x9+(1:Int),x3++[nth rows0 x9.toNat]))
 else
 ask (InI (x9-(1:Int))) <|
 ask ((0:Int)≤x9-(1:Int)∧x9-(1:Int)<(↑rows0.length:Int)) <|
 (Fy (nth rows0 (x9-(1:Int)).toNat) (nth rows0 x9.toNat)).bind fun r7=>
 if (r7)=true then
 ask (InI (x9+(1:Int))) <|
 some (.inl (x9+(1:Int),x3))
 else
 ask ((x3).length+([nth rows0 x9.toNat]).length≤LIM) <|
 ask (InI (x9+(1:Int))) <|
 some (.inl (x9+(1:Int),x3++[nth rows0 x9.toNat]))
 else
 some (.inr x3)
def Ju (rows0:List (List Int)):(Int×(List (List Int)))→St:=fun s=>[(9,A.val (Ae s.1)),(8,A.val (Ae ((↑rows0.length:Int)))),(7,A.val ((slr false 1 (slr false 1 Ae)) (rows0))),(3,A.val ((slr true 1 (slr false 1 Ae)) s.2)),(0,A.val ((slr false 1 (slr false 1 Ae)) (rows0)))]
def Pg (_rows0:List (List Int)):(List (List Int))→Tgt
 | s=>((Ex.exit 0),[3],[(3,A.val ((slr true 1 (slr false 1 Ae)) s))])
theorem Zp {rows0:List (List Int)} (s:(Int×(List (List Int)))) (o:(Int×(List (List Int))) ⊕ (List (List Int))) (h:C4 rows0 s=some o):vc Tryz.prog Pc (Dc [9,8,7,3,0] (Ju rows0) (Pg rows0) o) (Ju rows0 s):=by
 obtain ⟨x9,x3⟩:=s
 unfold C4 at h
 try dsimp only at h
 conv=>whnf
 refine Br.od h (fun p1 h=> ?_) (fun p1 h=> ?_)
 ·conv=>whnf
  refine Len.map ?_
  conv=>whnf
  refine Ask.o h fun p2 h=> ?_
  conv=>whnf
  refine Elem.o (by first | omega | (simp [Be] at * <;> omega)) ?_
  conv=>whnf
  refine Br.oe h (fun p3 h=> ?_) (fun p3 h=> ?_)
  ·conv=>whnf
   refine Br.yes ?_
   conv=>whnf
   refine Br.yes ?_
   conv=>whnf
   refine Br.yes ?_
   conv=>whnf
   refine Br.yes ?_
   conv=>whnf
   refine Br.yes ?_
   conv=>whnf
   refine Br.yes ?_
   conv=>whnf
   refine Br.yes ?_
   conv=>whnf
   refine Br.yes ?_
   conv=>whnf
   refine Br.yes ?_
   conv=>whnf
   refine BslQ.o (slr false 1 Ae) ([nth rows0 x9.toNat]) (by exact fun _=>⟨rfl,rfl⟩) (by first | rfl | (simp only [Aa,V.fz,fzL,V.up,upL,Ab,Ac,Ad,slr,List.cons_append,List.nil_append];done) | simp [Aa,V.fz,fzL,V.up,upL,Ab,Ac,Ad,slr]) ?_
   conv=>whnf
   refine NoOwn.o (fun _=>rfl) ?_
   conv=>whnf
   refine AppQ.o (m:=1) (slr false 1 Ae) (by exact fun _=>⟨rfl,rfl⟩) (x3) ([nth rows0 x9.toNat]) (by first | rfl | simp only [Aa,V.fz,fzL,V.up,upL,Ab,Ac,Ad,slr,List.cons_append,List.nil_append] | simp [Aa,V.fz,fzL,V.up,upL,Ab,Ac,Ad,slr]) (by first | rfl | simp only [Aa,V.fz,fzL,V.up,upL,Ab,Ac,Ad,slr,List.cons_append,List.nil_append] | simp [Aa,V.fz,fzL,V.up,upL,Ab,Ac,Ad,slr]) h fun h=> ?_
   conv=>whnf
   refine Ask.o h fun p4 h=> ?_
   conv=>whnf
   cases h;exact ⟨rfl,rfl⟩
  conv=>whnf
  refine Br.no ?_
  conv=>whnf
  refine Br.no ?_
  conv=>whnf
  refine Ask.o h fun p5 h=> ?_
  conv=>whnf
  refine Br.no ?_
  conv=>whnf
  refine Len.map ?_
  conv=>whnf
  refine Ask.o h fun p6 h=> ?_
  conv=>whnf
  refine Elem.o (by first | omega | (simp [Be] at * <;> omega)) ?_
  conv=>whnf
  refine Br.no ?_
  conv=>whnf
  refine Br.no ?_
  conv=>whnf
  refine Br.no ?_
  conv=>whnf
  refine CallQ.o V.bool (by first | rfl | simp only [Aa,V.fz,fzL,V.up,upL,Ab,Ac,Ad,slr,List.cons_append,List.nil_append] | simp [Aa,V.fz,fzL,V.up,upL,Ab,Ac,Ad,slr]) h (fun r h=>Wi h) (fun r7 h=> ?_)
  conv=>whnf
  refine Br.no ?_
  conv=>whnf
  refine Br.no ?_
  conv=>whnf
  refine Br.flip ?_
  conv=>whnf
  refine Br.ob h (fun p8 h=> ?_) (fun p8 h=> ?_)
  ·conv=>whnf
   refine Ask.o h fun p9 h=> ?_
   conv=>whnf
   cases h;exact ⟨rfl,rfl⟩
  conv=>whnf
  refine BslQ.o (slr false 1 Ae) ([nth rows0 x9.toNat]) (by exact fun _=>⟨rfl,rfl⟩) (by first | rfl | (simp only [Aa,V.fz,fzL,V.up,upL,Ab,Ac,Ad,slr,List.cons_append,List.nil_append];done) | simp [Aa,V.fz,fzL,V.up,upL,Ab,Ac,Ad,slr]) ?_
  conv=>whnf
  refine NoOwn.o (fun _=>rfl) ?_
  conv=>whnf
  refine AppQ.o (m:=1) (slr false 1 Ae) (by exact fun _=>⟨rfl,rfl⟩) (x3) ([nth rows0 x9.toNat]) (by first | rfl | simp only [Aa,V.fz,fzL,V.up,upL,Ab,Ac,Ad,slr,List.cons_append,List.nil_append] | simp [Aa,V.fz,fzL,V.up,upL,Ab,Ac,Ad,slr]) (by first | rfl | simp only [Aa,V.fz,fzL,V.up,upL,Ab,Ac,Ad,slr,List.cons_append,List.nil_append] | simp [Aa,V.fz,fzL,V.up,upL,Ab,Ac,Ad,slr]) h fun h=> ?_
  conv=>whnf
  refine Ask.o h fun p10 h=> ?_
  conv=>whnf
  cases h;exact ⟨rfl,rfl⟩
 conv=>whnf
 cases h;exact ⟨rfl,rfl⟩
noncomputable def Ha (rows0:(List (List Int))):Option (List (List Int)):=
 (Ao (C4 rows0) ((0:Int),Au (List Int))).bind fun q11_3=>
 some q11_3
theorem Aeq {rows0:(List (List Int))} {v:(List (List Int))} (h:Ha rows0=some v):Ret Tryz.prog Mz [(slr false 1 (slr false 1 Ae)) rows0] ((slr true 1 (slr false 1 Ae)) v):=by
 refine A5 Aeg (Nat.le_of_ble_eq_true rfl) ?_
 unfold Ha at h
 conv=>whnf
 refine BslQ.o (slr true 1 Ae) (Au (List Int)) (by exact fun _=>⟨rfl,rfl⟩) (by first | rfl | (simp only [Aa,V.fz,fzL,V.up,upL,Ab,Ac,Ad,slr,List.cons_append,List.nil_append];done) | simp [Aa,V.fz,fzL,V.up,upL,Ab,Ac,Ad,slr]) ?_
 conv=>whnf
 refine Len.map ?_
 conv=>whnf
 refine LoopQ.o [9,8,7,3,0] (Ju rows0) (Pg rows0) h (fun s o h=>Zp s o h) (by first | rfl | simp [restrict,look,Aa,V.fz,fzL,V.up,upL,Ab,Ac,Ad,slr]) (fun _=>rfl) ?_
 rintro q11_3 h
 try dsimp only at h
 conv=>whnf
 cases h;exact (by first | rfl | simp only [Ah,Aa,V.fz,fzL,V.up,upL,Ab,Ac,Ad,slr] | simp [Ah,Aa,V.fz,fzL,V.up,upL,Ab,Ac,Ad,slr])
noncomputable def Jg (n0:Int) (op0:SOp) (tuples0:(List (List Int))) (arity0:Int):Option (List Int):=
 (Ff ({ Size:=n0,Ops:=[op0] }) ((0:Int)) (tuples0) (arity0)).bind fun r1=>
 some r1
theorem Aef {n0:Int} {op0:SOp} {tuples0:(List (List Int))} {arity0:Int} {v:(List Int)} (h:Jg n0 op0 tuples0 arity0=some v):Ret Tryz.prog My [Ae n0,(Co false) op0,(slr false 1 (slr false 1 Ae)) tuples0,Ae arity0] ((slr true 1 Ae) v):=by
 refine A5 Afo (Nat.le_of_ble_eq_true rfl) ?_
 unfold Jg at h
 conv=>whnf
 refine Cells.lit rfl rfl ?_
 conv=>whnf
 refine BslQ.o (Co false) [op0] (by exact fun _=>⟨rfl,rfl⟩) (by first | rfl | (simp only [Aa,V.fz,fzL,V.up,upL,Ab,Ac,Ad,slr,List.cons_append,List.nil_append];done) | simp [Aa,V.fz,fzL,V.up,upL,Ab,Ac,Ad,slr]) ?_
 conv=>whnf
 refine CallQ.rd (slr true 1 Ae) (by first | rfl | simp only [Aa,V.fz,fzL,V.up,upL,Ab,Ac,Ad,slr,List.cons_append,List.nil_append] | simp [Aa,V.fz,fzL,V.up,upL,Ab,Ac,Ad,slr]) (fun _=>by simp [V.noFz,Cd]) h (fun r h=>Qm h) (fun r1 h=> ?_)
 conv=>whnf
 cases h;exact (by first | rfl | simp only [Ah,Aa,V.fz,fzL,V.up,upL,Ab,Ac,Ad,slr] | simp [Ah,Aa,V.fz,fzL,V.up,upL,Ab,Ac,Ad,slr])
noncomputable def C2 (rows0:List (List Int)):(Int×(List (List Int)))→Option ((Int×(List (List Int))) ⊕ (List (List Int))):=fun (x9,x3)=>
 if x9<(↑rows0.length:Int) then
 ask ((0:Int)≤x9∧x9<(↑rows0.length:Int)) <|
 (Jk (nth rows0 x9.toNat)).bind fun r3=>
 ask ((x3).length+([r3]).length≤LIM) <|
 ask (InI (x9+(1:Int))) <|
 some (.inl (x9+(1:Int),x3++[r3]))
 else
 some (.inr x3)
def Jv (rows0:List (List Int)):(Int×(List (List Int)))→St:=fun s=>[(9,A.val (Ae s.1)),(8,A.val (Ae ((↑rows0.length:Int)))),(7,A.val ((slr false 1 (slr false 1 Ae)) (rows0))),(3,A.val ((slr true 1 (slr true 1 Ae)) s.2))]
def O6 (_rows0:List (List Int)):(List (List Int))→Tgt
 | s=>((Ex.exit 0),[3],[(3,A.val ((slr true 1 (slr true 1 Ae)) s))])
theorem Zo {rows0:List (List Int)} (s:(Int×(List (List Int)))) (o:(Int×(List (List Int))) ⊕ (List (List Int))) (h:C2 rows0 s=some o):vc Tryz.prog Pb (Dc [9,8,7,3] (Jv rows0) (O6 rows0) o) (Jv rows0 s):=by
 obtain ⟨x9,x3⟩:=s
 unfold C2 at h
 try dsimp only at h
 conv=>whnf
 refine Br.od h (fun p1 h=> ?_) (fun p1 h=> ?_)
 ·conv=>whnf
  refine Len.map ?_
  conv=>whnf
  refine Ask.o h fun p2 h=> ?_
  conv=>whnf
  refine Elem.o (by first | omega | (simp [Be] at * <;> omega)) ?_
  conv=>whnf
  refine CallQ.o (slr true 1 Ae) (by first | rfl | simp only [Aa,V.fz,fzL,V.up,upL,Ab,Ac,Ad,slr,List.cons_append,List.nil_append] | simp [Aa,V.fz,fzL,V.up,upL,Ab,Ac,Ad,slr]) h (fun r h=>Adn h) (fun r3 h=> ?_)
  conv=>whnf
  refine BslQ.o (slr true 1 Ae) [r3] (by exact fun _=>⟨rfl,rfl⟩) (by first | rfl | (simp only [Aa,V.fz,fzL,V.up,upL,Ab,Ac,Ad,slr,List.cons_append,List.nil_append];done) | simp [Aa,V.fz,fzL,V.up,upL,Ab,Ac,Ad,slr]) ?_
  conv=>whnf
  refine NoOwn.own rfl ?_
  conv=>whnf
  refine AppQ.o (m:=1) (slr true 1 Ae) (by exact fun _=>⟨rfl,rfl⟩) (x3) ([r3]) (by first | rfl | simp only [Aa,V.fz,fzL,V.up,upL,Ab,Ac,Ad,slr,List.cons_append,List.nil_append] | simp [Aa,V.fz,fzL,V.up,upL,Ab,Ac,Ad,slr]) (by first | rfl | simp only [Aa,V.fz,fzL,V.up,upL,Ab,Ac,Ad,slr,List.cons_append,List.nil_append] | simp [Aa,V.fz,fzL,V.up,upL,Ab,Ac,Ad,slr]) h fun h=> ?_
  conv=>whnf
  refine Ask.o h fun p4 h=> ?_
  conv=>whnf
  cases h;exact ⟨rfl,rfl⟩
 conv=>whnf
 cases h;exact ⟨rfl,rfl⟩
noncomputable def Gz (rows0:(List (List Int))):Option (List (List Int)):=
 (Ao (C2 rows0) ((0:Int),Au (List Int))).bind fun q5_3=>
 some q5_3
theorem Aec {rows0:(List (List Int))} {v:(List (List Int))} (h:Gz rows0=some v):Ret Tryz.prog Mx [(slr false 1 (slr false 1 Ae)) rows0] ((slr true 1 (slr true 1 Ae)) v):=by
 refine A5 Afp (Nat.le_of_ble_eq_true rfl) ?_
 unfold Gz at h
 conv=>whnf
 refine BslQ.o (slr true 1 Ae) (Au (List Int)) (by exact fun _=>⟨rfl,rfl⟩) (by first | rfl | (simp only [Aa,V.fz,fzL,V.up,upL,Ab,Ac,Ad,slr,List.cons_append,List.nil_append];done) | simp [Aa,V.fz,fzL,V.up,upL,Ab,Ac,Ad,slr]) ?_
 conv=>whnf
 refine Len.map ?_
 conv=>whnf
 refine LoopQ.o [9,8,7,3] (Jv rows0) (O6 rows0) h (fun s o h=>Zo s o h) (by first | rfl | simp [restrict,look,Aa,V.fz,fzL,V.up,upL,Ab,Ac,Ad,slr]) (fun _=>rfl) ?_
 rintro q5_3 h
 try dsimp only at h
 conv=>whnf
 cases h;exact (by first | rfl | simp only [Ah,Aa,V.fz,fzL,V.up,upL,Ab,Ac,Ad,slr] | simp [Ah,Aa,V.fz,fzL,V.up,upL,Ab,Ac,Ad,slr])
noncomputable def Cs (_n0:Int) (_op0:SOp) (r0:SRelation) (_r1:List (ByteArray×Bool)) (_x13:Int) (_x12:List Int):(Int×Int×(List Int))→Option ((Int×Int×(List Int)) ⊕ (List Int)):=fun (x15,x14,x11')=>
 if x15≥(0:Int) then
 ask ((↑r0.Tuples.length:Int)≠(0:Int)) <|
 ask ((0:Int)≤x15∧x15<(↑x11'.length:Int)) <|
 ask ((↑r0.Tuples.length:Int)≠(0:Int)∧InI (x14.tdiv (↑r0.Tuples.length:Int))) <|
 ask (InI (x15-(1:Int))) <|
 some (.inl (x15-(1:Int),x14.tdiv (↑r0.Tuples.length:Int),x11'.set x15.toNat (x14.tmod (↑r0.Tuples.length:Int))))
 else
 some (.inr x11')
def Iy (n0:Int) (op0:SOp) (r0:SRelation) (r1:List (ByteArray×Bool)) (x13:Int) (x12:List Int):(Int×Int×(List Int))→St:=fun s=>[(15,A.val (Ae s.1)),(14,A.val (Ae s.2.1)),(13,A.val (Ae (x13))),(12,A.val ((slr true 1 Ae) (x12))),(11,A.val ((slr true 1 Ae) s.2.2)),(10,A.val (Ae ((↑r0.Tuples.length:Int)))),(9,A.val ((rMp true Lf.bool) (r1))),(5,A.val ((rP true (Ai false)) (r0))),(4,A.val ((rP true (Co false)) (op0))),(0,A.val (Ae (n0)))]
def Ny (n0:Int) (op0:SOp) (r0:SRelation) (r1:List (ByteArray×Bool)) (x13:Int) (x12:List Int):(List Int)→Tgt
 | s=>((Ex.exit 2),[13,12,11,10,9,5,4,0],[(13,A.val (Ae (x13))),(12,A.val ((slr true 1 Ae) (x12))),(11,A.val ((slr true 1 Ae) s)),(10,A.val (Ae ((↑r0.Tuples.length:Int)))),(9,A.val ((rMp true Lf.bool) (r1))),(5,A.val ((rP true (Ai false)) (r0))),(4,A.val ((rP true (Co false)) (op0))),(0,A.val (Ae (n0)))])
theorem Xo {n0:Int} {op0:SOp} {r0:SRelation} {r1:List (ByteArray×Bool)} {x13:Int} {x12:List Int} (s:(Int×Int×(List Int))) (o:(Int×Int×(List Int)) ⊕ (List Int)) (h:Cs n0 op0 r0 r1 x13 x12 s=some o):vc Tryz.prog N5 (Dc [15,14,13,12,11,10,9,5,4,0] (Iy n0 op0 r0 r1 x13 x12) (Ny n0 op0 r0 r1 x13 x12) o) (Iy n0 op0 r0 r1 x13 x12 s):=by
 obtain ⟨x15,x14,x11'⟩:=s
 unfold Cs at h
 try dsimp only at h
 conv=>whnf
 refine Br.od h (fun p7 h=> ?_) (fun p7 h=> ?_)
 ·conv=>whnf
  refine Ask.o h fun p8 h=> ?_
  conv=>whnf
  refine Len.map ?_
  conv=>whnf
  refine Ask.o h fun p9 h=> ?_
  conv=>whnf
  refine SetKids.one (fun _=>⟨rfl,rfl⟩) (x14.tmod (↑r0.Tuples.length:Int)) (by first | rfl | simp only [Aa,V.fz,fzL,V.up,upL,Ab,Ac,Ad,slr,List.cons_append,List.nil_append] | simp [Aa,V.fz,fzL,V.up,upL,Ab,Ac,Ad,slr]) (by first | omega | (simp [Be] at * <;> omega)) ?_
  conv=>whnf
  refine Ask.o h fun p10 h=> ?_
  conv=>whnf
  refine Ask.o h fun p11 h=> ?_
  conv=>whnf
  cases h;exact ⟨rfl,rfl⟩
 conv=>whnf
 cases h;exact ⟨rfl,rfl⟩
noncomputable def Dk (n0:Int) (_op0:SOp) (r0:SRelation) (_r1:List (ByteArray×Bool)) (_x13:Int) (_x12:List Int) (q12_11:List Int) (x58:Int) (_x12':List Int):(Int×Int)→Option ((Int×Int) ⊕ Int):=fun (x63,x17)=>
 if x63<(↑q12_11.length:Int) then
 ask ((0:Int)≤x63∧x63<(↑q12_11.length:Int)) <|
 ask (InI (x17*n0)) <|
 ask ((0:Int)≤nth q12_11 x63.toNat∧nth q12_11 x63.toNat<(↑r0.Tuples.length:Int)) <|
 ask ((0:Int)≤x58∧x58<(↑(nth r0.Tuples (nth q12_11 x63.toNat).toNat).length:Int)) <|
 ask (InI (x17*n0+nth (nth r0.Tuples (nth q12_11 x63.toNat).toNat) x58.toNat)) <|
 ask (InI (x63+(1:Int))) <|
 some (.inl (x63+(1:Int),x17*n0+nth (nth r0.Tuples (nth q12_11 x63.toNat).toNat) x58.toNat))
 else
 some (.inr x17)
def Iu (n0:Int) (op0:SOp) (r0:SRelation) (r1:List (ByteArray×Bool)) (x13:Int) (x12:List Int) (q12_11:List Int) (x58:Int) (x12':List Int):(Int×Int)→St:=fun s=>[(63,A.val (Ae s.1)),(62,A.val (Ae ((↑q12_11.length:Int)))),(61,A.ref 11 []),(17,A.val (Ae s.2)),(16,A.val (Ae (x58))),(58,A.val (Ae (x58))),(57,A.val (Ae ((↑x12.length:Int)))),(13,A.val (Ae (x13))),(12,A.val ((slr true 1 Ae) (x12'))),(11,A.val ((slr true 1 Ae) (q12_11))),(10,A.val (Ae ((↑r0.Tuples.length:Int)))),(9,A.val ((rMp true Lf.bool) (r1))),(5,A.val ((rP true (Ai false)) (r0))),(4,A.val ((rP true (Co false)) (op0))),(0,A.val (Ae (n0)))]
def N3 (n0:Int) (op0:SOp) (r0:SRelation) (r1:List (ByteArray×Bool)) (x13:Int) (x12:List Int) (q12_11:List Int) (x58:Int) (x12':List Int):Int→Tgt
 | s=>((Ex.exit 6),[17,16,58,57,13,12,11,10,9,5,4,0],[(17,A.val (Ae s)),(16,A.val (Ae (x58))),(58,A.val (Ae (x58))),(57,A.val (Ae ((↑x12.length:Int)))),(13,A.val (Ae (x13))),(12,A.val ((slr true 1 Ae) (x12'))),(11,A.val ((slr true 1 Ae) (q12_11))),(10,A.val (Ae ((↑r0.Tuples.length:Int)))),(9,A.val ((rMp true Lf.bool) (r1))),(5,A.val ((rP true (Ai false)) (r0))),(4,A.val ((rP true (Co false)) (op0))),(0,A.val (Ae (n0)))])
theorem Xt {n0:Int} {op0:SOp} {r0:SRelation} {r1:List (ByteArray×Bool)} {x13:Int} {x12:List Int} {q12_11:List Int} {x58:Int} {x12':List Int} (s:(Int×Int)) (o:(Int×Int) ⊕ Int) (h:Dk n0 op0 r0 r1 x13 x12 q12_11 x58 x12' s=some o):vc Tryz.prog N8 (Dc [63,62,61,17,16,58,57,13,12,11,10,9,5,4,0] (Iu n0 op0 r0 r1 x13 x12 q12_11 x58 x12') (N3 n0 op0 r0 r1 x13 x12 q12_11 x58 x12') o) (Iu n0 op0 r0 r1 x13 x12 q12_11 x58 x12' s):=by
 obtain ⟨x63,x17⟩:=s
 unfold Dk at h
 try dsimp only at h
 conv=>whnf
 refine Br.od h (fun p14 h=> ?_) (fun p14 h=> ?_)
 ·conv=>whnf
  refine Len.map ?_
  conv=>whnf
  refine Ask.o h fun p15 h=> ?_
  conv=>whnf
  refine Cells.one (fun _=>⟨rfl,rfl⟩) (by first | omega | (simp [Be] at * <;> omega)) ?_
  conv=>whnf
  refine Ask.o h fun p16 h=> ?_
  conv=>whnf
  refine Cells.lit rfl rfl ?_
  conv=>whnf
  refine Len.map ?_
  conv=>whnf
  refine Ask.o h fun p17 h=> ?_
  conv=>whnf
  refine Elem.o (by first | omega | (simp [Be] at * <;> omega)) ?_
  conv=>whnf
  refine Len.map ?_
  conv=>whnf
  refine Ask.o h fun p18 h=> ?_
  conv=>whnf
  refine Elem.o (by first | omega | (simp [Be] at * <;> omega)) ?_
  conv=>whnf
  refine Ask.o h fun p19 h=> ?_
  conv=>whnf
  refine Ask.o h fun p20 h=> ?_
  conv=>whnf
  cases h;exact ⟨rfl,rfl⟩
 conv=>whnf
 cases h;exact ⟨rfl,rfl⟩
noncomputable def Cc (n0:Int) (op0:SOp) (r0:SRelation) (r1:List (ByteArray×Bool)) (x13:Int) (x12:List Int) (q12_11:List Int):(Int×(List Int))→Option ((Int×(List Int)) ⊕ (List Int)):=fun (x58,x12')=>
 if x58<(↑x12.length:Int) then
 (Ao (Dk n0 op0 r0 r1 x13 x12 q12_11 x58 x12') ((0:Int),(0:Int))).bind fun q21_17=>
 ask ((0:Int)≤q21_17∧q21_17<(↑op0.Table.length:Int)) <|
 ask ((0:Int)≤x58∧x58<(↑x12'.length:Int)) <|
 ask (InI (x58+(1:Int))) <|
 some (.inl (x58+(1:Int),x12'.set x58.toNat (nth op0.Table q21_17.toNat)))
 else
 some (.inr x12')
def Ix (n0:Int) (op0:SOp) (r0:SRelation) (r1:List (ByteArray×Bool)) (x13:Int) (x12:List Int) (q12_11:List Int):(Int×(List Int))→St:=fun s=>[(58,A.val (Ae s.1)),(57,A.val (Ae ((↑x12.length:Int)))),(13,A.val (Ae (x13))),(12,A.val ((slr true 1 Ae) s.2)),(11,A.val ((slr true 1 Ae) (q12_11))),(10,A.val (Ae ((↑r0.Tuples.length:Int)))),(9,A.val ((rMp true Lf.bool) (r1))),(5,A.val ((rP true (Ai false)) (r0))),(4,A.val ((rP true (Co false)) (op0))),(0,A.val (Ae (n0)))]
def N1 (n0:Int) (op0:SOp) (r0:SRelation) (r1:List (ByteArray×Bool)) (x13:Int) (_x12:List Int) (q12_11:List Int):(List Int)→Tgt
 | s=>((Ex.exit 4),[13,12,11,10,9,5,4,0],[(13,A.val (Ae (x13))),(12,A.val ((slr true 1 Ae) s)),(11,A.val ((slr true 1 Ae) (q12_11))),(10,A.val (Ae ((↑r0.Tuples.length:Int)))),(9,A.val ((rMp true Lf.bool) (r1))),(5,A.val ((rP true (Ai false)) (r0))),(4,A.val ((rP true (Co false)) (op0))),(0,A.val (Ae (n0)))])
theorem Ys {n0:Int} {op0:SOp} {r0:SRelation} {r1:List (ByteArray×Bool)} {x13:Int} {x12:List Int} {q12_11:List Int} (s:(Int×(List Int))) (o:(Int×(List Int)) ⊕ (List Int)) (h:Cc n0 op0 r0 r1 x13 x12 q12_11 s=some o):vc Tryz.prog Nv (Dc [58,57,13,12,11,10,9,5,4,0] (Ix n0 op0 r0 r1 x13 x12 q12_11) (N1 n0 op0 r0 r1 x13 x12 q12_11) o) (Ix n0 op0 r0 r1 x13 x12 q12_11 s):=by
 obtain ⟨x58,x12'⟩:=s
 unfold Cc at h
 try dsimp only at h
 conv=>whnf
 refine Br.od h (fun p13 h=> ?_) (fun p13 h=> ?_)
 ·conv=>whnf
  refine Len.map ?_
  conv=>whnf
  refine LoopQ.o [63,62,61,17,16,58,57,13,12,11,10,9,5,4,0] (Iu n0 op0 r0 r1 x13 x12 q12_11 x58 x12') (N3 n0 op0 r0 r1 x13 x12 q12_11 x58 x12') h (fun s o h=>Xt s o h) (by first | rfl | simp [restrict,look,Aa,V.fz,fzL,V.up,upL,Ab,Ac,Ad,slr]) (fun _=>rfl) ?_
  rintro q21_17 h
  try dsimp only at h
  conv=>whnf
  refine Cells.lit rfl rfl ?_
  conv=>whnf
  refine Len.map ?_
  conv=>whnf
  refine Ask.o h fun p22 h=> ?_
  conv=>whnf
  refine Elem.o (by first | omega | (simp [Be] at * <;> omega)) ?_
  conv=>whnf
  refine Len.map ?_
  conv=>whnf
  refine Ask.o h fun p23 h=> ?_
  conv=>whnf
  refine SetKids.one (fun _=>⟨rfl,rfl⟩) (nth op0.Table q21_17.toNat) (by first | rfl | simp only [Aa,V.fz,fzL,V.up,upL,Ab,Ac,Ad,slr,List.cons_append,List.nil_append] | simp [Aa,V.fz,fzL,V.up,upL,Ab,Ac,Ad,slr]) (by first | omega | (simp [Be] at * <;> omega)) ?_
  conv=>whnf
  refine Ask.o h fun p24 h=> ?_
  conv=>whnf
  cases h;exact ⟨rfl,rfl⟩
 conv=>whnf
 cases h;exact ⟨rfl,rfl⟩
noncomputable def Bb (n0:Int) (op0:SOp) (r0:SRelation) (r1:List (ByteArray×Bool)):(Int×(List Int)×(List Int))→Option ((Int×(List Int)×(List Int)) ⊕ (((List Int)×(List Int)) ⊕ Unit)):=fun (x13,x12,x11)=>
 (Ek ((↑r0.Tuples.length:Int)) (op0.Arity)).bind fun r4=>
 if x13<r4 then
 ask (InI (op0.Arity-(1:Int))) <|
 (Ao (Cs n0 op0 r0 r1 x13 x12) (op0.Arity-(1:Int),x13,x11)).bind fun q12_11=>
 (Ao (Cc n0 op0 r0 r1 x13 x12 q12_11) ((0:Int),x12)).bind fun q25_12=>
 (Je (q25_12)).bind fun r26=>
 if ((Fg r1 r26).getD false)=true then
 ask (InI (x13+(1:Int))) <|
 some (.inl (x13+(1:Int),q25_12,q12_11))
 else
 some (.inr (.inl (q25_12,q12_11)))
 else
 some (.inr (.inr ()))
def I5 (n0:Int) (op0:SOp) (r0:SRelation) (r1:List (ByteArray×Bool)):(Int×(List Int)×(List Int))→St:=fun s=>[(13,A.val (Ae s.1)),(12,A.val ((slr true 1 Ae) s.2.1)),(11,A.val ((slr true 1 Ae) s.2.2)),(10,A.val (Ae ((↑r0.Tuples.length:Int)))),(9,A.val ((rMp true Lf.bool) (r1))),(5,A.val ((rP true (Ai false)) (r0))),(4,A.val ((rP true (Co false)) (op0))),(0,A.val (Ae (n0)))]
def Of (_n0:Int) (_op0:SOp) (_r0:SRelation) (_r1:List (ByteArray×Bool)):(((List Int)×(List Int)) ⊕ Unit)→Tgt
 | (.inl s)=>(Ex.ret,[8,7,6],[(8,A.val (V.bool (true))),(7,A.val ((slr true 1 Ae) s.1)),(6,A.val ((slr true 1 Ae) s.2))])
 | (.inr _s)=>((Ex.exit 0),[],[])
theorem Yl {n0:Int} {op0:SOp} {r0:SRelation} {r1:List (ByteArray×Bool)} (s:(Int×(List Int)×(List Int))) (o:(Int×(List Int)×(List Int)) ⊕ (((List Int)×(List Int)) ⊕ Unit)) (h:Bb n0 op0 r0 r1 s=some o):vc Tryz.prog Nz (Dc [13,12,11,10,9,5,4,0] (I5 n0 op0 r0 r1) (Of n0 op0 r0 r1) o) (I5 n0 op0 r0 r1 s):=by
 obtain ⟨x13,x12,x11⟩:=s
 unfold Bb at h
 try dsimp only at h
 conv=>whnf
 refine Cells.lit rfl rfl ?_
 conv=>whnf
 refine CallQ.o Ae (by first | rfl | simp only [Aa,V.fz,fzL,V.up,upL,Ab,Ac,Ad,slr,List.cons_append,List.nil_append] | simp [Aa,V.fz,fzL,V.up,upL,Ab,Ac,Ad,slr]) h (fun r h=>V3 h) (fun r4 h=> ?_)
 conv=>whnf
 refine Br.od h (fun p5 h=> ?_) (fun p5 h=> ?_)
 ·conv=>whnf
  refine Cells.lit rfl rfl ?_
  conv=>whnf
  refine Ask.o h fun p6 h=> ?_
  conv=>whnf
  refine LoopQ.o [15,14,13,12,11,10,9,5,4,0] (Iy n0 op0 r0 r1 x13 x12) (Ny n0 op0 r0 r1 x13 x12) h (fun s o h=>Xo s o h) (by first | rfl | simp [restrict,look,Aa,V.fz,fzL,V.up,upL,Ab,Ac,Ad,slr]) (fun _=>rfl) ?_
  rintro q12_11 h
  try dsimp only at h
  conv=>whnf
  refine Len.map ?_
  conv=>whnf
  refine LoopQ.o [58,57,13,12,11,10,9,5,4,0] (Ix n0 op0 r0 r1 x13 x12 q12_11) (N1 n0 op0 r0 r1 x13 x12 q12_11) h (fun s o h=>Ys s o h) (by first | rfl | simp [restrict,look,Aa,V.fz,fzL,V.up,upL,Ab,Ac,Ad,slr]) (fun _=>rfl) ?_
  rintro q25_12 h
  try dsimp only at h
  conv=>whnf
  refine CallQ.rd V.str (by first | rfl | simp only [V.fz,Ab,slr] | simp [Aa,V.fz,fzL,V.up,upL,Ab,Ac,Ad,slr]) (fun _=>rfl) h (fun r h=>Acv h) (fun r26 h=> ?_)
  conv=>whnf
  refine LkQ.one Lf.bool V.bool r1 (false) (by first | rfl | simp [Au]) rfl (fun _=>rfl) ?_
  conv=>whnf
  refine Br.flip ?_
  conv=>whnf
  refine Br.ob h (fun p27 h=> ?_) (fun p27 h=> ?_)
  ·conv=>whnf
   refine Ask.o h fun p28 h=> ?_
   conv=>whnf
   cases h;exact ⟨rfl,rfl⟩
  conv=>whnf
  cases h;exact ⟨rfl,rfl⟩
 conv=>whnf
 cases h;exact ⟨rfl,rfl⟩
noncomputable def Bv (n0:Int) (op0:SOp) (r0:SRelation):Option ((List Int)×(List Int)×Bool):=
 (Hr (r0)).bind fun r1=>
 ask ((0:Int)≤op0.Arity∧op0.Arity≤(↑LIM:Int)) <|
 ask ((0:Int)≤r0.Arity∧r0.Arity≤(↑LIM:Int)) <|
 (Ao (Bb n0 op0 r0 r1) ((0:Int),List.replicate r0.Arity.toNat (0:Int),List.replicate op0.Arity.toNat (0:Int))).bind fun t=>match t with
 | (.inl (q29_7,q29_6))=>(some (q29_6,q29_7,true))
 | (.inr _)=>(some (Au Int,Au Int,false))
theorem Rn {n0:Int} {op0:SOp} {r0:SRelation} {v:((List Int)×(List Int)×Bool)} (h:Bv n0 op0 r0=some v):Ret Tryz.prog Ih [Ae n0,(Co false) op0,(Ai false) r0] ((fun r=>V.tup [(slr true 1 Ae) r.1,(slr true 1 Ae) r.2.1,V.bool r.2.2]) v):=by
 refine A5 Acd (Nat.le_of_ble_eq_true rfl) ?_
 unfold Bv at h
 conv=>whnf
 refine Cells.lit rfl rfl ?_
 conv=>whnf
 refine CallQ.o (rMp true Lf.bool) (by first | rfl | simp only [Aa,V.fz,fzL,V.up,upL,Ab,Ac,Ad,slr,List.cons_append,List.nil_append] | simp [Aa,V.fz,fzL,V.up,upL,Ab,Ac,Ad,slr]) h (fun r h=>Ag3 h) (fun r1 h=> ?_)
 conv=>whnf
 refine Cells.lit rfl rfl ?_
 conv=>whnf
 refine Len.map ?_
 conv=>whnf
 refine Cells.lit rfl rfl ?_
 conv=>whnf
 refine Ask.o h fun p2 h=> ?_
 conv=>whnf
 refine MkQ.o Ae ((0:Int)) rfl ?_
 conv=>whnf
 refine Cells.lit rfl rfl ?_
 conv=>whnf
 refine Ask.o h fun p3 h=> ?_
 conv=>whnf
 refine MkQ.o Ae ((0:Int)) rfl ?_
 conv=>whnf
 refine LoopQ.o [13,12,11,10,9,5,4,0] (I5 n0 op0 r0 r1) (Of n0 op0 r0 r1) h (fun s o h=>Yl s o h) (by first | rfl | simp [restrict,look,Aa,V.fz,fzL,V.up,upL,Ab,Ac,Ad,slr]) (by rintro (_ | _)<;>rfl) ?_
 rintro (⟨q29_7,q29_6⟩ | ⟨⟩) h
 ·try dsimp only at h
  conv=>whnf
  cases h;exact (by first | rfl | simp only [Ah,Aa,V.fz,fzL,V.up,upL,Ab,Ac,Ad,slr] | simp [Ah,Aa,V.fz,fzL,V.up,upL,Ab,Ac,Ad,slr])
 try dsimp only at h
 conv=>whnf
 cases h;exact (by first | rfl | simp only [Ah,Aa,V.fz,fzL,V.up,upL,Ab,Ac,Ad,slr] | simp [Ah,Aa,V.fz,fzL,V.up,upL,Ab,Ac,Ad,slr])
noncomputable def Bj (c0:Sl1Cur) (list0:(List Int)):Option (Int×Sl1Cur):=
 (Bn (c0) ((↑list0.length:Int))).bind fun (r1,u2)=>
 ask ((0:Int)≤r1∧r1<(↑list0.length:Int)) <|
 some (nth list0 r1.toNat,u2)
theorem Ct {c0:Sl1Cur} {list0:(List Int)} {v:(Int×Sl1Cur)} (h:Bj c0 list0=some v):Rc Tryz.prog B7 [(rP true (Ak false)) c0,(slr false 1 Ae) list0] (Ae v.1) 0 ((rP true (Ak false)) v.2):=by
 refine Y7 Aa8 (Nat.le_of_ble_eq_true rfl) ?_
 unfold Bj at h
 conv=>whnf
 refine Len.map ?_
 conv=>whnf
 refine CallQ.io Ae (rP true (Ak false)) (by first | rfl | simp only [Aa,V.fz,fzL,V.up,upL,Ab,Ac,Ad,slr,List.cons_append,List.nil_append] | simp [Aa,V.fz,fzL,V.up,upL,Ab,Ac,Ad,slr]) rfl (fun _=>rfl) (fun _=>⟨rfl,rfl⟩) rfl h (fun r h=>C6 h) (fun r1 u2 h=> ?_)
 conv=>whnf
 refine Len.map ?_
 conv=>whnf
 refine Ask.o h fun p3 h=> ?_
 conv=>whnf
 refine Elem.o (by first | omega | (simp [Be] at * <;> omega)) ?_
 conv=>whnf
 cases h;exact ⟨(by first | rfl | simp only [Ah,Aa,V.fz,fzL,V.up,upL,Ab,Ac,Ad,slr] | simp [Ah,Aa,V.fz,fzL,V.up,upL,Ab,Ac,Ad,slr]),(by first | rfl | simp only [Ah,Aa,V.fz,fzL,V.up,upL,Ab,Ac,Ad,slr] | simp [Ah,Aa,V.fz,fzL,V.up,upL,Ab,Ac,Ad,slr])⟩
end Go.Proofs.YtjcekpmojnnmbaaGreat.Ax
