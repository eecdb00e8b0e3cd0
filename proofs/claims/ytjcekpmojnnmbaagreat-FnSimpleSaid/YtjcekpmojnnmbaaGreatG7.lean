/-
 What the functions compute, as functions on plain data, and that the program does compute it; written by program.
-/
import Derived.Test.YtjcekpmojnnmbaaGreatCode
import Derived.Test.YtjcekpmojnnmbaaGreatG1
import Derived.Test.YtjcekpmojnnmbaaGreatG2
import Derived.Test.YtjcekpmojnnmbaaGreatG3
import Derived.Test.YtjcekpmojnnmbaaGreatG5
namespace Go.Proofs.YtjcekpmojnnmbaaGreat.Ax
open Go
set_option maxRecDepth 100000
set_option maxHeartbeats 4000000
noncomputable def Hz (list0:List (List Int)) (p0:List Int):Int→Option (Int ⊕ Int):=fun x5=>
 if x5<(↑list0.length:Int) then
 ask ((0:Int)≤x5∧x5<(↑list0.length:Int)) <|
 (E2 (nth list0 x5.toNat)).bind fun r3=>
 (E2 (p0)).bind fun r4=>
 if r3>r4 then
 ask (InI (x5+(1:Int))) <|
 some (.inl (x5+(1:Int)))
 else
 ask ((0:Int)≤x5∧x5<(↑list0.length:Int)) <|
 (E2 (nth list0 x5.toNat)).bind fun r8=>
 (E2 (p0)).bind fun r9=>
 if r8=r9 then
 ask ((0:Int)≤x5∧x5<(↑list0.length:Int)) <|
 (J6 (nth list0 x5.toNat) (p0)).bind fun r12=>
 if (r12)=true then
 ask (InI (x5+(1:Int))) <|
 some (.inl (x5+(1:Int)))
 else
 some (.inr x5)
 else
 some (.inr x5)
 else
 some (.inr x5)
def Ot (list0:List (List Int)) (p0:List Int):Int→St:=fun s=>[(5,A.val (Af s)),(0,A.val ((slr false 1 (slr false 1 Af)) (list0))),(1,A.val ((slr false 1 Af) (p0)))]
def Wv (list0:List (List Int)) (p0:List Int):Int→Tgt
 | s=>((Ex.exit 0),[5,0,1],[(5,A.val (Af s)),(0,A.val ((slr false 1 (slr false 1 Af)) (list0))),(1,A.val ((slr false 1 Af) (p0)))])
theorem Agg {list0:List (List Int)} {p0:List Int} (x5:Int) (o:Int ⊕ Int) (h:Hz list0 p0 x5=some o):vc Tryz.prog Ww (Dl [5,0,1] (Ot list0 p0) (Wv list0 p0) o) (Ot list0 p0 x5):=by
 unfold Hz at h
 try dsimp only at h
 refine Len.map<|Br.od h (fun p1 h=> ?_) (fun p1 h=> ?_)
 ·refine Br.yes<|Br.yes<|Len.map<|Ask.o h fun p2 h=>Elem.o (by first | omega | (simp [Ap] at * <;> omega))<|Br.yes<|Br.yes<|CallQ.o Af (by rfl) h (fun r h=>L6 h) (fun r3 h=> ?_)
  refine Br.yes<|Br.yes<|CallQ.o Af (by rfl) h (fun r h=>L6 h) (fun r4 h=> ?_)
  refine Br.yes<|Br.yes<|Br.od h (fun p5 h=> ?_) (fun p5 h=> ?_)
  ·refine Br.yes<|Br.yes<|Br.yes<|Br.yes<|Br.yes<|Br.yes<|Br.yes<|Br.yes<|Br.yes<|Br.yes<|Br.yes<|Br.yes<|Br.yes<|Ask.o h fun p6 h=> ?_
   cases h;exact ⟨rfl,rfl⟩
  refine Br.no<|Br.no<|Len.map<|Ask.o h fun p7 h=>Elem.o (by first | omega | (simp [Ap] at * <;> omega))<|Br.no<|Br.no<|CallQ.o Af (by rfl) h (fun r h=>L6 h) (fun r8 h=> ?_)
  refine Br.no<|Br.no<|CallQ.o Af (by rfl) h (fun r h=>L6 h) (fun r9 h=> ?_)
  refine Br.no<|Br.no<|Br.oe h (fun p10 h=> ?_) (fun p10 h=> ?_)
  ·refine Br.yes<|Br.yes<|Len.map<|Ask.o h fun p11 h=>Elem.o (by first | omega | (simp [Ap] at * <;> omega))<|Br.yes<|Br.yes<|Br.yes<|CallQ.o V.bool (by rfl) h (fun r h=>Al4 h) (fun r12 h=> ?_)
   refine Br.no<|Br.yes<|Br.yes<|Br.no<|Br.yes<|Br.ob h (fun p13 h=> ?_) (fun p13 h=> ?_)
   ·refine Ask.o h fun p14 h=> ?_
    cases h;exact ⟨rfl,rfl⟩
   cases h;exact ⟨rfl,rfl⟩
  refine Br.no<|Br.no<|Br.no<|Br.no<|Br.no<|Br.no<|Br.no<|Br.yes<|Br.no<|Br.yes<|Br.no ?_
  cases h;exact ⟨rfl,rfl⟩
 refine Br.no<|Br.no<|Br.no<|Br.no<|Br.no<|Br.no<|Br.no<|Br.no<|Br.no<|Br.no<|Br.no ?_
 cases h;exact ⟨rfl,rfl⟩
noncomputable def Jg (list0:(List (List Int))) (p0:(List Int)):Option (List (List Int)):=
 (Al (Hz list0 p0) (0:Int)).bind fun q15_5=>
 ((if q15_5<(↑list0.length:Int) then
 ask ((0:Int)≤q15_5∧q15_5<(↑list0.length:Int)) <|
 (Fv (nth list0 q15_5.toNat) (p0)).bind fun r18=>
 if (r18)=true then
 some (.inl ())
 else
 some (.inr ())
 else
 some (.inr ()):Option (Unit ⊕ Unit))).bind fun t=>match t with
 | (.inl _)=>(some list0)
 | (.inr _)=>(ask (0≤(0:Int)∧(0:Int)≤q15_5∧q15_5≤((list0.length:Nat):Int)) <|
 ask ((Aw (List Int)).length+(List.take (q15_5.toNat-Int.toNat (0:Int)) (List.drop (Int.toNat (0:Int)) list0)).length≤LIM) <|
 ask ((Aw (List Int)++List.take (q15_5.toNat-Int.toNat (0:Int)) (List.drop (Int.toNat (0:Int)) list0)).length+([p0]).length≤LIM) <|
 ask (0≤q15_5∧q15_5≤(↑list0.length:Int)∧(↑list0.length:Int)≤((list0.length:Nat):Int)) <|
 ask ((Aw (List Int)++List.take (q15_5.toNat-Int.toNat (0:Int)) (List.drop (Int.toNat (0:Int)) list0)++[p0]).length+(List.take ((↑list0.length:Int).toNat-q15_5.toNat) (List.drop q15_5.toNat list0)).length≤LIM) <|
 some (Aw (List Int)++List.take (q15_5.toNat-Int.toNat (0:Int)) (List.drop (Int.toNat (0:Int)) list0)++[p0]++List.take ((↑list0.length:Int).toNat-q15_5.toNat) (List.drop q15_5.toNat list0)))
theorem Acd {list0:(List (List Int))} {p0:(List Int)} {v:(List (List Int))} (h:Jg list0 p0=some v):Ret Tryz.prog Pg [(slr false 1 (slr false 1 Af)) list0,(slr false 1 Af) p0] ((slr false 1 (slr false 1 Af)) v):=by
 refine Rk Aoa (Nat.le_of_ble_eq_true rfl) ?_
 unfold Jg at h
 conv=>whnf
 refine LoopQ.o [5,0,1] (Ot list0 p0) (Wv list0 p0) h (fun s o h=>Agg s o h) (by rfl) (fun _=>rfl) ?_
 rintro q15_5 h
 try dsimp only at h
 conv=>whnf
 refine CutQ.o (fun t:(Unit ⊕ Unit)=>match t with | (.inl s)=>(Ex.ret,[4],[(4,A.val ((slr false 1 (slr false 1 Af)) (list0)))]) | (.inr s)=>(Ex.normal,[5,0,1],[(5,A.val (Af (q15_5))),(0,A.val ((slr false 1 (slr false 1 Af)) (list0))),(1,A.val ((slr false 1 Af) (p0)))])) h ?_ ?_
 ·intro t h
  conv=>whnf
  refine Len.map ?_
  conv=>whnf
  refine Br.od h (fun p16 h=> ?_) (fun p16 h=> ?_)
  ·conv=>whnf
   refine Br.yes ?_
   conv=>whnf
   refine Br.yes ?_
   conv=>whnf
   refine Len.map ?_
   conv=>whnf
   refine Ask.o h fun p17 h=> ?_
   conv=>whnf
   refine Elem.o (by first | omega | (simp [Ap] at * <;> omega)) ?_
   conv=>whnf
   refine Br.yes ?_
   conv=>whnf
   refine Br.yes ?_
   conv=>whnf
   refine Br.yes ?_
   conv=>whnf
   refine CallQ.o V.bool (by rfl) h (fun r h=>Nk h) (fun r18 h=> ?_)
   conv=>whnf
   refine Br.yes ?_
   conv=>whnf
   refine Br.ob h (fun p19 h=> ?_) (fun p19 h=> ?_)
   ·conv=>whnf
    cases h;exact ⟨rfl,rfl⟩
   conv=>whnf
   cases h;exact ⟨rfl,rfl⟩
  conv=>whnf
  refine Br.no ?_
  conv=>whnf
  refine Br.no ?_
  conv=>whnf
  refine Br.no ?_
  conv=>whnf
  refine Br.no ?_
  conv=>whnf
  refine Br.no ?_
  conv=>whnf
  refine Br.no ?_
  conv=>whnf
  refine Br.no ?_
  conv=>whnf
  cases h;exact ⟨rfl,rfl⟩
 rintro (⟨⟩ | ⟨⟩) h
 ·try dsimp only at h
  conv=>whnf
  cases h;exact (by rfl)
 try dsimp only at h
 conv=>whnf
 refine BslQ.o (slr true 1 Af) (Aw (List Int)) (by exact fun _=>⟨rfl,rfl⟩) (by first | rfl | (simp only [Aa,V.fz,fzL,V.up,upL,Ab,Ac,Ad,slr,List.cons_append,List.nil_append];done) | simp [Aa,V.fz,fzL,V.up,upL,Ab,Ac,Ad,slr]) ?_
 conv=>whnf
 refine SlcQ.o (slr false 1 Af) h fun h=> ?_
 conv=>whnf
 refine AppQ.o (m:=1) (slr false 1 Af) (by exact fun _=>⟨rfl,rfl⟩) (Aw (List Int)) (List.take (q15_5.toNat-Int.toNat (0:Int)) (List.drop (Int.toNat (0:Int)) list0)) (by rfl) (by rfl) h fun h=> ?_
 conv=>whnf
 refine BslQ.o (slr false 1 Af) [p0] (by exact fun _=>⟨rfl,rfl⟩) (by first | rfl | (simp only [Aa,V.fz,fzL,V.up,upL,Ab,Ac,Ad,slr,List.cons_append,List.nil_append];done) | simp [Aa,V.fz,fzL,V.up,upL,Ab,Ac,Ad,slr]) ?_
 conv=>whnf
 refine NoOwn.o (fun _=>rfl) ?_
 conv=>whnf
 refine AppQ.o (m:=1) (slr false 1 Af) (by exact fun _=>⟨rfl,rfl⟩) (Aw (List Int)++List.take (q15_5.toNat-Int.toNat (0:Int)) (List.drop (Int.toNat (0:Int)) list0)) ([p0]) (by rfl) (by rfl) h fun h=> ?_
 conv=>whnf
 refine Len.map ?_
 conv=>whnf
 refine SlcQ.o (slr false 1 Af) h fun h=> ?_
 conv=>whnf
 refine AppQ.o (m:=1) (slr false 1 Af) (by exact fun _=>⟨rfl,rfl⟩) (Aw (List Int)++List.take (q15_5.toNat-Int.toNat (0:Int)) (List.drop (Int.toNat (0:Int)) list0)++[p0]) (List.take ((↑list0.length:Int).toNat-q15_5.toNat) (List.drop q15_5.toNat list0)) (by rfl) (by rfl) h fun h=> ?_
 conv=>whnf
 cases h;exact (by first | rfl | simp only [Ah,Ac,slr] | simp [Ah,Aa,V.fz,fzL,V.up,upL,Ab,Ac,Ad,slr])
noncomputable def A7 (a0:SAlgebra) (x18:Int) (_x10:Int) (x9:Int):(Int×Bool×Bool×(List Int))→Option ((Int×Bool×Bool×(List Int)) ⊕ (Bool×Bool×(List Int))):=fun (x31,x6''',x5''',x67''')=>
 if x31<(↑(nth a0.Ops x18.toNat).Table.length:Int) then
 ask ((0:Int)≤x31∧x31<(↑(nth a0.Ops x18.toNat).Table.length:Int)) <|
 ask (x9≠(0:Int)∧InI (x31.tdiv x9)) <|
 ask (a0.Size≠(0:Int)) <|
 ask ((0:Int)≤(x31.tdiv x9).tmod a0.Size∧(x31.tdiv x9).tmod a0.Size<(↑x67'''.length:Int)) <|
 ask (InI (nth x67''' ((x31.tdiv x9).tmod a0.Size).toNat-(x31.tdiv x9).tmod a0.Size)) <|
 ask (InI ((nth x67''' ((x31.tdiv x9).tmod a0.Size).toNat-(x31.tdiv x9).tmod a0.Size)*x9)) <|
 ask (InI (x31+(nth x67''' ((x31.tdiv x9).tmod a0.Size).toNat-(x31.tdiv x9).tmod a0.Size)*x9)) <|
 ask ((0:Int)≤x31+(nth x67''' ((x31.tdiv x9).tmod a0.Size).toNat-(x31.tdiv x9).tmod a0.Size)*x9∧x31+(nth x67''' ((x31.tdiv x9).tmod a0.Size).toNat-(x31.tdiv x9).tmod a0.Size)*x9<(↑(nth a0.Ops x18.toNat).Table.length:Int)) <|
 (Ht (x67''') (nth (nth a0.Ops x18.toNat).Table x31.toNat) (nth (nth a0.Ops x18.toNat).Table (x31+(nth x67''' ((x31.tdiv x9).tmod a0.Size).toNat-(x31.tdiv x9).tmod a0.Size)*x9).toNat)).bind fun (r14,u15)=>
 if (r14)=true then
 ask (InI (x31+(1:Int))) <|
 some (.inl (x31+(1:Int),true,true,u15))
 else
 ask (InI (x31+(1:Int))) <|
 some (.inl (x31+(1:Int),x6''',x5''',u15))
 else
 some (.inr (x6''',x5''',x67'''))
def Gy (a0:SAlgebra) (x18:Int) (x10:Int) (x9:Int):(Int×Bool×Bool×(List Int))→St:=fun s=>[(31,A.val (Af s.1)),(30,A.val (Af ((↑(nth a0.Ops x18.toNat).Table.length:Int)))),(29,A.val ((slr false 1 Af) ((nth a0.Ops x18.toNat).Table))),(10,A.val (Af (x10))),(9,A.val (Af (x9))),(8,A.val ((rP true (Bh false)) (nth a0.Ops x18.toNat))),(18,A.val (Af (x18))),(17,A.val (Af ((↑a0.Ops.length:Int)))),(16,A.val ((slr false 2 (Bh false)) (a0.Ops))),(6,A.val (V.bool s.2.1)),(5,A.val (V.bool s.2.2.1)),(2,A.val ((rP true (Ai false)) (a0))),(1,A.ref 67 []),(67,A.val ((slr true 1 Af) s.2.2.2))]
def Jw (a0:SAlgebra) (x18:Int) (x10:Int) (x9:Int):(Bool×Bool×(List Int))→Tgt
 | s=>((Ex.exit 6),[10,9,8,18,17,16,6,5,2,1,67],[(10,A.val (Af (x10))),(9,A.val (Af (x9))),(8,A.val ((rP true (Bh false)) (nth a0.Ops x18.toNat))),(18,A.val (Af (x18))),(17,A.val (Af ((↑a0.Ops.length:Int)))),(16,A.val ((slr false 2 (Bh false)) (a0.Ops))),(6,A.val (V.bool s.1)),(5,A.val (V.bool s.2.1)),(2,A.val ((rP true (Ai false)) (a0))),(1,A.ref 67 []),(67,A.val ((slr true 1 Af) s.2.2))])
theorem Te {a0:SAlgebra} {x18:Int} {x10:Int} {x9:Int} (s:(Int×Bool×Bool×(List Int))) (o:(Int×Bool×Bool×(List Int)) ⊕ (Bool×Bool×(List Int))) (h:A7 a0 x18 x10 x9 s=some o):vc Tryz.prog Kc (Dl [31,30,29,10,9,8,18,17,16,6,5,2,1,67] (Gy a0 x18 x10 x9) (Jw a0 x18 x10 x9) o) (Gy a0 x18 x10 x9 s):=by
 obtain ⟨x31,x6''',x5''',x67'''⟩:=s
 unfold A7 at h
 try dsimp only at h
 refine Br.od h (fun p5 h=> ?_) (fun p5 h=> ?_)
 ·refine Len.map<|Ask.o h fun p6 h=>Elem.o (by first | omega | (simp [Ap] at * <;> omega))<|Ask.o h fun p7 h=>Cells.lit rfl rfl<|Ask.o h fun p8 h=>Cells.lit rfl rfl<|Len.map<|Ask.o h fun p9 h=>Cells.one (fun _=>⟨rfl,rfl⟩) (by first | omega | (simp [Ap] at * <;> omega))<|Ask.o h fun p10 h=>Ask.o h fun p11 h=>Ask.o h fun p12 h=>Len.map<|Ask.o h fun p13 h=>Elem.o (by first | omega | (simp [Ap] at * <;> omega))<|CallQ.io V.bool (slr true 1 Af) (by rfl) rfl (fun _=>rfl) (fun _=>⟨rfl,rfl⟩) rfl h (fun r h=>V5 h) (fun r14 u15 h=> ?_)
  refine Br.ob h (fun p16 h=> ?_) (fun p16 h=> ?_)
  ·refine Ask.o h fun p17 h=> ?_
   cases h;exact ⟨rfl,rfl⟩
  refine Ask.o h fun p18 h=> ?_
  cases h;exact ⟨rfl,rfl⟩
 cases h;exact ⟨rfl,rfl⟩
noncomputable def A6 (a0:SAlgebra) (x18:Int):(Int×Int×Bool×Bool×(List Int))→Option ((Int×Int×Bool×Bool×(List Int)) ⊕ (Bool×Bool×(List Int))):=fun (x10,x9,x6'',x5'',x67'')=>
 if x10<(nth a0.Ops x18.toNat).Arity then
 (Al (A7 a0 x18 x10 x9) ((0:Int),x6'',x5'',x67'')).bind fun (q19_6,q19_5,q19_67)=>
 ask (InI (x9*a0.Size)) <|
 ask (InI (x10+(1:Int))) <|
 some (.inl (x10+(1:Int),x9*a0.Size,q19_6,q19_5,q19_67))
 else
 some (.inr (x6'',x5'',x67''))
def G3 (a0:SAlgebra) (x18:Int):(Int×Int×Bool×Bool×(List Int))→St:=fun s=>[(10,A.val (Af s.1)),(9,A.val (Af s.2.1)),(8,A.val ((rP true (Bh false)) (nth a0.Ops x18.toNat))),(18,A.val (Af (x18))),(17,A.val (Af ((↑a0.Ops.length:Int)))),(16,A.val ((slr false 2 (Bh false)) (a0.Ops))),(6,A.val (V.bool s.2.2.1)),(5,A.val (V.bool s.2.2.2.1)),(2,A.val ((rP true (Ai false)) (a0))),(1,A.ref 67 []),(67,A.val ((slr true 1 Af) s.2.2.2.2))]
def Jy (a0:SAlgebra) (x18:Int):(Bool×Bool×(List Int))→Tgt
 | s=>((Ex.exit 4),[18,17,16,6,5,2,1,67],[(18,A.val (Af (x18))),(17,A.val (Af ((↑a0.Ops.length:Int)))),(16,A.val ((slr false 2 (Bh false)) (a0.Ops))),(6,A.val (V.bool s.1)),(5,A.val (V.bool s.2.1)),(2,A.val ((rP true (Ai false)) (a0))),(1,A.ref 67 []),(67,A.val ((slr true 1 Af) s.2.2))])
theorem Tm {a0:SAlgebra} {x18:Int} (s:(Int×Int×Bool×Bool×(List Int))) (o:(Int×Int×Bool×Bool×(List Int)) ⊕ (Bool×Bool×(List Int))) (h:A6 a0 x18 s=some o):vc Tryz.prog J7 (Dl [10,9,8,18,17,16,6,5,2,1,67] (G3 a0 x18) (Jy a0 x18) o) (G3 a0 x18 s):=by
 obtain ⟨x10,x9,x6'',x5'',x67''⟩:=s
 unfold A6 at h
 try dsimp only at h
 refine Cells.lit rfl rfl<|Br.od h (fun p4 h=> ?_) (fun p4 h=> ?_)
 ·refine Cells.lit rfl rfl<|Len.map<|LoopQ.o [31,30,29,10,9,8,18,17,16,6,5,2,1,67] (Gy a0 x18 x10 x9) (Jw a0 x18 x10 x9) h (fun s o h=>Te s o h) (by rfl) (fun _=>rfl) ?_
  rintro ⟨q19_6,q19_5,q19_67⟩ h
  try dsimp only at h
  refine Cells.lit rfl rfl<|Ask.o h fun p20 h=>Ask.o h fun p21 h=> ?_
  cases h;exact ⟨rfl,rfl⟩
 cases h;exact ⟨rfl,rfl⟩
noncomputable def As (a0:SAlgebra):(Int×Bool×Bool×(List Int))→Option ((Int×Bool×Bool×(List Int)) ⊕ (Bool×Bool×(List Int))):=fun (x18,x6',x5',x67')=>
 if x18<(↑a0.Ops.length:Int) then
 ask ((0:Int)≤x18∧x18<(↑a0.Ops.length:Int)) <|
 (Al (A6 a0 x18) ((0:Int),(1:Int),x6',x5',x67')).bind fun (q22_6,q22_5,q22_67)=>
 ask (InI (x18+(1:Int))) <|
 some (.inl (x18+(1:Int),q22_6,q22_5,q22_67))
 else
 some (.inr (x6',x5',x67'))
def G0 (a0:SAlgebra):(Int×Bool×Bool×(List Int))→St:=fun s=>[(18,A.val (Af s.1)),(17,A.val (Af ((↑a0.Ops.length:Int)))),(16,A.val ((slr false 2 (Bh false)) (a0.Ops))),(6,A.val (V.bool s.2.1)),(5,A.val (V.bool s.2.2.1)),(2,A.val ((rP true (Ai false)) (a0))),(1,A.ref 67 []),(67,A.val ((slr true 1 Af) s.2.2.2))]
def J2 (a0:SAlgebra):(Bool×Bool×(List Int))→Tgt
 | s=>((Ex.exit 2),[6,5,2,1,67],[(6,A.val (V.bool s.1)),(5,A.val (V.bool s.2.1)),(2,A.val ((rP true (Ai false)) (a0))),(1,A.ref 67 []),(67,A.val ((slr true 1 Af) s.2.2))])
theorem Tk {a0:SAlgebra} (s:(Int×Bool×Bool×(List Int))) (o:(Int×Bool×Bool×(List Int)) ⊕ (Bool×Bool×(List Int))) (h:As a0 s=some o):vc Tryz.prog Jv (Dl [18,17,16,6,5,2,1,67] (G0 a0) (J2 a0) o) (G0 a0 s):=by
 obtain ⟨x18,x6',x5',x67'⟩:=s
 unfold As at h
 try dsimp only at h
 refine Br.od h (fun p2 h=> ?_) (fun p2 h=> ?_)
 ·refine Len.map<|Ask.o h fun p3 h=>Elem.o (by first | omega | (simp [Ap] at * <;> omega))<|SetKids.lit rfl<|LoopQ.o [10,9,8,18,17,16,6,5,2,1,67] (G3 a0 x18) (Jy a0 x18) h (fun s o h=>Tm s o h) (by rfl) (fun _=>rfl) ?_
  rintro ⟨q22_6,q22_5,q22_67⟩ h
  try dsimp only at h
  refine Ask.o h fun p23 h=> ?_
  cases h;exact ⟨rfl,rfl⟩
 cases h;exact ⟨rfl,rfl⟩
noncomputable def Dd (a0:SAlgebra):(Bool×Bool×(List Int))→Option ((Bool×Bool×(List Int)) ⊕ (Bool×(List Int))):=fun (x6,x5,x67)=>
 if (x6)=true then
 (Al (As a0) ((0:Int),false,x5,x67)).bind fun (q24_6,q24_5,q24_67)=>
 some (.inl (q24_6,q24_5,q24_67))
 else
 some (.inr (x5,x67))
def G2 (a0:SAlgebra):(Bool×Bool×(List Int))→St:=fun s=>[(6,A.val (V.bool s.1)),(5,A.val (V.bool s.2.1)),(2,A.val ((rP true (Ai false)) (a0))),(1,A.ref 67 []),(67,A.val ((slr true 1 Af) s.2.2))]
def J1 (_a0:SAlgebra):(Bool×(List Int))→Tgt
 | s=>((Ex.exit 0),[5,67],[(5,A.val (V.bool s.1)),(67,A.val ((slr true 1 Af) s.2))])
theorem Tb {a0:SAlgebra} (s:(Bool×Bool×(List Int))) (o:(Bool×Bool×(List Int)) ⊕ (Bool×(List Int))) (h:Dd a0 s=some o):vc Tryz.prog J0 (Dl [6,5,2,1,67] (G2 a0) (J1 a0) o) (G2 a0 s):=by
 obtain ⟨x6,x5,x67⟩:=s
 unfold Dd at h
 try dsimp only at h
 refine Br.ob h (fun p1 h=> ?_) (fun p1 h=> ?_)
 ·refine Cells.lit rfl rfl<|Len.map<|LoopQ.o [18,17,16,6,5,2,1,67] (G0 a0) (J2 a0) h (fun s o h=>Tk s o h) (by rfl) (fun _=>rfl) ?_
  rintro ⟨q24_6,q24_5,q24_67⟩ h
  try dsimp only at h
  cases h;exact ⟨rfl,rfl⟩
 cases h;exact ⟨rfl,rfl⟩
noncomputable def Ee (a0:SAlgebra) (p0:(List Int)):Option (Bool×(List Int)):=
 (Al (Dd a0) (true,false,p0)).bind fun (q25_5,q25_67)=>
 some (q25_5,q25_67)
theorem Xe {a0:SAlgebra} {p0:(List Int)} {v:(Bool×(List Int))} (h:Ee a0 p0=some v):Zi Tryz.prog H8 [(Ai false) a0,(slr true 1 Af) p0] (V.bool v.1) 1 ((slr true 1 Af) v.2):=by
 refine Wc W7 (Nat.le_of_ble_eq_true rfl) ?_
 unfold Ee at h
 refine LoopQ.o [6,5,2,1,67] (G2 a0) (J1 a0) h (fun s o h=>Tb s o h) (by rfl) (fun _=>rfl) ?_
 rintro ⟨q25_5,q25_67⟩ h
 try dsimp only at h
 cases h;exact ⟨(by rfl),(by rfl)⟩
noncomputable def Dz (p0:List Int) (r3:Int) (r6:Int):(Int×(List Int))→Option ((Int×(List Int)) ⊕ (List Int)):=fun (x10,x9)=>
 if x10<(↑p0.length:Int) then
 ask ((0:Int)≤x10∧x10<(↑p0.length:Int)) <|
 if nth p0 x10.toNat=r6 then
 ask ((x9).length+([r3]).length≤LIM) <|
 ask (InI (x10+(1:Int))) <|
 some (.inl (x10+(1:Int),x9++[r3]))
 else
 ask ((0:Int)≤x10∧x10<(↑p0.length:Int)) <|
 ask ((x9).length+([nth p0 x10.toNat]).length≤LIM) <|
 ask (InI (x10+(1:Int))) <|
 some (.inl (x10+(1:Int),x9++[nth p0 x10.toNat]))
 else
 some (.inr x9)
def Md (p0:List Int) (r3:Int) (r6:Int):(Int×(List Int))→St:=fun s=>[(10,A.val (Af s.1)),(9,A.val ((slr true 1 Af) s.2)),(8,A.val (Af (r6))),(7,A.val (Af (r3))),(0,A.val ((slr false 1 Af) (p0)))]
def Si (_p0:List Int) (_r3:Int) (_r6:Int):(List Int)→Tgt
 | s=>((Ex.exit 0),[9],[(9,A.val ((slr true 1 Af) s))])
theorem Ad3 {p0:List Int} {r3:Int} {r6:Int} (s:(Int×(List Int))) (o:(Int×(List Int)) ⊕ (List Int)) (h:Dz p0 r3 r6 s=some o):vc Tryz.prog S5 (Dl [10,9,8,7,0] (Md p0 r3 r6) (Si p0 r3 r6) o) (Md p0 r3 r6 s):=by
 obtain ⟨x10,x9⟩:=s
 unfold Dz at h
 try dsimp only at h
 refine Len.map<|Br.od h (fun p7 h=> ?_) (fun p7 h=> ?_)
 ·refine Len.map<|Ask.o h fun p8 h=>Elem.o (by first | omega | (simp [Ap] at * <;> omega))<|Br.oe h (fun p9 h=> ?_) (fun p9 h=> ?_)
  ·refine BslQ.o Af [r3] (by exact fun _=>⟨rfl,rfl⟩) (by first | rfl | (simp only [Aa,V.fz,fzL,V.up,upL,Ab,Ac,Ad,slr,List.cons_append,List.nil_append];done) | simp [Aa,V.fz,fzL,V.up,upL,Ab,Ac,Ad,slr])<|NoOwn.o (fun _=>rfl)<|AppQ.o (m:=1) Af (by exact fun _=>⟨rfl,rfl⟩) (x9) ([r3]) (by rfl) (by rfl) h fun h=>Ask.o h fun p10 h=> ?_
   cases h;exact ⟨rfl,rfl⟩
  refine Len.map<|Ask.o h fun p11 h=>Elem.o (by first | omega | (simp [Ap] at * <;> omega))<|BslQ.o Af ([nth p0 x10.toNat]) (by exact fun _=>⟨rfl,rfl⟩) (by first | rfl | (simp only [Aa,V.fz,fzL,V.up,upL,Ab,Ac,Ad,slr,List.cons_append,List.nil_append];done) | simp [Aa,V.fz,fzL,V.up,upL,Ab,Ac,Ad,slr])<|NoOwn.o (fun _=>rfl)<|AppQ.o (m:=1) Af (by exact fun _=>⟨rfl,rfl⟩) (x9) ([nth p0 x10.toNat]) (by rfl) (by rfl) h fun h=>Ask.o h fun p12 h=> ?_
  cases h;exact ⟨rfl,rfl⟩
 cases h;exact ⟨rfl,rfl⟩
noncomputable def F5 (p0:(List Int)) (x0:Int) (y0:Int):Option (List Int):=
 ask ((0:Int)≤x0∧x0<(↑p0.length:Int)) <|
 ask ((0:Int)≤y0∧y0<(↑p0.length:Int)) <|
 (I8 (nth p0 x0.toNat) (nth p0 y0.toNat)).bind fun r3=>
 ask ((0:Int)≤x0∧x0<(↑p0.length:Int)) <|
 ask ((0:Int)≤y0∧y0<(↑p0.length:Int)) <|
 (Kh (nth p0 x0.toNat) (nth p0 y0.toNat)).bind fun r6=>
 (Al (Dz p0 r3 r6) ((0:Int),Aw Int)).bind fun q13_9=>
 some q13_9
theorem Q2 {p0:(List Int)} {x0:Int} {y0:Int} {v:(List Int)} (h:F5 p0 x0 y0=some v):Ret Tryz.prog Is [(slr false 1 Af) p0,Af x0,Af y0] ((slr true 1 Af) v):=by
 refine A5 Akv (Nat.le_of_ble_eq_true rfl) ?_
 unfold F5 at h
 refine Len.map<|Ask.o h fun p1 h=>Elem.o (by first | omega | (simp [Ap] at * <;> omega))<|Len.map<|Ask.o h fun p2 h=>Elem.o (by first | omega | (simp [Ap] at * <;> omega))<|CallP.o Af (by rfl) h (fun r h=>Akd h) (fun r3 h=> ?_)
 refine Len.map<|Ask.o h fun p4 h=>Elem.o (by first | omega | (simp [Ap] at * <;> omega))<|Len.map<|Ask.o h fun p5 h=>Elem.o (by first | omega | (simp [Ap] at * <;> omega))<|CallQ.o Af (by rfl) h (fun r h=>Ak4 h) (fun r6 h=> ?_)
 refine BslQ.o Af (Aw Int) (by exact fun _=>⟨rfl,rfl⟩) (by first | rfl | (simp only [Aa,V.fz,fzL,V.up,upL,Ab,Ac,Ad,slr,List.cons_append,List.nil_append];done) | simp [Aa,V.fz,fzL,V.up,upL,Ab,Ac,Ad,slr])<|LoopQ.o [10,9,8,7,0] (Md p0 r3 r6) (Si p0 r3 r6) h (fun s o h=>Ad3 s o h) (by rfl) (fun _=>rfl) ?_
 rintro q13_9 h
 try dsimp only at h
 cases h;exact (by rfl)
noncomputable def Ja (n0:Int) (p0:(List Int)) (q0:(List Int)):Option (Bool×Bool):=
 (Gw (n0) (p0) (q0)).bind fun r1=>
 if (r1)=true then
 (Gu (p0) (q0)).bind fun r3=>
 some (r3,true)
 else
 some (false,false)
theorem Aij {n0:Int} {p0:(List Int)} {q0:(List Int)} {v:(Bool×Bool)} (h:Ja n0 p0 q0=some v):Ret Tryz.prog Rh [Af n0,(slr false 1 Af) p0,(slr false 1 Af) q0] ((fun r=>V.tup [V.bool r.1,V.bool r.2]) v):=by
 refine A5 Ah8 (Nat.le_of_ble_eq_true rfl) ?_
 unfold Ja at h
 refine CallQ.o V.bool (by rfl) h (fun r h=>Yf h) (fun r1 h=> ?_)
 refine Br.flip<|Br.ob h (fun p2 h=> ?_) (fun p2 h=> ?_)
 ·refine CallQ.o V.bool (by rfl) h (fun r h=>Pn h) (fun r3 h=> ?_)
  cases h;exact (by rfl)
 cases h;exact (by rfl)
noncomputable def Dk (all0:List (List Int)):(Int×(List Int))→Option ((Int×(List Int)) ⊕ (List Int)):=fun (x4,x3)=>
 if x4<(↑all0.length:Int) then
 ask ((x3).length+([(-1:Int)]).length≤LIM) <|
 ask (InI (x4+(1:Int))) <|
 some (.inl (x4+(1:Int),x3++[(-1:Int)]))
 else
 some (.inr x3)
def K5 (all0:List (List Int)):(Int×(List Int))→St:=fun s=>[(4,A.val (Af s.1)),(3,A.val ((slr true 1 Af) s.2)),(0,A.val ((slr false 1 (slr false 1 Af)) (all0)))]
def Qr (all0:List (List Int)):(List Int)→Tgt
 | s=>((Ex.exit 0),[3,0],[(3,A.val ((slr true 1 Af) s)),(0,A.val ((slr false 1 (slr false 1 Af)) (all0)))])
theorem Aa7 {all0:List (List Int)} (s:(Int×(List Int))) (o:(Int×(List Int)) ⊕ (List Int)) (h:Dk all0 s=some o):vc Tryz.prog Qi (Dl [4,3,0] (K5 all0) (Qr all0) o) (K5 all0 s):=by
 obtain ⟨x4,x3⟩:=s
 unfold Dk at h
 try dsimp only at h
 refine Len.map<|Br.od h (fun p1 h=> ?_) (fun p1 h=> ?_)
 ·refine BslQ.o Af ([(-1:Int)]) (by exact fun _=>⟨rfl,rfl⟩) (by first | rfl | (simp only [Aa,V.fz,fzL,V.up,upL,Ab,Ac,Ad,slr,List.cons_append,List.nil_append];done) | simp [Aa,V.fz,fzL,V.up,upL,Ab,Ac,Ad,slr])<|NoOwn.o (fun _=>rfl)<|AppQ.o (m:=1) Af (by exact fun _=>⟨rfl,rfl⟩) (x3) ([(-1:Int)]) (by rfl) (by rfl) h fun h=>Ask.o h fun p2 h=> ?_
  cases h;exact ⟨rfl,rfl⟩
 cases h;exact ⟨rfl,rfl⟩
noncomputable def F4 (all0:List (List Int)):(Int×Int×(List Int))→Option ((Int×Int×(List Int)) ⊕ Int):=fun (x6,x5,x3)=>
 if x6<(↑all0.length:Int) then
 ask ((0:Int)≤(↑all0.length:Int)∧(↑all0.length:Int)≤(↑LIM:Int)) <|
 (Amk fun n=>Be n (all0) (x6) (List.replicate (↑all0.length:Int).toNat false) (x3)).bind fun (r6,_u7,u8)=>
 if (r6)=true then
 ask (InI (x5-(1:Int))) <|
 ask (InI (x6+(1:Int))) <|
 some (.inl (x6+(1:Int),x5-(1:Int),u8))
 else
 ask (InI (x6+(1:Int))) <|
 some (.inl (x6+(1:Int),x5,u8))
 else
 some (.inr x5)
def K0 (all0:List (List Int)):(Int×Int×(List Int))→St:=fun s=>[(6,A.val (Af s.1)),(5,A.val (Af s.2.1)),(3,A.val ((slr true 1 Af) s.2.2)),(0,A.val ((slr false 1 (slr false 1 Af)) (all0)))]
def Qb (_all0:List (List Int)):Int→Tgt
 | s=>((Ex.exit 2),[5],[(5,A.val (Af s))])
theorem Abr {all0:List (List Int)} (s:(Int×Int×(List Int))) (o:(Int×Int×(List Int)) ⊕ Int) (h:F4 all0 s=some o):vc Tryz.prog Qf (Dl [6,5,3,0] (K0 all0) (Qb all0) o) (K0 all0 s):=by
 obtain ⟨x6,x5,x3⟩:=s
 unfold F4 at h
 try dsimp only at h
 refine Len.map<|Br.od h (fun p4 h=> ?_) (fun p4 h=> ?_)
 ·refine Len.map<|Ask.o h fun p5 h=>MkQ.o V.bool (false) rfl<|CallQ.io2 V.bool (slr true 1 V.bool) (slr true 1 Af) (by rfl) rfl rfl (fun _=>rfl) (fun _=>⟨rfl,rfl⟩) (fun _=>⟨rfl,rfl⟩) rfl rfl h (fun r h=>Ad7 h) (fun r6 u7 u8 h=> ?_)
  refine Br.ob h (fun p9 h=> ?_) (fun p9 h=> ?_)
  ·refine Ask.o h fun p10 h=>Ask.o h fun p11 h=> ?_
   cases h;exact ⟨rfl,rfl⟩
  refine Ask.o h fun p12 h=> ?_
  cases h;exact ⟨rfl,rfl⟩
 cases h;exact ⟨rfl,rfl⟩
noncomputable def H3 (all0:(List (List Int))):Option Int:=
 (Al (Dk all0) ((0:Int),Aw Int)).bind fun q3_3=>
 (Al (F4 all0) ((0:Int),(↑all0.length:Int),q3_3)).bind fun q13_5=>
 some q13_5
theorem Ahc {all0:(List (List Int))} {v:Int} (h:H3 all0=some v):Ret Tryz.prog Ob [(slr false 1 (slr false 1 Af)) all0] (Af v):=by
 refine A5 Ahh (Nat.le_of_ble_eq_true rfl) ?_
 unfold H3 at h
 refine BslQ.o Af (Aw Int) (by exact fun _=>⟨rfl,rfl⟩) (by first | rfl | (simp only [Aa,V.fz,fzL,V.up,upL,Ab,Ac,Ad,slr,List.cons_append,List.nil_append];done) | simp [Aa,V.fz,fzL,V.up,upL,Ab,Ac,Ad,slr])<|LoopQ.o [4,3,0] (K5 all0) (Qr all0) h (fun s o h=>Aa7 s o h) (by rfl) (fun _=>rfl) ?_
 rintro q3_3 h
 try dsimp only at h
 refine Len.map<|LoopQ.o [6,5,3,0] (K0 all0) (Qb all0) h (fun s o h=>Abr s o h) (by rfl) (fun _=>rfl) ?_
 rintro q13_5 h
 try dsimp only at h
 cases h;exact (by rfl)
noncomputable def B7 (c0:Sl1Cur) (list0:(List Int)):Option (Int×Sl1Cur):=
 (B0 (c0) ((↑list0.length:Int))).bind fun (r1,u2)=>
 ask ((0:Int)≤r1∧r1<(↑list0.length:Int)) <|
 some (nth list0 r1.toNat,u2)
theorem Cy {c0:Sl1Cur} {list0:(List Int)} {v:(Int×Sl1Cur)} (h:B7 c0 list0=some v):Zi Tryz.prog B6 [(rP true (Au false)) c0,(slr false 1 Af) list0] (Af v.1) 0 ((rP true (Au false)) v.2):=by
 refine Wc Aaw (Nat.le_of_ble_eq_true rfl) ?_
 unfold B7 at h
 refine Len.map<|CallQ.io Af (rP true (Au false)) (by rfl) rfl (fun _=>rfl) (fun _=>⟨rfl,rfl⟩) rfl h (fun r h=>Cv h) (fun r1 u2 h=> ?_)
 refine Len.map<|Ask.o h fun p3 h=>Elem.o (by first | omega | (simp [Ap] at * <;> omega)) ?_
 cases h;exact ⟨(by rfl),(by rfl)⟩
end Go.Proofs.YtjcekpmojnnmbaaGreat.Ax
