/-
 What the functions compute, as functions on plain data, and that the program does compute it; written by program.
-/
import Derived.Test.YtmkgjnphianalaaGreatCode
import Derived.Test.YtmkgjnphianalaaGreatG1
import Derived.Test.YtmkgjnphianalaaGreatG2
import Derived.Test.YtmkgjnphianalaaGreatG3
import Derived.Test.YtmkgjnphianalaaGreatG5
import Derived.Test.YtmkgjnphianalaaGreatG6
import Derived.Test.YtmkgjnphianalaaGreatG8
namespace Go.Proofs.YtmkgjnphianalaaGreat.Ax
open Go
set_option maxRecDepth 100000
set_option maxHeartbeats 4000000
noncomputable def Cv (n0:Int):(Int×(List Int)×Sl1Cur)→Option ((Int×(List Int)×Sl1Cur) ⊕ ((List Int)×Sl1Cur)):=fun (x6,x5,x53)=>
 if x6<n0 then
 ask (InI ((↑x5.length:Int)+(1:Int))) <|
 (A9 (x53) ((↑x5.length:Int)+(1:Int))).bind fun (r3,u4)=>
 ask (0≤(0:Int)∧(0:Int)≤r3∧r3≤((x5.length:Nat):Int)) <|
 ask ((Al Int).length+(List.take (r3.toNat-Int.toNat (0:Int)) (List.drop (Int.toNat (0:Int)) x5)).length≤LIM) <|
 ask ((Al Int++List.take (r3.toNat-Int.toNat (0:Int)) (List.drop (Int.toNat (0:Int)) x5)).length+([x6]).length≤LIM) <|
 ask (0≤r3∧r3≤(↑x5.length:Int)∧(↑x5.length:Int)≤((x5.length:Nat):Int)) <|
 ask ((Al Int++List.take (r3.toNat-Int.toNat (0:Int)) (List.drop (Int.toNat (0:Int)) x5)++[x6]).length+(List.take ((↑x5.length:Int).toNat-r3.toNat) (List.drop r3.toNat x5)).length≤LIM) <|
 ask (InI (x6+(1:Int))) <|
 some (.inl (x6+(1:Int),Al Int++List.take (r3.toNat-Int.toNat (0:Int)) (List.drop (Int.toNat (0:Int)) x5)++[x6]++List.take ((↑x5.length:Int).toNat-r3.toNat) (List.drop r3.toNat x5),u4))
 else
 some (.inr (x5,x53))
def I6 (n0:Int):(Int×(List Int)×Sl1Cur)→St:=fun s=>[(6,A.val (Ag s.1)),(5,A.val ((slr true 1 Ag) s.2.1)),(0,A.ref 53 []),(53,A.val ((rP true (Am false)) s.2.2)),(1,A.val (Ag (n0)))]
def Ou (n0:Int):((List Int)×Sl1Cur)→Tgt
 | s=>((Ex.exit 0),[5,0,53,1],[(5,A.val ((slr true 1 Ag) s.1)),(0,A.ref 53 []),(53,A.val ((rP true (Am false)) s.2)),(1,A.val (Ag (n0)))])
theorem Z4 {n0:Int} (s:(Int×(List Int)×Sl1Cur)) (o:(Int×(List Int)×Sl1Cur) ⊕ ((List Int)×Sl1Cur)) (h:Cv n0 s=some o):vc Tryz.prog Oi (Cr [6,5,0,53,1] (I6 n0) (Ou n0) o) (I6 n0 s):=by
 obtain ⟨x6,x5,x53⟩:=s
 unfold Cv at h
 try dsimp only at h
 refine Br.od h (fun p1 h=> ?_) (fun p1 h=> ?_)
 ·refine Len.map<|Ask.o h fun p2 h=>CallQ.io Ag (rP true (Am false)) (by rfl) rfl (fun _=>rfl) (fun _=>⟨rfl,rfl⟩) rfl h (fun r h=>Bh h) (fun r3 u4 h=> ?_)
  refine FrzQ.d (V.sl false (1:Nat) (List.map Ag x5)) (by first | (simp only [slr];done) | (simp [Ak,V.fz,Ab,slr];done) | (simp [Ak,V.fz,fzL,Ab,slr];done))<|BslQ.o Ag (Al Int) (by exact fun _=>⟨rfl,rfl⟩) (by first | rfl | (simp only [Aa,V.fz,fzL,V.up,upL,Ab,Ac,Ad,slr,List.cons_append,List.nil_append];done) | simp [Aa,V.fz,fzL,V.up,upL,Ab,Ac,Ad,slr])<|SlcQ.o Ag h fun h=>AppQ.o (m:=1) Ag (by exact fun _=>⟨rfl,rfl⟩) (Al Int) (List.take (r3.toNat-Int.toNat (0:Int)) (List.drop (Int.toNat (0:Int)) x5)) (by rfl) (by rfl) h fun h=>BslQ.o Ag [x6] (by exact fun _=>⟨rfl,rfl⟩) (by first | rfl | (simp only [Aa,V.fz,fzL,V.up,upL,Ab,Ac,Ad,slr,List.cons_append,List.nil_append];done) | simp [Aa,V.fz,fzL,V.up,upL,Ab,Ac,Ad,slr])<|NoOwn.o (fun _=>rfl)<|AppQ.o (m:=1) Ag (by exact fun _=>⟨rfl,rfl⟩) (Al Int++List.take (r3.toNat-Int.toNat (0:Int)) (List.drop (Int.toNat (0:Int)) x5)) ([x6]) (by rfl) (by rfl) h fun h=>Len.map<|SlcQ.o Ag h fun h=>AppQ.o (m:=1) Ag (by exact fun _=>⟨rfl,rfl⟩) (Al Int++List.take (r3.toNat-Int.toNat (0:Int)) (List.drop (Int.toNat (0:Int)) x5)++[x6]) (List.take ((↑x5.length:Int).toNat-r3.toNat) (List.drop r3.toNat x5)) (by rfl) (by rfl) h fun h=>Ask.o h fun p5 h=> ?_
  cases h;exact ⟨rfl,rfl⟩
 cases h;exact ⟨rfl,rfl⟩
noncomputable def Co (c0:Sl1Cur) (n0:Int):Option ((List Int)×Sl1Cur):=
 (Aj (Cv n0) ((0:Int),Al Int,c0)).bind fun (q6_5,q6_53)=>
 (A9 (q6_53) ((24:Int))).bind fun (r7,u8)=>
 if r7=(0:Int) then
 ask ((q6_5).length+([n0]).length≤LIM) <|
 some (q6_5++[n0],u8)
 else
 if r7=(1:Int) then
 if n0>(0:Int) then
 (A9 (u8) (n0)).bind fun (r12,u13)=>
 (B9 (u13) ([(0:Int),(-1:Int),n0])).bind fun (r14,u15)=>
 ask ((0:Int)≤r12∧r12<(↑q6_5.length:Int)) <|
 some (q6_5.set r12.toNat r14,u15)
 else
 some (q6_5,u8)
 else
 some (q6_5,u8)
theorem Sm {c0:Sl1Cur} {n0:Int} {v:((List Int)×Sl1Cur)} (h:Co c0 n0=some v):I9 Tryz.prog H8 [(rP true (Am false)) c0,Ag n0] ((slr true 1 Ag) v.1) 0 ((rP true (Am false)) v.2):=by
 refine Lg Adu (Nat.le_of_ble_eq_true rfl) ?_
 unfold Co at h
 refine BslQ.o Ag (Al Int) (by exact fun _=>⟨rfl,rfl⟩) (by first | rfl | (simp only [Aa,V.fz,fzL,V.up,upL,Ab,Ac,Ad,slr,List.cons_append,List.nil_append];done) | simp [Aa,V.fz,fzL,V.up,upL,Ab,Ac,Ad,slr])<|LoopQ.o [6,5,0,53,1] (I6 n0) (Ou n0) h (fun s o h=>Z4 s o h) (by rfl) (fun _=>rfl) ?_
 rintro ⟨q6_5,q6_53⟩ h
 try dsimp only at h
 refine CallQ.io Ag (rP true (Am false)) (by rfl) rfl (fun _=>rfl) (fun _=>⟨rfl,rfl⟩) rfl h (fun r h=>Bh h) (fun r7 u8 h=> ?_)
 refine Br.oe h (fun p9 h=> ?_) (fun p9 h=> ?_)
 ·refine BslQ.o Ag [n0] (by exact fun _=>⟨rfl,rfl⟩) (by first | rfl | (simp only [Aa,V.fz,fzL,V.up,upL,Ab,Ac,Ad,slr,List.cons_append,List.nil_append];done) | simp [Aa,V.fz,fzL,V.up,upL,Ab,Ac,Ad,slr])<|NoOwn.o (fun _=>rfl)<|AppQ.o (m:=1) Ag (by exact fun _=>⟨rfl,rfl⟩) (q6_5) ([n0]) (by rfl) (by rfl) h fun h=> ?_
  cases h;exact ⟨(by rfl),(by rfl)⟩
 refine Br.oe h (fun p10 h=> ?_) (fun p10 h=> ?_)
 ·refine Br.od h (fun p11 h=> ?_) (fun p11 h=> ?_)
  ·refine CallQ.io Ag (rP true (Am false)) (by rfl) rfl (fun _=>rfl) (fun _=>⟨rfl,rfl⟩) rfl h (fun r h=>Bh h) (fun r12 u13 h=> ?_)
   refine BslQ.o Ag ([(0:Int),(-1:Int),n0]) (by exact fun _=>⟨rfl,rfl⟩) (by first | rfl | (simp only [Aa,V.fz,fzL,V.up,upL,Ab,Ac,Ad,slr,List.cons_append,List.nil_append];done) | simp [Aa,V.fz,fzL,V.up,upL,Ab,Ac,Ad,slr])<|CallQ.io Ag (rP true (Am false)) (by first | rfl | (simp only [Aa,Ak,V.fz,fzL,Ab,Ac,slr];done) | simp [Aa,Ak,V.fz,fzL,V.up,upL,Ab,Ac,Ad,slr]) rfl (fun _=>rfl) (fun _=>⟨rfl,rfl⟩) rfl h (fun r h=>C1 h) (fun r14 u15 h=> ?_)
   refine Len.map<|Ask.o h fun p16 h=>SetKids.one (fun _=>⟨rfl,rfl⟩) (r14) (by rfl) (by first | omega | (simp [Aq] at * <;> omega)) ?_
   cases h;exact ⟨(by rfl),(by rfl)⟩
  cases h;exact ⟨(by rfl),(by rfl)⟩
 cases h;exact ⟨(by rfl),(by rfl)⟩
noncomputable def D8 (_a0:SAlgebra) (names0:List Int) (_x18:Int) (_x26:Int) (_x5':SAlgebra) (r6:List Int):(Int×(List Int))→Option ((Int×(List Int)) ⊕ (List Int)):=fun (x39,x10)=>
 if x39<(↑r6.length:Int) then
 ask ((0:Int)≤x39∧x39<(↑x10.length:Int)) <|
 ask ((0:Int)≤nth x10 x39.toNat∧nth x10 x39.toNat<(↑names0.length:Int)) <|
 ask ((0:Int)≤x39∧x39<(↑x10.length:Int)) <|
 ask (InI (x39+(1:Int))) <|
 some (.inl (x39+(1:Int),x10.set x39.toNat (nth names0 (nth x10 x39.toNat).toNat)))
 else
 some (.inr x10)
def Qf (a0:SAlgebra) (names0:List Int) (x18:Int) (x26:Int) (x5':SAlgebra) (r6:List Int):(Int×(List Int))→St:=fun s=>[(39,A.val (Ag s.1)),(38,A.val (Ag ((↑r6.length:Int)))),(37,A.ref 10 []),(10,A.val ((slr true 1 Ag) s.2)),(9,A.val (Ag (nth (nth a0.Ops x18.toNat).Table x26.toNat))),(26,A.val (Ag (x26))),(25,A.val (Ag ((↑(nth a0.Ops x18.toNat).Table.length:Int)))),(24,A.val ((slr false 1 Ag) ((nth a0.Ops x18.toNat).Table))),(6,A.val (Ag (x18))),(7,A.val ((rP true (Aw false)) (nth a0.Ops x18.toNat))),(18,A.val (Ag (x18))),(17,A.val (Ag ((↑a0.Ops.length:Int)))),(16,A.val ((slr false 2 (Aw false)) (a0.Ops))),(5,A.val ((rP true (Ae true)) (x5'))),(4,A.val ((rP true (Ae true)) ({ Size:=(0:Int),Ops:=Al SOp }))),(2,A.val ((rP true (Ae false)) (a0))),(1,A.val ((slr false 1 Ag) (names0)))]
def X6 (a0:SAlgebra) (names0:List Int) (x18:Int) (x26:Int) (x5':SAlgebra) (_r6:List Int):(List Int)→Tgt
 | s=>((Ex.exit 4),[10,9,26,25,24,6,7,18,17,16,5,4,2,1],[(10,A.val ((slr true 1 Ag) s)),(9,A.val (Ag (nth (nth a0.Ops x18.toNat).Table x26.toNat))),(26,A.val (Ag (x26))),(25,A.val (Ag ((↑(nth a0.Ops x18.toNat).Table.length:Int)))),(24,A.val ((slr false 1 Ag) ((nth a0.Ops x18.toNat).Table))),(6,A.val (Ag (x18))),(7,A.val ((rP true (Aw false)) (nth a0.Ops x18.toNat))),(18,A.val (Ag (x18))),(17,A.val (Ag ((↑a0.Ops.length:Int)))),(16,A.val ((slr false 2 (Aw false)) (a0.Ops))),(5,A.val ((rP true (Ae true)) (x5'))),(4,A.val ((rP true (Ae true)) ({ Size:=(0:Int),Ops:=Al SOp }))),(2,A.val ((rP true (Ae false)) (a0))),(1,A.val ((slr false 1 Ag) (names0)))])
theorem Aif {a0:SAlgebra} {names0:List Int} {x18:Int} {x26:Int} {x5':SAlgebra} {r6:List Int} (s:(Int×(List Int))) (o:(Int×(List Int)) ⊕ (List Int)) (h:D8 a0 names0 x18 x26 x5' r6 s=some o):vc Tryz.prog Yi (Cr [39,38,37,10,9,26,25,24,6,7,18,17,16,5,4,2,1] (Qf a0 names0 x18 x26 x5' r6) (X6 a0 names0 x18 x26 x5' r6) o) (Qf a0 names0 x18 x26 x5' r6 s):=by
 obtain ⟨x39,x10⟩:=s
 unfold D8 at h
 try dsimp only at h
 refine Br.od h (fun p7 h=> ?_) (fun p7 h=> ?_)
 ·refine Len.map<|Ask.o h fun p8 h=>Cells.one (fun _=>⟨rfl,rfl⟩) (by first | omega | (simp [Aq] at * <;> omega))<|Len.map<|Ask.o h fun p9 h=>Elem.o (by first | omega | (simp [Aq] at * <;> omega))<|Len.map<|Ask.o h fun p10 h=>SetKids.one (fun _=>⟨rfl,rfl⟩) (nth names0 (nth x10 x39.toNat).toNat) (by rfl) (by first | omega | (simp [Aq] at * <;> omega))<|Ask.o h fun p11 h=> ?_
  cases h;exact ⟨rfl,rfl⟩
 cases h;exact ⟨rfl,rfl⟩
noncomputable def Fb (a0:SAlgebra) (names0:List Int) (x18:Int):(Int×SAlgebra)→Option ((Int×SAlgebra) ⊕ SAlgebra):=fun (x26,x5')=>
 if x26<(↑(nth a0.Ops x18.toNat).Table.length:Int) then
 ask ((0:Int)≤x26∧x26<(↑(nth a0.Ops x18.toNat).Table.length:Int)) <|
 (L9 (x26) ((nth a0.Ops x18.toNat).Arity) (a0.Size)).bind fun r6=>
 (Aj (D8 a0 names0 x18 x26 x5' r6) ((0:Int),r6)).bind fun q12_10=>
 ask ((0:Int)≤x18∧x18<(↑x5'.Ops.length:Int)) <|
 (Ks (q12_10) (a0.Size)).bind fun r14=>
 ask ((0:Int)≤nth (nth a0.Ops x18.toNat).Table x26.toNat∧nth (nth a0.Ops x18.toNat).Table x26.toNat<(↑names0.length:Int)) <|
 ask ((0:Int)≤r14∧r14<(↑(nth x5'.Ops x18.toNat).Table.length:Int)) <|
 ask (InI (x26+(1:Int))) <|
 some (.inl (x26+(1:Int),{ Size:=x5'.Size,Ops:=x5'.Ops.set x18.toNat { Arity:=(nth x5'.Ops x18.toNat).Arity,Table:=(nth x5'.Ops x18.toNat).Table.set r14.toNat (nth names0 (nth (nth a0.Ops x18.toNat).Table x26.toNat).toNat) } }))
 else
 some (.inr x5')
def Pr (a0:SAlgebra) (names0:List Int) (x18:Int):(Int×SAlgebra)→St:=fun s=>[(26,A.val (Ag s.1)),(25,A.val (Ag ((↑(nth a0.Ops x18.toNat).Table.length:Int)))),(24,A.val ((slr false 1 Ag) ((nth a0.Ops x18.toNat).Table))),(6,A.val (Ag (x18))),(7,A.val ((rP true (Aw false)) (nth a0.Ops x18.toNat))),(18,A.val (Ag (x18))),(17,A.val (Ag ((↑a0.Ops.length:Int)))),(16,A.val ((slr false 2 (Aw false)) (a0.Ops))),(5,A.val ((rP true (Ae true)) s.2)),(4,A.val ((rP true (Ae true)) ({ Size:=(0:Int),Ops:=Al SOp }))),(2,A.val ((rP true (Ae false)) (a0))),(1,A.val ((slr false 1 Ag) (names0)))]
def X2 (a0:SAlgebra) (names0:List Int) (x18:Int):SAlgebra→Tgt
 | s=>((Ex.exit 2),[18,17,16,5,4,2,1],[(18,A.val (Ag (x18))),(17,A.val (Ag ((↑a0.Ops.length:Int)))),(16,A.val ((slr false 2 (Aw false)) (a0.Ops))),(5,A.val ((rP true (Ae true)) s)),(4,A.val ((rP true (Ae true)) ({ Size:=(0:Int),Ops:=Al SOp }))),(2,A.val ((rP true (Ae false)) (a0))),(1,A.val ((slr false 1 Ag) (names0)))])
theorem Ait {a0:SAlgebra} {names0:List Int} {x18:Int} (s:(Int×SAlgebra)) (o:(Int×SAlgebra) ⊕ SAlgebra) (h:Fb a0 names0 x18 s=some o):vc Tryz.prog Xm (Cr [26,25,24,6,7,18,17,16,5,4,2,1] (Pr a0 names0 x18) (X2 a0 names0 x18) o) (Pr a0 names0 x18 s):=by
 obtain ⟨x26,x5'⟩:=s
 unfold Fb at h
 try dsimp only at h
 refine Br.od h (fun p4 h=> ?_) (fun p4 h=> ?_)
 ·refine Len.map ?_
  refine Ask.o h fun p5 h=> ?_
  refine Elem.o (by first | omega | (simp [Aq] at * <;> omega)) ?_
  refine Cells.lit rfl rfl ?_
  refine Cells.lit rfl rfl ?_
  refine CallQ.o (slr true 1 Ag) (by rfl) h (fun r h=>Aq5 h) (fun r6 h=> ?_)
  refine Len.map ?_
  refine LoopQ.o [39,38,37,10,9,26,25,24,6,7,18,17,16,5,4,2,1] (Qf a0 names0 x18 x26 x5' r6) (X6 a0 names0 x18 x26 x5' r6) h (fun s o h=>Aif s o h) (by rfl) (fun _=>rfl) ?_
  rintro q12_10 h
  try dsimp only at h
  refine Cells.lit rfl rfl ?_
  refine Kid.lit rfl rfl ?_
  refine Len.map ?_
  refine Ask.o h fun p13 h=> ?_
  refine Kid.lit rfl rfl ?_
  refine Cells.wide (by exact fun _=>⟨rfl,rfl⟩) (by first | omega | (simp [Aq] at * <;> omega)) (by decide) ?_
  refine Cells.lit rfl rfl ?_
  refine CallP.rd Ag (by first | rfl | simp only [V.fz,Ab,slr] | simp [Aa,V.fz,fzL,V.up,upL,Ab,Ac,Ad,slr]) (fun _=>rfl) h (fun r h=>Anh h) (fun r14 h=> ?_)
  refine Len.map ?_
  refine Ask.o h fun p15 h=> ?_
  refine Elem.o (by first | omega | (simp [Aq] at * <;> omega)) ?_
  refine Kid.lit rfl rfl ?_
  refine Kid.wide (by exact fun _=>⟨rfl,rfl⟩) (by first | omega | (simp [Aq] at * <;> omega)) (by rfl) ?_
  refine Len.map ?_
  refine Ask.o h fun p16 h=> ?_
  refine Kid.lit rfl rfl ?_
  refine Kid.wide (by exact fun _=>⟨rfl,rfl⟩) (by first | omega | (simp [Aq] at * <;> omega)) (by rfl) ?_
  refine SetKids.one (fun _=>⟨rfl,rfl⟩) (nth names0 (nth (nth a0.Ops x18.toNat).Table x26.toNat).toNat) (by rfl) (by first | omega | (simp [Aq] at * <;> omega)) ?_
  refine Kid.lit rfl rfl ?_
  refine Kid.wide (by exact fun _=>⟨rfl,rfl⟩) (by first | omega | (simp [Aq] at * <;> omega)) (by rfl) ?_
  refine SetKids.wide (by exact fun _=>⟨rfl,rfl⟩) ({ Arity:=(nth x5'.Ops x18.toNat).Arity,Table:=(nth x5'.Ops x18.toNat).Table.set r14.toNat (nth names0 (nth (nth a0.Ops x18.toNat).Table x26.toNat).toNat) }) (by first | omega | (simp [Aq] at * <;> omega)) (by rfl) (by decide) ?_
  refine SetKids.lit rfl ?_
  refine Ask.o h fun p17 h=> ?_
  cases h;exact ⟨rfl,rfl⟩
 cases h;exact ⟨rfl,rfl⟩
noncomputable def E3 (a0:SAlgebra) (names0:List Int):(Int×SAlgebra)→Option ((Int×SAlgebra) ⊕ SAlgebra):=fun (x18,x5)=>
 if x18<(↑a0.Ops.length:Int) then
 ask ((0:Int)≤x18∧x18<(↑a0.Ops.length:Int)) <|
 (Aj (Fb a0 names0 x18) ((0:Int),x5)).bind fun q18_5=>
 ask (InI (x18+(1:Int))) <|
 some (.inl (x18+(1:Int),q18_5))
 else
 some (.inr x5)
def Pq (a0:SAlgebra) (names0:List Int):(Int×SAlgebra)→St:=fun s=>[(18,A.val (Ag s.1)),(17,A.val (Ag ((↑a0.Ops.length:Int)))),(16,A.val ((slr false 2 (Aw false)) (a0.Ops))),(5,A.val ((rP true (Ae true)) s.2)),(4,A.val ((rP true (Ae true)) ({ Size:=(0:Int),Ops:=Al SOp }))),(2,A.val ((rP true (Ae false)) (a0))),(1,A.val ((slr false 1 Ag) (names0)))]
def Xh (_a0:SAlgebra) (_names0:List Int):SAlgebra→Tgt
 | s=>((Ex.exit 0),[5,4],[(5,A.val ((rP true (Ae true)) s)),(4,A.val ((rP true (Ae true)) ({ Size:=(0:Int),Ops:=Al SOp })))])
theorem Aik {a0:SAlgebra} {names0:List Int} (s:(Int×SAlgebra)) (o:(Int×SAlgebra) ⊕ SAlgebra) (h:E3 a0 names0 s=some o):vc Tryz.prog Ys (Cr [18,17,16,5,4,2,1] (Pq a0 names0) (Xh a0 names0) o) (Pq a0 names0 s):=by
 obtain ⟨x18,x5⟩:=s
 unfold E3 at h
 try dsimp only at h
 refine Br.od h (fun p2 h=> ?_) (fun p2 h=> ?_)
 ·refine Len.map<|Ask.o h fun p3 h=>Elem.o (by first | omega | (simp [Aq] at * <;> omega))<|SetKids.lit rfl<|Cells.lit rfl rfl<|Len.map<|LoopQ.o [26,25,24,6,7,18,17,16,5,4,2,1] (Pr a0 names0 x18) (X2 a0 names0 x18) h (fun s o h=>Ait s o h) (by rfl) (fun _=>rfl) ?_
  rintro q18_5 h
  try dsimp only at h
  refine Ask.o h fun p19 h=> ?_
  cases h;exact ⟨rfl,rfl⟩
 cases h;exact ⟨rfl,rfl⟩
noncomputable def Lt (a0:SAlgebra) (names0:(List Int)):Option SAlgebra:=
 (Gd (a0)).bind fun r1=>
 (Aj (E3 a0 names0) ((0:Int),r1)).bind fun q20_5=>
 some q20_5
theorem Ar3 {a0:SAlgebra} {names0:(List Int)} {v:SAlgebra} (h:Lt a0 names0=some v):Ret Tryz.prog Wp [(Ae false) a0,(slr false 1 Ag) names0] ((Ae true) v):=by
 refine A6 Asa (Nat.le_of_ble_eq_true rfl) ?_
 unfold Lt at h
 refine Cells.lit rfl rfl<|CallQ.o (Ae true) (by rfl) h (fun r h=>Ady h) (fun r1 h=> ?_)
 refine SetKids.lit rfl<|Cells.lit rfl rfl<|Len.map<|LoopQ.o [18,17,16,5,4,2,1] (Pq a0 names0) (Xh a0 names0) h (fun s o h=>Aik s o h) (by rfl) (fun _=>rfl) ?_
 rintro q20_5 h
 try dsimp only at h
 refine Cells.lit rfl rfl<|SetKids.lit rfl ?_
 cases h;exact (by rfl)
noncomputable def Rf (a0:SAlgebra) (sub0:(List Int)):Option Bool:=
 ask (InI (a0.Size-(1:Int))) <|
 (Ja (sub0) ((0:Int)) (a0.Size-(1:Int))).bind fun r2=>
 if (r2)=true then
 (K8 (a0) (sub0)).bind fun r4=>
 (Hy (r4) (sub0)).bind fun r5=>
 some r5
 else
 some false
theorem Axk {a0:SAlgebra} {sub0:(List Int)} {v:Bool} (h:Rf a0 sub0=some v):Ret Tryz.prog Ab9 [(Ae false) a0,(slr false 1 Ag) sub0] (V.bool v):=by
 refine A6 Aw7 (Nat.le_of_ble_eq_true rfl) ?_
 unfold Rf at h
 refine Cells.lit rfl rfl<|Ask.o h fun p1 h=>CallQ.o V.bool (by rfl) h (fun r h=>Alh h) (fun r2 h=> ?_)
 refine Br.ob h (fun p3 h=> ?_) (fun p3 h=> ?_)
 ·refine Cells.lit rfl rfl<|Br.yes<|Br.yes<|CallQ.o (slr true 1 Ag) (by rfl) h (fun r h=>Aoe h) (fun r4 h=> ?_)
  refine Br.yes<|Br.yes<|CallQ.rd V.bool (by first | rfl | simp only [V.fz,V.up,Ab,slr] | simp [Aa,V.fz,fzL,V.up,upL,Ab,Ac,Ad,slr]) (fun _=>rfl) h (fun r h=>Wu h) (fun r5 h=> ?_)
  refine Br.yes ?_
  cases h;exact (by rfl)
 refine Br.no<|Br.no<|Br.no<|Br.no<|Br.no ?_
 cases h;exact (by rfl)
noncomputable def Mf (a0:SAlgebra) (b0:SAlgebra):Option (Bool×Bool):=
 (C2 (a0)).bind fun r1=>
 if (r1)=true then
 (C2 (b0)).bind fun r3=>
 if (r3)=true then
 (Jz (a0)).bind fun r5=>
 (Jz (b0)).bind fun r6=>
 (Hc (r5) (r6)).bind fun r7=>
 some (r7,true)
 else
 some (false,false)
 else
 some (false,false)
theorem Alr {a0:SAlgebra} {b0:SAlgebra} {v:(Bool×Bool)} (h:Mf a0 b0=some v):Ret Tryz.prog Rw [(Ae false) a0,(Ae false) b0] ((fun r=>V.tup [V.bool r.1,V.bool r.2]) v):=by
 refine A6 Amd (Nat.le_of_ble_eq_true rfl) ?_
 unfold Mf at h
 refine Cells.lit rfl rfl<|CallQ.o V.bool (by rfl) h (fun r h=>Gm h) (fun r1 h=> ?_)
 refine Br.flip<|Br.ob h (fun p2 h=> ?_) (fun p2 h=> ?_)
 ·refine Cells.lit rfl rfl<|Br.no<|CallQ.o V.bool (by rfl) h (fun r h=>Gm h) (fun r3 h=> ?_)
  refine Br.no<|Br.no<|Br.flip<|Br.ob h (fun p4 h=> ?_) (fun p4 h=> ?_)
  ·refine Cells.lit rfl rfl<|CallP.o (slr true 1 Ag) (by rfl) h (fun r h=>Aei h) (fun r5 h=> ?_)
   refine Cells.lit rfl rfl<|CallQ.o (slr true 1 Ag) (by rfl) h (fun r h=>Aei h) (fun r6 h=> ?_)
   refine CallQ.rd V.bool (by first | rfl | simp only [V.fz,Ab,slr] | simp [Aa,V.fz,fzL,V.up,upL,Ab,Ac,Ad,slr]) (fun _=>rfl) h (fun r h=>Aap h) (fun r7 h=> ?_)
   cases h;exact (by rfl)
  cases h;exact (by rfl)
 refine Br.yes<|Br.yes<|Br.yes<|Br.yes ?_
 cases h;exact (by rfl)
end Go.Proofs.YtmkgjnphianalaaGreat.Ax
