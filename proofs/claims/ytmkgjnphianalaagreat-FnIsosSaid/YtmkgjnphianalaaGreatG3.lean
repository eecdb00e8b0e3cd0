/-
 What the functions compute, as functions on plain data, and that the program does compute it; written by program.
-/
import Derived.Test.YtmkgjnphianalaaGreatCode
import Derived.Test.YtmkgjnphianalaaGreatG1
import Derived.Test.YtmkgjnphianalaaGreatG2
namespace Go.Proofs.YtmkgjnphianalaaGreat.Ax
open Go
set_option maxRecDepth 100000
set_option maxHeartbeats 4000000
noncomputable def Ij (in0:List Bool):(Int×(List Int))→Option ((Int×(List Int)) ⊕ (List Int)):=fun (x4,x3)=>
 if x4<(↑in0.length:Int) then
 ask ((0:Int)≤x4∧x4<(↑in0.length:Int)) <|
 if (nth in0 x4.toNat)=true then
 ask ((x3).length+([x4]).length≤LIM) <|
 ask (InI (x4+(1:Int))) <|
 some (.inl (x4+(1:Int),x3++[x4]))
 else
 ask (InI (x4+(1:Int))) <|
 some (.inl (x4+(1:Int),x3))
 else
 some (.inr x3)
def Pj (in0:List Bool):(Int×(List Int))→St:=fun s=>[(4,A.val (Ag s.1)),(3,A.val ((slr true 1 Ag) s.2)),(0,A.val ((slr false 1 V.bool) (in0)))]
def Xn (_in0:List Bool):(List Int)→Tgt
 | s=>((Ex.exit 0),[3],[(3,A.val ((slr true 1 Ag) s))])
theorem Ai7 {in0:List Bool} (s:(Int×(List Int))) (o:(Int×(List Int)) ⊕ (List Int)) (h:Ij in0 s=some o):vc Tryz.prog Xr (Cr [4,3,0] (Pj in0) (Xn in0) o) (Pj in0 s):=by
 obtain ⟨x4,x3⟩:=s
 unfold Ij at h
 try dsimp only at h
 refine Len.map<|Br.od h (fun p1 h=> ?_) (fun p1 h=> ?_)
 ·refine Len.map<|Ask.o h fun p2 h=>Elem.o (by first | omega | (simp [Aq] at * <;> omega))<|Br.ob h (fun p3 h=> ?_) (fun p3 h=> ?_)
  ·refine BslQ.o Ag [x4] (by exact fun _=>⟨rfl,rfl⟩) (by first | rfl | (simp only [Aa,V.fz,fzL,V.up,upL,Ab,Ac,Ad,slr,List.cons_append,List.nil_append];done) | simp [Aa,V.fz,fzL,V.up,upL,Ab,Ac,Ad,slr])<|NoOwn.o (fun _=>rfl)<|AppQ.o (m:=1) Ag (by exact fun _=>⟨rfl,rfl⟩) (x3) ([x4]) (by rfl) (by rfl) h fun h=>Ask.o h fun p4 h=> ?_
   cases h;exact ⟨rfl,rfl⟩
  refine Ask.o h fun p5 h=> ?_
  cases h;exact ⟨rfl,rfl⟩
 cases h;exact ⟨rfl,rfl⟩
noncomputable def Lx (in0:(List Bool)):Option (List Int):=
 (Aj (Ij in0) ((0:Int),Al Int)).bind fun q6_3=>
 some q6_3
theorem Ar5 {in0:(List Bool)} {v:(List Int)} (h:Lx in0=some v):Ret Tryz.prog Ww [(slr false 1 V.bool) in0] ((slr true 1 Ag) v):=by
 refine A6 Are (Nat.le_of_ble_eq_true rfl) ?_
 unfold Lx at h
 refine BslQ.o Ag (Al Int) (by exact fun _=>⟨rfl,rfl⟩) (by first | rfl | (simp only [Aa,V.fz,fzL,V.up,upL,Ab,Ac,Ad,slr,List.cons_append,List.nil_append];done) | simp [Aa,V.fz,fzL,V.up,upL,Ab,Ac,Ad,slr])<|LoopQ.o [4,3,0] (Pj in0) (Xn in0) h (fun s o h=>Ai7 s o h) (by rfl) (fun _=>rfl) ?_
 rintro q6_3 h
 try dsimp only at h
 cases h;exact (by rfl)
noncomputable def Hp (list0:List Int) (x0:Int):Int→Option (Int ⊕ (Int ⊕ Unit)):=fun x5=>
 if x5<(↑list0.length:Int) then
 ask ((0:Int)≤x5∧x5<(↑list0.length:Int)) <|
 if nth list0 x5.toNat=x0 then
 some (.inr (.inl x5))
 else
 ask (InI (x5+(1:Int))) <|
 some (.inl (x5+(1:Int)))
 else
 some (.inr (.inr ()))
def Nv (list0:List Int) (x0:Int):Int→St:=fun s=>[(5,A.val (Ag s)),(0,A.val ((slr false 1 Ag) (list0))),(1,A.val (Ag (x0)))]
def Vq (_list0:List Int) (_x0:Int):(Int ⊕ Unit)→Tgt
 | (.inl s)=>(Ex.ret,[4],[(4,A.val (Ag s))])
 | (.inr _s)=>((Ex.exit 0),[],[])
theorem Aga {list0:List Int} {x0:Int} (x5:Int) (o:Int ⊕ (Int ⊕ Unit)) (h:Hp list0 x0 x5=some o):vc Tryz.prog Wg (Cr [5,0,1] (Nv list0 x0) (Vq list0 x0) o) (Nv list0 x0 x5):=by
 unfold Hp at h
 try dsimp only at h
 refine Len.map<|Br.od h (fun p1 h=> ?_) (fun p1 h=> ?_)
 ·refine Len.map<|Ask.o h fun p2 h=>Elem.o (by first | omega | (simp [Aq] at * <;> omega))<|Br.oe h (fun p3 h=> ?_) (fun p3 h=> ?_)
  ·cases h;exact ⟨rfl,rfl⟩
  refine Ask.o h fun p4 h=> ?_
  cases h;exact ⟨rfl,rfl⟩
 cases h;exact ⟨rfl,rfl⟩
noncomputable def Kr (list0:(List Int)) (x0:Int):Option Int:=
 (Aj (Hp list0 x0) (0:Int)).bind fun t=>match t with
 | (.inl q5_4)=>(some q5_4)
 | (.inr _)=>(some (-1:Int))
theorem Aos {list0:(List Int)} {x0:Int} {v:Int} (h:Kr list0 x0=some v):Ret Tryz.prog Uh [(slr false 1 Ag) list0,Ag x0] (Ag v):=by
 refine A6 Aox (Nat.le_of_ble_eq_true rfl) ?_
 unfold Kr at h
 refine LoopQ.o [5,0,1] (Nv list0 x0) (Vq list0 x0) h (fun s o h=>Aga s o h) (by rfl) (by rintro (_ | _)<;>rfl) ?_
 rintro (q5_4 | ⟨⟩) h
 ·try dsimp only at h
  cases h;exact (by rfl)
 try dsimp only at h
 cases h;exact (by rfl)
noncomputable def E8 (a0:SAlgebra):(Int×(List Int))→Option ((Int×(List Int)) ⊕ (List Int)):=fun (x10,x3)=>
 if x10<(↑a0.Ops.length:Int) then
 ask ((0:Int)≤x10∧x10<(↑a0.Ops.length:Int)) <|
 ask ((x3).length+([(nth a0.Ops x10.toNat).Arity]).length≤LIM) <|
 ask (InI (x10+(1:Int))) <|
 some (.inl (x10+(1:Int),x3++[(nth a0.Ops x10.toNat).Arity]))
 else
 some (.inr x3)
def P5 (a0:SAlgebra):(Int×(List Int))→St:=fun s=>[(10,A.val (Ag s.1)),(9,A.val (Ag ((↑a0.Ops.length:Int)))),(8,A.val ((slr false 2 (Aw false)) (a0.Ops))),(3,A.val ((slr true 1 Ag) s.2))]
def Yd (_a0:SAlgebra):(List Int)→Tgt
 | s=>((Ex.exit 0),[3],[(3,A.val ((slr true 1 Ag) s))])
theorem Aja {a0:SAlgebra} (s:(Int×(List Int))) (o:(Int×(List Int)) ⊕ (List Int)) (h:E8 a0 s=some o):vc Tryz.prog Zb (Cr [10,9,8,3] (P5 a0) (Yd a0) o) (P5 a0 s):=by
 obtain ⟨x10,x3⟩:=s
 unfold E8 at h
 try dsimp only at h
 refine Br.od h (fun p1 h=> ?_) (fun p1 h=> ?_)
 ·refine Len.map<|Ask.o h fun p2 h=>Elem.o (by first | omega | (simp [Aq] at * <;> omega))<|SetKids.lit rfl<|Cells.lit rfl rfl<|BslQ.o Ag ([(nth a0.Ops x10.toNat).Arity]) (by exact fun _=>⟨rfl,rfl⟩) (by first | rfl | (simp only [Aa,V.fz,fzL,V.up,upL,Ab,Ac,Ad,slr,List.cons_append,List.nil_append];done) | simp [Aa,V.fz,fzL,V.up,upL,Ab,Ac,Ad,slr])<|NoOwn.o (fun _=>rfl)<|AppQ.o (m:=1) Ag (by exact fun _=>⟨rfl,rfl⟩) (x3) ([(nth a0.Ops x10.toNat).Arity]) (by rfl) (by rfl) h fun h=>Ask.o h fun p3 h=> ?_
  cases h;exact ⟨rfl,rfl⟩
 cases h;exact ⟨rfl,rfl⟩
noncomputable def Jz (a0:SAlgebra):Option (List Int):=
 (Aj (E8 a0) ((0:Int),Al Int)).bind fun q4_3=>
 some q4_3
theorem Aei {a0:SAlgebra} {v:(List Int)} (h:Jz a0=some v):Ret Tryz.prog Qt [(Ae false) a0] ((slr true 1 Ag) v):=by
 refine A6 Aqv (Nat.le_of_ble_eq_true rfl) ?_
 unfold Jz at h
 refine BslQ.o Ag (Al Int) (by exact fun _=>⟨rfl,rfl⟩) (by first | rfl | (simp only [Aa,V.fz,fzL,V.up,upL,Ab,Ac,Ad,slr,List.cons_append,List.nil_append];done) | simp [Aa,V.fz,fzL,V.up,upL,Ab,Ac,Ad,slr])<|Cells.lit rfl rfl<|Len.map<|LoopQ.o [10,9,8,3] (P5 a0) (Yd a0) h (fun s o h=>Aja s o h) (by rfl) (fun _=>rfl) ?_
 rintro q4_3 h
 try dsimp only at h
 cases h;exact (by rfl)
noncomputable def E0 (a0:List Int) (b0:List Int):Int→Option (Int ⊕ (Bool ⊕ Unit)):=fun x5=>
 if x5<(↑a0.length:Int) then
 ask ((0:Int)≤x5∧x5<(↑a0.length:Int)) <|
 ask ((0:Int)≤x5∧x5<(↑b0.length:Int)) <|
 if nth a0 x5.toNat≠nth b0 x5.toNat then
 ask ((0:Int)≤x5∧x5<(↑a0.length:Int)) <|
 ask ((0:Int)≤x5∧x5<(↑b0.length:Int)) <|
 some (.inr (.inl (decide (nth a0 x5.toNat<nth b0 x5.toNat))))
 else
 ask (InI (x5+(1:Int))) <|
 some (.inl (x5+(1:Int)))
 else
 some (.inr (.inr ()))
def Pn (a0:List Int) (b0:List Int):Int→St:=fun s=>[(5,A.val (Ag s)),(0,A.val ((slr false 1 Ag) (a0))),(1,A.val ((slr false 1 Ag) (b0)))]
def Xe (_a0:List Int) (_b0:List Int):(Bool ⊕ Unit)→Tgt
 | (.inl s)=>(Ex.ret,[4],[(4,A.val (V.bool s))])
 | (.inr _s)=>((Ex.exit 0),[],[])
theorem Aim {a0:List Int} {b0:List Int} (x5:Int) (o:Int ⊕ (Bool ⊕ Unit)) (h:E0 a0 b0 x5=some o):vc Tryz.prog Yh (Cr [5,0,1] (Pn a0 b0) (Xe a0 b0) o) (Pn a0 b0 x5):=by
 unfold E0 at h
 try dsimp only at h
 refine Len.map<|Br.od h (fun p1 h=> ?_) (fun p1 h=> ?_)
 ·refine Len.map<|Ask.o h fun p2 h=>Elem.o (by first | omega | (simp [Aq] at * <;> omega))<|Len.map<|Ask.o h fun p3 h=>Elem.o (by first | omega | (simp [Aq] at * <;> omega))<|Br.on h (fun p4 h=> ?_) (fun p4 h=> ?_)
  ·refine Len.map<|Ask.o h fun p5 h=>Elem.o (by first | omega | (simp [Aq] at * <;> omega))<|Len.map<|Ask.o h fun p6 h=>Elem.o (by first | omega | (simp [Aq] at * <;> omega)) ?_
   cases h;exact ⟨rfl,rfl⟩
  refine Ask.o h fun p7 h=> ?_
  cases h;exact ⟨rfl,rfl⟩
 cases h;exact ⟨rfl,rfl⟩
noncomputable def Ma (a0:(List Int)) (b0:(List Int)):Option Bool:=
 (Aj (E0 a0 b0) (0:Int)).bind fun t=>match t with
 | (.inl q8_4)=>(some q8_4)
 | (.inr _)=>(some false)
theorem Arp {a0:(List Int)} {b0:(List Int)} {v:Bool} (h:Ma a0 b0=some v):Ret Tryz.prog W5 [(slr false 1 Ag) a0,(slr false 1 Ag) b0] (V.bool v):=by
 refine A6 Arj (Nat.le_of_ble_eq_true rfl) ?_
 unfold Ma at h
 refine LoopQ.o [5,0,1] (Pn a0 b0) (Xe a0 b0) h (fun s o h=>Aim s o h) (by rfl) (by rintro (_ | _)<;>rfl) ?_
 rintro (q8_4 | ⟨⟩) h
 ·try dsimp only at h
  cases h;exact (by rfl)
 try dsimp only at h
 cases h;exact (by rfl)
noncomputable def Dd (n0:Int) (f0:List Int):(Int×Int)→Option ((Int×Int) ⊕ (Unit ⊕ Unit)):=fun (x0,x1)=>
 if x1>(0:Int) then
 ask (n0≠(0:Int)) <|
 ask ((0:Int)≤x0.tmod n0∧x0.tmod n0<(↑f0.length:Int)) <|
 if nth f0 (x0.tmod n0).toNat<(0:Int) then
 some (.inr (.inl ()))
 else
 ask (n0≠(0:Int)∧InI (x0.tdiv n0)) <|
 ask (InI (x1-(1:Int))) <|
 some (.inl (x0.tdiv n0,x1-(1:Int)))
 else
 some (.inr (.inr ()))
def Ms (n0:Int) (f0:List Int):(Int×Int)→St:=fun s=>[(0,A.val (Ag s.1)),(1,A.val (Ag s.2)),(2,A.val (Ag (n0))),(3,A.val ((slr false 1 Ag) (f0)))]
def Tw (_n0:Int) (_f0:List Int):(Unit ⊕ Unit)→Tgt
 | (.inl _s)=>(Ex.ret,[8],[(8,A.val (V.bool (false)))])
 | (.inr _s)=>((Ex.exit 0),[],[])
theorem Afe {n0:Int} {f0:List Int} (s:(Int×Int)) (o:(Int×Int) ⊕ (Unit ⊕ Unit)) (h:Dd n0 f0 s=some o):vc Tryz.prog S8 (Cr [0,1,2,3] (Ms n0 f0) (Tw n0 f0) o) (Ms n0 f0 s):=by
 obtain ⟨x0,x1⟩:=s
 unfold Dd at h
 try dsimp only at h
 refine Br.od h (fun p1 h=> ?_) (fun p1 h=> ?_)
 ·refine Ask.o h fun p2 h=>Len.map<|Ask.o h fun p3 h=>Elem.o (by first | omega | (simp [Aq] at * <;> omega))<|Br.od h (fun p4 h=> ?_) (fun p4 h=> ?_)
  ·cases h;exact ⟨rfl,rfl⟩
  refine Ask.o h fun p5 h=>Ask.o h fun p6 h=> ?_
  cases h;exact ⟨rfl,rfl⟩
 cases h;exact ⟨rfl,rfl⟩
noncomputable def Jh (i0:Int) (arity0:Int) (n0:Int) (f0:(List Int)):Option Bool:=
 (Aj (Dd n0 f0) (i0,arity0)).bind fun t=>match t with
 | (.inl _)=>(some false)
 | (.inr _)=>(some true)
theorem Ama {i0:Int} {arity0:Int} {n0:Int} {f0:(List Int)} {v:Bool} (h:Jh i0 arity0 n0 f0=some v):Ret Tryz.prog R1 [Ag i0,Ag arity0,Ag n0,(slr false 1 Ag) f0] (V.bool v):=by
 refine A6 Aku (Nat.le_of_ble_eq_true rfl) ?_
 unfold Jh at h
 refine LoopQ.o [0,1,2,3] (Ms n0 f0) (Tw n0 f0) h (fun s o h=>Afe s o h) (by rfl) (by rintro (_ | _)<;>rfl) ?_
 rintro (⟨⟩ | ⟨⟩) h
 ·try dsimp only at h
  cases h;exact (by rfl)
 try dsimp only at h
 cases h;exact (by rfl)
noncomputable def Fd (a0:List (List Int)) (b0:List (List Int)):Int→Option (Int ⊕ (Unit ⊕ Unit)):=fun x5=>
 if x5<(↑a0.length:Int) then
 ask ((0:Int)≤x5∧x5<(↑a0.length:Int)) <|
 ask ((0:Int)≤x5∧x5<(↑b0.length:Int)) <|
 (Lk (nth a0 x5.toNat) (nth b0 x5.toNat)).bind fun r5=>
 if (r5)=true then
 ask (InI (x5+(1:Int))) <|
 some (.inl (x5+(1:Int)))
 else
 some (.inr (.inl ()))
 else
 some (.inr (.inr ()))
def Pu (a0:List (List Int)) (b0:List (List Int)):Int→St:=fun s=>[(5,A.val (Ag s)),(0,A.val ((slr false 1 (slr false 1 Ag)) (a0))),(1,A.val ((slr false 1 (slr false 1 Ag)) (b0)))]
def Yx (_a0:List (List Int)) (_b0:List (List Int)):(Unit ⊕ Unit)→Tgt
 | (.inl _s)=>(Ex.ret,[4],[(4,A.val (V.bool (false)))])
 | (.inr _s)=>((Ex.exit 0),[],[])
theorem Aiu {a0:List (List Int)} {b0:List (List Int)} (x5:Int) (o:Int ⊕ (Unit ⊕ Unit)) (h:Fd a0 b0 x5=some o):vc Tryz.prog Y8 (Cr [5,0,1] (Pu a0 b0) (Yx a0 b0) o) (Pu a0 b0 x5):=by
 unfold Fd at h
 try dsimp only at h
 refine Len.map<|Br.od h (fun p2 h=> ?_) (fun p2 h=> ?_)
 ·refine Len.map<|Ask.o h fun p3 h=>Elem.o (by first | omega | (simp [Aq] at * <;> omega))<|Len.map<|Ask.o h fun p4 h=>Elem.o (by first | omega | (simp [Aq] at * <;> omega))<|CallQ.o V.bool (by rfl) h (fun r h=>Ahe h) (fun r5 h=> ?_)
  refine Br.flip<|Br.ob h (fun p6 h=> ?_) (fun p6 h=> ?_)
  ·refine Ask.o h fun p7 h=> ?_
   cases h;exact ⟨rfl,rfl⟩
  cases h;exact ⟨rfl,rfl⟩
 cases h;exact ⟨rfl,rfl⟩
noncomputable def Gi (a0:(List (List Int))) (b0:(List (List Int))):Option Bool:=
 if (↑a0.length:Int)≠(↑b0.length:Int) then
 some false
 else
 (Aj (Fd a0 b0) (0:Int)).bind fun t=>match t with
 | (.inl _)=>(some false)
 | (.inr _)=>(some true)
theorem Qp {a0:(List (List Int))} {b0:(List (List Int))} {v:Bool} (h:Gi a0 b0=some v):Ret Tryz.prog Jt [(slr false 1 (slr false 1 Ag)) a0,(slr false 1 (slr false 1 Ag)) b0] (V.bool v):=by
 refine A6 Arb (Nat.le_of_ble_eq_true rfl) ?_
 unfold Gi at h
 refine Len.map<|Len.map<|Br.on h (fun p1 h=> ?_) (fun p1 h=> ?_)
 ·cases h;exact (by rfl)
 refine LoopQ.o [5,0,1] (Pu a0 b0) (Yx a0 b0) h (fun s o h=>Aiu s o h) (by rfl) (by rintro (_ | _)<;>rfl) ?_
 rintro (⟨⟩ | ⟨⟩) h
 ·try dsimp only at h
  cases h;exact (by rfl)
 try dsimp only at h
 cases h;exact (by rfl)
noncomputable def Ei (list0:List Int):(Int×(List Bool))→Option ((Int×(List Bool)) ⊕ (Unit ⊕ Unit)):=fun (x22,x5)=>
 if x22<(↑list0.length:Int) then
 ask ((0:Int)≤x22∧x22<(↑list0.length:Int)) <|
 ask ((0:Int)≤nth list0 x22.toNat∧nth list0 x22.toNat<(↑x5.length:Int)) <|
 if (nth x5 (nth list0 x22.toNat).toNat)=true then
 some (.inr (.inl ()))
 else
 ask ((0:Int)≤nth list0 x22.toNat∧nth list0 x22.toNat<(↑x5.length:Int)) <|
 ask (InI (x22+(1:Int))) <|
 some (.inl (x22+(1:Int),x5.set (nth list0 x22.toNat).toNat true))
 else
 some (.inr (.inr ()))
def Ot (list0:List Int):(Int×(List Bool))→St:=fun s=>[(22,A.val (Ag s.1)),(21,A.val (Ag ((↑list0.length:Int)))),(20,A.val ((slr false 1 Ag) (list0))),(5,A.val ((slr true 1 V.bool) s.2))]
def Vh (_list0:List Int):(Unit ⊕ Unit)→Tgt
 | (.inl _s)=>(Ex.ret,[4],[(4,A.val (V.bool (false)))])
 | (.inr _s)=>((Ex.exit 0),[],[])
theorem Agr {list0:List Int} (s:(Int×(List Bool))) (o:(Int×(List Bool)) ⊕ (Unit ⊕ Unit)) (h:Ei list0 s=some o):vc Tryz.prog V4 (Cr [22,21,20,5] (Ot list0) (Vh list0) o) (Ot list0 s):=by
 obtain ⟨x22,x5⟩:=s
 unfold Ei at h
 try dsimp only at h
 refine Br.od h (fun p6 h=> ?_) (fun p6 h=> ?_)
 ·refine Len.map<|Ask.o h fun p7 h=>Elem.o (by first | omega | (simp [Aq] at * <;> omega))<|Len.map<|Ask.o h fun p8 h=>Cells.one (fun _=>⟨rfl,rfl⟩) (by first | omega | (simp [Aq] at * <;> omega))<|Br.ob h (fun p9 h=> ?_) (fun p9 h=> ?_)
  ·cases h;exact ⟨rfl,rfl⟩
  refine Len.map<|Ask.o h fun p10 h=>SetKids.one (fun _=>⟨rfl,rfl⟩) (true) (by rfl) (by first | omega | (simp [Aq] at * <;> omega))<|Ask.o h fun p11 h=> ?_
  cases h;exact ⟨rfl,rfl⟩
 cases h;exact ⟨rfl,rfl⟩
noncomputable def Kt (list0:(List Int)) (n0:Int):Option Bool:=
 ((if (↑list0.length:Int)≠n0 then
 some (.inl ())
 else
 (Hw (list0) (n0)).bind fun r2=>
 if (r2)=true then
 some (.inr ())
 else
 some (.inl ()):Option (Unit ⊕ Unit))).bind fun t=>match t with
 | (.inl _)=>(some false)
 | (.inr _)=>(ask ((0:Int)≤n0∧n0≤(↑LIM:Int)) <|
 (Aj (Ei list0) ((0:Int),List.replicate n0.toNat false)).bind fun t=>match t with
 | (.inl _)=>(some false)
 | (.inr _)=>(some true))
theorem Ao6 {list0:(List Int)} {n0:Int} {v:Bool} (h:Kt list0 n0=some v):Ret Tryz.prog Uf [(slr false 1 Ag) list0,Ag n0] (V.bool v):=by
 refine A6 An3 (Nat.le_of_ble_eq_true rfl) ?_
 unfold Kt at h
 refine CutQ.o (fun t:(Unit ⊕ Unit)=>match t with | (.inl s)=>(Ex.ret,[4],[(4,A.val (V.bool (false)))]) | (.inr s)=>(Ex.normal,[0,1],[(0,A.val ((slr false 1 Ag) (list0))),(1,A.val (Ag (n0)))])) h ?_ ?_
 ·intro t h
  refine Len.map<|Br.on h (fun p1 h=> ?_) (fun p1 h=> ?_)
  ·refine Br.yes<|Br.yes<|Br.yes<|Br.yes<|Br.yes ?_
   cases h;exact ⟨rfl,rfl⟩
  refine Br.no<|Br.no<|CallQ.o V.bool (by rfl) h (fun r h=>W7 h) (fun r2 h=> ?_)
  refine Br.no<|Br.no<|Br.flip<|Br.ob h (fun p3 h=> ?_) (fun p3 h=> ?_)
  ·cases h;exact ⟨rfl,rfl⟩
  cases h;exact ⟨rfl,rfl⟩
 rintro (⟨⟩ | ⟨⟩) h
 ·try dsimp only at h
  cases h;exact (by rfl)
 try dsimp only at h
 refine Ask.o h fun p5 h=>MkQ.o V.bool (false) rfl<|Len.map<|LoopQ.o [22,21,20,5] (Ot list0) (Vh list0) h (fun s o h=>Agr s o h) (by rfl) (by rintro (_ | _)<;>rfl) ?_
 rintro (⟨⟩ | ⟨⟩) h
 ·try dsimp only at h
  cases h;exact (by rfl)
 try dsimp only at h
 cases h;exact (by rfl)
noncomputable def Ka (f0:(List Int)) (a1:(Unit)) (a2:(Option (List Int))):Option (Bool×(Option (List Int))):=
 match a1 with
 | _a1=>(match a2 with
 | none=>((Ls (f0)).bind fun r1=>
 if (r1)=true then
 (Fj (f0)).bind fun r3=>
 some (false,some r3)
 else
 some (true,none))
 | some a2=>((Ls (f0)).bind fun r4=>
 if (r4)=true then
 (Fj (f0)).bind fun r6=>
 some (false,some r6)
 else
 some (true,some a2)))
theorem Ag8 {f0:(List Int)} {a1:(Unit)} {a2:(Option (List Int))} {v:(Bool×(Option (List Int)))} (h:Ka f0 a1 a2=some v):I9 Tryz.prog Ho [(slr false 1 Ag) f0,(rP false Eh) a1,(rP true (rOw 1 Ag)) a2] (V.bool v.1) 2 ((rP true (rOw 1 Ag)) v.2):=by
 refine Lg Ah0 (Nat.le_of_ble_eq_true rfl) ?_
 unfold Ka at h
 rcases a1 with a1
 try dsimp only at h
 rcases a2 with _ | a2
 ·try dsimp only at h
  refine CloV.f<|CloQ.o V.bool (by rfl) (fun _=>by first | rfl | simp [C7,V.noFz,Ch,Bs,NoFz.eq]) h (fun r h=>Aed h) (fun r1 h=> ?_)
  refine Br.ob h (fun p2 h=> ?_) (fun p2 h=> ?_)
  ·refine CallQ.o (slr true 1 Ag) (by rfl) h (fun r h=>Om h) (fun r3 h=> ?_)
   refine SetKids.lit rfl ?_
   cases h;exact ⟨(by rfl),(by rfl)⟩
  cases h;exact ⟨(by rfl),(by rfl)⟩
 try dsimp only at h
 refine CloV.f<|CloQ.o V.bool (by rfl) (fun _=>by first | rfl | simp [C7,V.noFz,Ch,Bs,NoFz.eq]) h (fun r h=>Aed h) (fun r4 h=> ?_)
 refine Br.ob h (fun p5 h=> ?_) (fun p5 h=> ?_)
 ·refine CallQ.o (slr true 1 Ag) (by rfl) h (fun r h=>Om h) (fun r6 h=> ?_)
  refine SetKids.lit rfl ?_
  cases h;exact ⟨(by rfl),(by rfl)⟩
 cases h;exact ⟨(by rfl),(by rfl)⟩
noncomputable def Jw (a0:SAlgebra) (b0:SAlgebra):Option Bool:=
 (Jr (a0)).bind fun r1=>
 (Jr (b0)).bind fun r2=>
 (Hy (r1) (r2)).bind fun r3=>
 some r3
theorem Ad9 {a0:SAlgebra} {b0:SAlgebra} {v:Bool} (h:Jw a0 b0=some v):Ret Tryz.prog Qm [(Ae false) a0,(Ae false) b0] (V.bool v):=by
 refine A6 Aru (Nat.le_of_ble_eq_true rfl) ?_
 unfold Jw at h
 refine Cells.lit rfl rfl<|CallP.o (slr true 1 Ag) (by rfl) h (fun r h=>Ad8 h) (fun r1 h=> ?_)
 refine Cells.lit rfl rfl<|CallQ.o (slr true 1 Ag) (by rfl) h (fun r h=>Ad8 h) (fun r2 h=> ?_)
 refine CallQ.rd V.bool (by first | rfl | simp only [V.fz,Ab,slr] | simp [Aa,V.fz,fzL,V.up,upL,Ab,Ac,Ad,slr]) (fun _=>rfl) h (fun r h=>Wu h) (fun r3 h=> ?_)
 cases h;exact (by rfl)
end Go.Proofs.YtmkgjnphianalaaGreat.Ax
