/-
 What the functions compute, as functions on plain data, and that the program does compute it; written by program.
-/
import Derived.Test.YtmkgjnphianalaaCode
import Derived.Test.YtmkgjnphianalaaG1
import Derived.Test.YtmkgjnphianalaaG2
namespace Go.Proofs.Ytmkgjnphianalaa.Ax
open Go
set_option maxRecDepth 100000
set_option maxHeartbeats 4000000
noncomputable def Aq (c0:Sl1Cur) (n0:Int):Option (Int×Sl1Cur):=
 if n0≤(1:Int) then
 some ((0:Int),c0)
 else
 (Fc (c0)).bind fun (r2,u3)=>
 if n0>(200:Int) then
 ask (InI (r2*(256:Int))) <|
 (Fc (u3)).bind fun (r6,u7)=>
 ask (InI (r2*(256:Int)+r6)) <|
 ask (n0≠(0:Int)) <|
 some ((r2*(256:Int)+r6).tmod n0,u7)
 else
 ask (n0≠(0:Int)) <|
 some (r2.tmod n0,u3)
theorem A4 {c0:Sl1Cur} {n0:Int} {v:(Int×Sl1Cur)} (h:Aq c0 n0=some v):H8 Try.prog Au [(rP true (Aj false)) c0,Ag n0] (Ag v.1) 0 ((rP true (Aj false)) v.2):=by
 refine I7 Aei (Nat.le_of_ble_eq_true rfl) ?_
 unfold Aq at h
 refine Br.od h (fun p1 h=> ?_) (fun p1 h=> ?_)
 ·cases h;exact ⟨(by rfl),(by rfl)⟩
 refine CallQ.io Ag (rP true (Aj false)) (by rfl) rfl (fun _=>rfl) (fun _=>⟨rfl,rfl⟩) rfl h (fun r h=>Tk h) (fun r2 u3 h=> ?_)
 refine Br.od h (fun p4 h=> ?_) (fun p4 h=> ?_)
 ·refine Ask.o h fun p5 h=> ?_
  refine CallQ.io Ag (rP true (Aj false)) (by rfl) rfl (fun _=>rfl) (fun _=>⟨rfl,rfl⟩) rfl h (fun r h=>Tk h) (fun r6 u7 h=> ?_)
  refine Ask.o h fun p8 h=> ?_
  refine Ask.o h fun p9 h=> ?_
  cases h;exact ⟨(by rfl),(by rfl)⟩
 refine Ask.o h fun p10 h=> ?_
 cases h;exact ⟨(by rfl),(by rfl)⟩
noncomputable def Dx (a0:SAlgebra) (names0:List Int) (_x6:Int) (_x5:SAlgebra) (_x8:Int) (_x7:SOp) (r6:List Int):(Int×Int)→Option ((Int×Int) ⊕ Int):=fun (x11,x10)=>
 if x11<(↑r6.length:Int) then
 ask (InI (x10*a0.Size)) <|
 ask ((0:Int)≤x11∧x11<(↑r6.length:Int)) <|
 ask ((0:Int)≤nth r6 x11.toNat∧nth r6 x11.toNat<(↑names0.length:Int)) <|
 ask (InI (x10*a0.Size+nth names0 (nth r6 x11.toNat).toNat)) <|
 ask (InI (x11+(1:Int))) <|
 some (.inl (x11+(1:Int),x10*a0.Size+nth names0 (nth r6 x11.toNat).toNat))
 else
 some (.inr x10)
def Lm (a0:SAlgebra) (names0:List Int) (x6:Int) (x5:SAlgebra) (x8:Int) (x7:SOp) (r6:List Int):(Int×Int)→St:=fun s=>[(11,A.val (Ag s.1)),(10,A.val (Ag s.2)),(9,A.val ((slr true 1 Ag) (r6))),(8,A.val (Ag (x8))),(7,A.val ((rP true (A9 true)) (x7))),(6,A.val (Ag (x6))),(5,A.val ((rP true (Ae true)) (x5))),(4,A.val ((rP true (Ae true)) ({ Size:=(0:Int),Ops:=Ao SOp }))),(2,A.val ((rP true (Ae false)) (a0))),(1,A.val ((slr false 1 Ag) (names0)))]
def R9 (a0:SAlgebra) (names0:List Int) (x6:Int) (x5:SAlgebra) (x8:Int) (x7:SOp) (_r6:List Int):Int→Tgt
 | s=>((Ex.exit 4),[10,8,7,6,5,4,2,1],[(10,A.val (Ag s)),(8,A.val (Ag (x8))),(7,A.val ((rP true (A9 true)) (x7))),(6,A.val (Ag (x6))),(5,A.val ((rP true (Ae true)) (x5))),(4,A.val ((rP true (Ae true)) ({ Size:=(0:Int),Ops:=Ao SOp }))),(2,A.val ((rP true (Ae false)) (a0))),(1,A.val ((slr false 1 Ag) (names0)))])
theorem Acq {a0:SAlgebra} {names0:List Int} {x6:Int} {x5:SAlgebra} {x8:Int} {x7:SOp} {r6:List Int} (s:(Int×Int)) (o:(Int×Int) ⊕ Int) (h:Dx a0 names0 x6 x5 x8 x7 r6 s=some o):vc Try.prog So (C1 [11,10,9,8,7,6,5,4,2,1] (Lm a0 names0 x6 x5 x8 x7 r6) (R9 a0 names0 x6 x5 x8 x7 r6) o) (Lm a0 names0 x6 x5 x8 x7 r6 s):=by
 obtain ⟨x11,x10⟩:=s
 unfold Dx at h
 try dsimp only at h
 refine Len.map ?_
 refine Br.od h (fun p7 h=> ?_) (fun p7 h=> ?_)
 ·refine Cells.lit rfl rfl ?_
  refine Ask.o h fun p8 h=> ?_
  refine Len.map ?_
  refine Ask.o h fun p9 h=> ?_
  refine Cells.one (fun _=>⟨rfl,rfl⟩) (by first | omega | (simp [Aw] at * <;> omega)) ?_
  refine Len.map ?_
  refine Ask.o h fun p10 h=> ?_
  refine Elem.o (by first | omega | (simp [Aw] at * <;> omega)) ?_
  refine Ask.o h fun p11 h=> ?_
  refine Ask.o h fun p12 h=> ?_
  cases h;exact ⟨rfl,rfl⟩
 cases h;exact ⟨rfl,rfl⟩
noncomputable def Dv (a0:SAlgebra) (names0:List Int) (x6:Int) (x5:SAlgebra):(Int×SOp)→Option ((Int×SOp) ⊕ SOp):=fun (x8,x7)=>
 if x8<(↑x7.Table.length:Int) then
 (Fy (a0.Size) (x7.Arity) (x8)).bind fun r6=>
 (Al (Dx a0 names0 x6 x5 x8 x7 r6) ((0:Int),(0:Int))).bind fun q13_10=>
 ask ((0:Int)≤x6∧x6<(↑a0.Ops.length:Int)) <|
 ask ((0:Int)≤x8∧x8<(↑(nth a0.Ops x6.toNat).Table.length:Int)) <|
 ask ((0:Int)≤nth (nth a0.Ops x6.toNat).Table x8.toNat∧nth (nth a0.Ops x6.toNat).Table x8.toNat<(↑names0.length:Int)) <|
 ask ((0:Int)≤q13_10∧q13_10<(↑x7.Table.length:Int)) <|
 ask (InI (x8+(1:Int))) <|
 some (.inl (x8+(1:Int),{ Arity:=x7.Arity,Table:=x7.Table.set q13_10.toNat (nth names0 (nth (nth a0.Ops x6.toNat).Table x8.toNat).toNat) }))
 else
 some (.inr x7)
def Lq (a0:SAlgebra) (names0:List Int) (x6:Int) (x5:SAlgebra):(Int×SOp)→St:=fun s=>[(8,A.val (Ag s.1)),(7,A.val ((rP true (A9 true)) s.2)),(6,A.val (Ag (x6))),(5,A.val ((rP true (Ae true)) (x5))),(4,A.val ((rP true (Ae true)) ({ Size:=(0:Int),Ops:=Ao SOp }))),(2,A.val ((rP true (Ae false)) (a0))),(1,A.val ((slr false 1 Ag) (names0)))]
def Ss (a0:SAlgebra) (names0:List Int) (x6:Int) (x5:SAlgebra):SOp→Tgt
 | s=>((Ex.exit 2),[7,6,5,4,2,1],[(7,A.val ((rP true (A9 true)) s)),(6,A.val (Ag (x6))),(5,A.val ((rP true (Ae true)) (x5))),(4,A.val ((rP true (Ae true)) ({ Size:=(0:Int),Ops:=Ao SOp }))),(2,A.val ((rP true (Ae false)) (a0))),(1,A.val ((slr false 1 Ag) (names0)))])
theorem Ab8 {a0:SAlgebra} {names0:List Int} {x6:Int} {x5:SAlgebra} (s:(Int×SOp)) (o:(Int×SOp) ⊕ SOp) (h:Dv a0 names0 x6 x5 s=some o):vc Try.prog Sq (C1 [8,7,6,5,4,2,1] (Lq a0 names0 x6 x5) (Ss a0 names0 x6 x5) o) (Lq a0 names0 x6 x5 s):=by
 obtain ⟨x8,x7⟩:=s
 unfold Dv at h
 try dsimp only at h
 refine Cells.lit rfl rfl ?_
 refine Kid.lit rfl rfl ?_
 refine Len.map ?_
 refine Br.od h (fun p5 h=> ?_) (fun p5 h=> ?_)
 ·refine Cells.lit rfl rfl ?_
  refine Cells.lit rfl rfl ?_
  refine CallQ.o (slr true 1 Ag) (by rfl) h (fun r h=>O3 h) (fun r6 h=> ?_)
  refine LoopQ.o [11,10,9,8,7,6,5,4,2,1] (Lm a0 names0 x6 x5 x8 x7 r6) (R9 a0 names0 x6 x5 x8 x7 r6) h (fun s o h=>Acq s o h) (by rfl) (fun _=>rfl) ?_
  rintro q13_10 h
  try dsimp only at h
  refine Cells.lit rfl rfl ?_
  refine Cells.lit rfl rfl ?_
  refine Len.map ?_
  refine Ask.o h fun p14 h=> ?_
  refine Elem.o (by first | omega | (simp [Aw] at * <;> omega)) ?_
  refine Len.map ?_
  refine Ask.o h fun p15 h=> ?_
  refine Elem.o (by first | omega | (simp [Aw] at * <;> omega)) ?_
  refine Len.map ?_
  refine Ask.o h fun p16 h=> ?_
  refine Elem.o (by first | omega | (simp [Aw] at * <;> omega)) ?_
  refine Kid.lit rfl rfl ?_
  refine Len.map ?_
  refine Ask.o h fun p17 h=> ?_
  refine Kid.lit rfl rfl ?_
  refine SetKids.one (fun _=>⟨rfl,rfl⟩) (nth names0 (nth (nth a0.Ops x6.toNat).Table x8.toNat).toNat) (by rfl) (by first | omega | (simp [Aw] at * <;> omega)) ?_
  refine Kid.lit rfl rfl ?_
  refine SetKids.lit rfl ?_
  refine Ask.o h fun p18 h=> ?_
  cases h;exact ⟨rfl,rfl⟩
 cases h;exact ⟨rfl,rfl⟩
noncomputable def Du (a0:SAlgebra) (names0:List Int):(Int×SAlgebra)→Option ((Int×SAlgebra) ⊕ SAlgebra):=fun (x6,x5)=>
 if x6<(↑a0.Ops.length:Int) then
 ask ((0:Int)≤x6∧x6<(↑a0.Ops.length:Int)) <|
 ask ((0:Int)≤x6∧x6<(↑a0.Ops.length:Int)) <|
 ask ((0:Int)≤(↑(nth a0.Ops x6.toNat).Table.length:Int)∧(↑(nth a0.Ops x6.toNat).Table.length:Int)≤(↑LIM:Int)) <|
 (Al (Dv a0 names0 x6 x5) ((0:Int),{ Arity:=(nth a0.Ops x6.toNat).Arity,Table:=List.replicate (↑(nth a0.Ops x6.toNat).Table.length:Int).toNat (0:Int) })).bind fun q19_7=>
 ask ((x5.Ops).length+([q19_7]).length≤LIM) <|
 ask (InI (x6+(1:Int))) <|
 some (.inl (x6+(1:Int),{ Size:=x5.Size,Ops:=x5.Ops++[q19_7] }))
 else
 some (.inr x5)
def Lp (a0:SAlgebra) (names0:List Int):(Int×SAlgebra)→St:=fun s=>[(6,A.val (Ag s.1)),(5,A.val ((rP true (Ae true)) s.2)),(4,A.val ((rP true (Ae true)) ({ Size:=(0:Int),Ops:=Ao SOp }))),(2,A.val ((rP true (Ae false)) (a0))),(1,A.val ((slr false 1 Ag) (names0)))]
def Sv (_a0:SAlgebra) (_names0:List Int):SAlgebra→Tgt
 | s=>((Ex.exit 0),[5,4],[(5,A.val ((rP true (Ae true)) s)),(4,A.val ((rP true (Ae true)) ({ Size:=(0:Int),Ops:=Ao SOp })))])
theorem Acd {a0:SAlgebra} {names0:List Int} (s:(Int×SAlgebra)) (o:(Int×SAlgebra) ⊕ SAlgebra) (h:Du a0 names0 s=some o):vc Try.prog Rq (C1 [6,5,4,2,1] (Lp a0 names0) (Sv a0 names0) o) (Lp a0 names0 s):=by
 obtain ⟨x6,x5⟩:=s
 unfold Du at h
 try dsimp only at h
 refine Cells.lit rfl rfl ?_
 refine Len.map ?_
 refine Br.od h (fun p1 h=> ?_) (fun p1 h=> ?_)
 ·refine Cells.lit rfl rfl ?_
  refine Len.map ?_
  refine Ask.o h fun p2 h=> ?_
  refine Elem.o (by first | omega | (simp [Aw] at * <;> omega)) ?_
  refine Cells.lit rfl rfl ?_
  refine Len.map ?_
  refine Ask.o h fun p3 h=> ?_
  refine Elem.o (by first | omega | (simp [Aw] at * <;> omega)) ?_
  refine Len.map ?_
  refine Ask.o h fun p4 h=> ?_
  refine MkQ.o Ag ((0:Int)) rfl ?_
  refine SetKids.lit rfl ?_
  refine LoopQ.o [8,7,6,5,4,2,1] (Lq a0 names0 x6 x5) (Ss a0 names0 x6 x5) h (fun s o h=>Ab8 s o h) (by rfl) (fun _=>rfl) ?_
  rintro q19_7 h
  try dsimp only at h
  refine Cells.lit rfl rfl ?_
  refine Cells.lit rfl rfl ?_
  refine BslQ.o (A9 true) [q19_7] (by exact fun _=>⟨rfl,rfl⟩) (by first | rfl | (simp only [Aa,V.fz,fzL,V.up,upL,Ab,Ac,Ad,slr,List.cons_append,List.nil_append];done) | simp [Aa,V.fz,fzL,V.up,upL,Ab,Ac,Ad,slr]) ?_
  refine NoOwn.own rfl ?_
  refine Kid.lit rfl rfl ?_
  refine Kid.lit rfl rfl ?_
  refine SetKids.lit rfl ?_
  refine AppQ.o (m:=2) (A9 true) (by exact fun _=>⟨rfl,rfl⟩) (x5.Ops) ([q19_7]) (by rfl) (by rfl) h fun h=> ?_
  refine SetKids.lit rfl ?_
  refine Ask.o h fun p20 h=> ?_
  cases h;exact ⟨rfl,rfl⟩
 cases h;exact ⟨rfl,rfl⟩
noncomputable def Gm (a0:SAlgebra) (names0:(List Int)):Option SAlgebra:=
 (Al (Du a0 names0) ((0:Int),{ Size:=a0.Size,Ops:=Ao SOp })).bind fun q21_5=>
 some q21_5
theorem Ahx {a0:SAlgebra} {names0:(List Int)} {v:SAlgebra} (h:Gm a0 names0=some v):Ret Try.prog Qf [(Ae false) a0,(slr false 1 Ag) names0] ((Ae true) v):=by
 refine Bb Ah9 (Nat.le_of_ble_eq_true rfl) ?_
 unfold Gm at h
 refine Cells.lit rfl rfl ?_
 refine SetKids.lit rfl ?_
 refine LoopQ.o [6,5,4,2,1] (Lp a0 names0) (Sv a0 names0) h (fun s o h=>Acd s o h) (by rfl) (fun _=>rfl) ?_
 rintro q21_5 h
 try dsimp only at h
 refine Cells.lit rfl rfl ?_
 refine SetKids.lit rfl ?_
 cases h;exact (by rfl)
noncomputable def Ii (_a0:SAlgebra) (sub0:List Int) (_x6:Int) (_x5:SAlgebra) (_x8:Int) (_x7:SOp):(Int×(List Int))→Option ((Int×(List Int)) ⊕ (List Int)):=fun (x10,x9)=>
 if x10<(↑x9.length:Int) then
 ask ((0:Int)≤x10∧x10<(↑x9.length:Int)) <|
 ask ((0:Int)≤nth x9 x10.toNat∧nth x9 x10.toNat<(↑sub0.length:Int)) <|
 ask ((0:Int)≤x10∧x10<(↑x9.length:Int)) <|
 ask (InI (x10+(1:Int))) <|
 some (.inl (x10+(1:Int),x9.set x10.toNat (nth sub0 (nth x9 x10.toNat).toNat)))
 else
 some (.inr x9)
def Qq (a0:SAlgebra) (sub0:List Int) (x6:Int) (x5:SAlgebra) (x8:Int) (x7:SOp):(Int×(List Int))→St:=fun s=>[(10,A.val (Ag s.1)),(9,A.val ((slr true 1 Ag) s.2)),(8,A.val (Ag (x8))),(7,A.val ((rP true (A9 true)) (x7))),(6,A.val (Ag (x6))),(5,A.val ((rP true (Ae true)) (x5))),(4,A.val ((rP true (Ae true)) ({ Size:=(0:Int),Ops:=Ao SOp }))),(2,A.val ((rP true (Ae false)) (a0))),(1,A.val ((slr false 1 Ag) (sub0)))]
def Yd (a0:SAlgebra) (sub0:List Int) (x6:Int) (x5:SAlgebra) (x8:Int) (x7:SOp):(List Int)→Tgt
 | s=>((Ex.exit 4),[9,8,7,6,5,4,2,1],[(9,A.val ((slr true 1 Ag) s)),(8,A.val (Ag (x8))),(7,A.val ((rP true (A9 true)) (x7))),(6,A.val (Ag (x6))),(5,A.val ((rP true (Ae true)) (x5))),(4,A.val ((rP true (Ae true)) ({ Size:=(0:Int),Ops:=Ao SOp }))),(2,A.val ((rP true (Ae false)) (a0))),(1,A.val ((slr false 1 Ag) (sub0)))])
theorem Ahv {a0:SAlgebra} {sub0:List Int} {x6:Int} {x5:SAlgebra} {x8:Int} {x7:SOp} (s:(Int×(List Int))) (o:(Int×(List Int)) ⊕ (List Int)) (h:Ii a0 sub0 x6 x5 x8 x7 s=some o):vc Try.prog Yi (C1 [10,9,8,7,6,5,4,2,1] (Qq a0 sub0 x6 x5 x8 x7) (Yd a0 sub0 x6 x5 x8 x7) o) (Qq a0 sub0 x6 x5 x8 x7 s):=by
 obtain ⟨x10,x9⟩:=s
 unfold Ii at h
 try dsimp only at h
 refine Len.map ?_
 refine Br.od h (fun p6 h=> ?_) (fun p6 h=> ?_)
 ·refine Len.map ?_
  refine Ask.o h fun p7 h=> ?_
  refine Cells.one (fun _=>⟨rfl,rfl⟩) (by first | omega | (simp [Aw] at * <;> omega)) ?_
  refine Len.map ?_
  refine Ask.o h fun p8 h=> ?_
  refine Elem.o (by first | omega | (simp [Aw] at * <;> omega)) ?_
  refine Len.map ?_
  refine Ask.o h fun p9 h=> ?_
  refine SetKids.one (fun _=>⟨rfl,rfl⟩) (nth sub0 (nth x9 x10.toNat).toNat) (by rfl) (by first | omega | (simp [Aw] at * <;> omega)) ?_
  refine Ask.o h fun p10 h=> ?_
  cases h;exact ⟨rfl,rfl⟩
 cases h;exact ⟨rfl,rfl⟩
noncomputable def Ik (a0:SAlgebra) (sub0:List Int) (x6:Int) (x5:SAlgebra):(Int×SOp)→Option ((Int×SOp) ⊕ SOp):=fun (x8,x7)=>
 (Gy ((↑sub0.length:Int)) (x7.Arity)).bind fun r3=>
 if x8<r3 then
 (Fy ((↑sub0.length:Int)) (x7.Arity) (x8)).bind fun r5=>
 (Al (Ii a0 sub0 x6 x5 x8 x7) ((0:Int),r5)).bind fun q11_9=>
 (F9 (a0) (x6) (q11_9)).bind fun r12=>
 (J7 (sub0) (r12)).bind fun r13=>
 ask ((x7.Table).length+([r13]).length≤LIM) <|
 ask (InI (x8+(1:Int))) <|
 some (.inl (x8+(1:Int),{ Arity:=x7.Arity,Table:=x7.Table++[r13] }))
 else
 some (.inr x7)
def Qg (a0:SAlgebra) (sub0:List Int) (x6:Int) (x5:SAlgebra):(Int×SOp)→St:=fun s=>[(8,A.val (Ag s.1)),(7,A.val ((rP true (A9 true)) s.2)),(6,A.val (Ag (x6))),(5,A.val ((rP true (Ae true)) (x5))),(4,A.val ((rP true (Ae true)) ({ Size:=(0:Int),Ops:=Ao SOp }))),(2,A.val ((rP true (Ae false)) (a0))),(1,A.val ((slr false 1 Ag) (sub0)))]
def X5 (a0:SAlgebra) (sub0:List Int) (x6:Int) (x5:SAlgebra):SOp→Tgt
 | s=>((Ex.exit 2),[7,6,5,4,2,1],[(7,A.val ((rP true (A9 true)) s)),(6,A.val (Ag (x6))),(5,A.val ((rP true (Ae true)) (x5))),(4,A.val ((rP true (Ae true)) ({ Size:=(0:Int),Ops:=Ao SOp }))),(2,A.val ((rP true (Ae false)) (a0))),(1,A.val ((slr false 1 Ag) (sub0)))])
theorem Ait {a0:SAlgebra} {sub0:List Int} {x6:Int} {x5:SAlgebra} (s:(Int×SOp)) (o:(Int×SOp) ⊕ SOp) (h:Ik a0 sub0 x6 x5 s=some o):vc Try.prog Yl (C1 [8,7,6,5,4,2,1] (Qg a0 sub0 x6 x5) (X5 a0 sub0 x6 x5) o) (Qg a0 sub0 x6 x5 s):=by
 obtain ⟨x8,x7⟩:=s
 unfold Ik at h
 try dsimp only at h
 refine Len.map ?_
 refine Cells.lit rfl rfl ?_
 refine CallQ.o Ag (by rfl) h (fun r h=>W3 h) (fun r3 h=> ?_)
 refine Br.od h (fun p4 h=> ?_) (fun p4 h=> ?_)
 ·refine Len.map ?_
  refine Cells.lit rfl rfl ?_
  refine CallQ.o (slr true 1 Ag) (by rfl) h (fun r h=>O3 h) (fun r5 h=> ?_)
  refine LoopQ.o [10,9,8,7,6,5,4,2,1] (Qq a0 sub0 x6 x5 x8 x7) (Yd a0 sub0 x6 x5 x8 x7) h (fun s o h=>Ahv s o h) (by rfl) (fun _=>rfl) ?_
  rintro q11_9 h
  try dsimp only at h
  refine Cells.lit rfl rfl ?_
  refine Cells.lit rfl rfl ?_
  refine CallP.rd Ag (by first | rfl | simp only [V.fz,fzL,V.up,Ab,Ad,slr] | simp [Aa,V.fz,fzL,V.up,upL,Ab,Ac,Ad,slr]) (fun _=>rfl) h (fun r h=>Zr h) (fun r12 h=> ?_)
  refine CallP.o Ag (by rfl) h (fun r h=>Ali h) (fun r13 h=> ?_)
  refine BslQ.o Ag [r13] (by exact fun _=>⟨rfl,rfl⟩) (by first | rfl | (simp only [Aa,V.fz,fzL,V.up,upL,Ab,Ac,Ad,slr,List.cons_append,List.nil_append];done) | simp [Aa,V.fz,fzL,V.up,upL,Ab,Ac,Ad,slr]) ?_
  refine NoOwn.o (fun _=>rfl) ?_
  refine Kid.lit rfl rfl ?_
  refine Kid.lit rfl rfl ?_
  refine SetKids.lit rfl ?_
  refine AppQ.o (m:=1) Ag (by exact fun _=>⟨rfl,rfl⟩) (x7.Table) ([r13]) (by rfl) (by rfl) h fun h=> ?_
  refine SetKids.lit rfl ?_
  refine Ask.o h fun p14 h=> ?_
  cases h;exact ⟨rfl,rfl⟩
 cases h;exact ⟨rfl,rfl⟩
noncomputable def Io (a0:SAlgebra) (sub0:List Int):(Int×SAlgebra)→Option ((Int×SAlgebra) ⊕ SAlgebra):=fun (x6,x5)=>
 if x6<(↑a0.Ops.length:Int) then
 ask ((0:Int)≤x6∧x6<(↑a0.Ops.length:Int)) <|
 (Al (Ik a0 sub0 x6 x5) ((0:Int),{ Arity:=(nth a0.Ops x6.toNat).Arity,Table:=Ao Int })).bind fun q15_7=>
 ask ((x5.Ops).length+([q15_7]).length≤LIM) <|
 ask (InI (x6+(1:Int))) <|
 some (.inl (x6+(1:Int),{ Size:=x5.Size,Ops:=x5.Ops++[q15_7] }))
 else
 some (.inr x5)
def P7 (a0:SAlgebra) (sub0:List Int):(Int×SAlgebra)→St:=fun s=>[(6,A.val (Ag s.1)),(5,A.val ((rP true (Ae true)) s.2)),(4,A.val ((rP true (Ae true)) ({ Size:=(0:Int),Ops:=Ao SOp }))),(2,A.val ((rP true (Ae false)) (a0))),(1,A.val ((slr false 1 Ag) (sub0)))]
def X0 (_a0:SAlgebra) (_sub0:List Int):SAlgebra→Tgt
 | s=>((Ex.exit 0),[5,4],[(5,A.val ((rP true (Ae true)) s)),(4,A.val ((rP true (Ae true)) ({ Size:=(0:Int),Ops:=Ao SOp })))])
theorem Aix {a0:SAlgebra} {sub0:List Int} (s:(Int×SAlgebra)) (o:(Int×SAlgebra) ⊕ SAlgebra) (h:Io a0 sub0 s=some o):vc Try.prog Yc (C1 [6,5,4,2,1] (P7 a0 sub0) (X0 a0 sub0) o) (P7 a0 sub0 s):=by
 obtain ⟨x6,x5⟩:=s
 unfold Io at h
 try dsimp only at h
 refine Cells.lit rfl rfl ?_
 refine Len.map ?_
 refine Br.od h (fun p1 h=> ?_) (fun p1 h=> ?_)
 ·refine Cells.lit rfl rfl ?_
  refine Len.map ?_
  refine Ask.o h fun p2 h=> ?_
  refine Elem.o (by first | omega | (simp [Aw] at * <;> omega)) ?_
  refine SetKids.lit rfl ?_
  refine LoopQ.o [8,7,6,5,4,2,1] (Qg a0 sub0 x6 x5) (X5 a0 sub0 x6 x5) h (fun s o h=>Ait s o h) (by rfl) (fun _=>rfl) ?_
  rintro q15_7 h
  try dsimp only at h
  refine Cells.lit rfl rfl ?_
  refine Cells.lit rfl rfl ?_
  refine BslQ.o (A9 true) [q15_7] (by exact fun _=>⟨rfl,rfl⟩) (by first | rfl | (simp only [Aa,V.fz,fzL,V.up,upL,Ab,Ac,Ad,slr,List.cons_append,List.nil_append];done) | simp [Aa,V.fz,fzL,V.up,upL,Ab,Ac,Ad,slr]) ?_
  refine NoOwn.own rfl ?_
  refine Kid.lit rfl rfl ?_
  refine Kid.lit rfl rfl ?_
  refine SetKids.lit rfl ?_
  refine AppQ.o (m:=2) (A9 true) (by exact fun _=>⟨rfl,rfl⟩) (x5.Ops) ([q15_7]) (by rfl) (by rfl) h fun h=> ?_
  refine SetKids.lit rfl ?_
  refine Ask.o h fun p16 h=> ?_
  cases h;exact ⟨rfl,rfl⟩
 cases h;exact ⟨rfl,rfl⟩
noncomputable def Kj (a0:SAlgebra) (sub0:(List Int)):Option SAlgebra:=
 (Al (Io a0 sub0) ((0:Int),{ Size:=(↑sub0.length:Int),Ops:=Ao SOp })).bind fun q17_5=>
 some q17_5
theorem Ard {a0:SAlgebra} {sub0:(List Int)} {v:SAlgebra} (h:Kj a0 sub0=some v):Ret Try.prog Xh [(Ae false) a0,(slr false 1 Ag) sub0] ((Ae true) v):=by
 refine Bb Aq8 (Nat.le_of_ble_eq_true rfl) ?_
 unfold Kj at h
 refine Len.map ?_
 refine SetKids.lit rfl ?_
 refine LoopQ.o [6,5,4,2,1] (P7 a0 sub0) (X0 a0 sub0) h (fun s o h=>Aix s o h) (by rfl) (fun _=>rfl) ?_
 rintro q17_5 h
 try dsimp only at h
 refine Cells.lit rfl rfl ?_
 refine SetKids.lit rfl ?_
 cases h;exact (by rfl)
noncomputable def E6 (a0:SAlgebra) (b0:SAlgebra):Option Bool:=
 (It (a0)).bind fun r1=>
 (It (b0)).bind fun r2=>
 (Iu (r1) (r2)).bind fun r3=>
 some r3
theorem Uj {a0:SAlgebra} {b0:SAlgebra} {v:Bool} (h:E6 a0 b0=some v):Ret Try.prog K8 [(Ae false) a0,(Ae false) b0] (V.bool v):=by
 refine Bb An2 (Nat.le_of_ble_eq_true rfl) ?_
 unfold E6 at h
 refine Cells.lit rfl rfl ?_
 refine CallP.o (slr true 1 Ag) (by rfl) h (fun r h=>Abm h) (fun r1 h=> ?_)
 refine Cells.lit rfl rfl ?_
 refine CallQ.o (slr true 1 Ag) (by rfl) h (fun r h=>Abm h) (fun r2 h=> ?_)
 refine CallQ.rd V.bool (by first | rfl | simp only [V.fz,Ab,slr] | simp [Aa,V.fz,fzL,V.up,upL,Ab,Ac,Ad,slr]) (fun _=>rfl) h (fun r h=>Abt h) (fun r3 h=> ?_)
 cases h;exact (by rfl)
noncomputable def Jd (f0:(List Int)) (a1:(List (List Int))):Option (Bool×(List (List Int))):=
 (Ea (f0)).bind fun r1=>
 ask ((a1).length+([r1]).length≤LIM) <|
 some (decide ((↑(a1++[r1]).length:Int)≤(300:Int)),a1++[r1])
theorem Adz {f0:(List Int)} {a1:(List (List Int))} {v:(Bool×(List (List Int)))} (h:Jd f0 a1=some v):H8 Try.prog Gx [(slr false 1 Ag) f0,(rP true (slr true 1 (slr true 1 Ag))) a1] (V.bool v.1) 1 ((rP true (slr true 1 (slr true 1 Ag))) v.2):=by
 refine I7 Ae9 (Nat.le_of_ble_eq_true rfl) ?_
 unfold Jd at h
 refine Cells.lit rfl rfl ?_
 refine CallP.o (slr true 1 Ag) (by rfl) h (fun r h=>Ic h) (fun r1 h=> ?_)
 refine BslQ.o (slr true 1 Ag) [r1] (by exact fun _=>⟨rfl,rfl⟩) (by first | rfl | (simp only [Aa,V.fz,fzL,V.up,upL,Ab,Ac,Ad,slr,List.cons_append,List.nil_append];done) | simp [Aa,V.fz,fzL,V.up,upL,Ab,Ac,Ad,slr]) ?_
 refine NoOwn.own rfl ?_
 refine Kid.lit rfl rfl ?_
 refine Kid.lit rfl rfl ?_
 refine SetKids.lit rfl ?_
 refine AppQ.o (m:=1) (slr true 1 Ag) (by exact fun _=>⟨rfl,rfl⟩) (a1) ([r1]) (by rfl) (by rfl) h fun h=> ?_
 refine SetKids.lit rfl ?_
 refine Cells.lit rfl rfl ?_
 refine Kid.lit rfl rfl ?_
 refine Len.map ?_
 cases h;exact ⟨(by rfl),(by rfl)⟩
noncomputable def Dd (f0:List Int):Int→Option (Int ⊕ (Unit ⊕ Unit)):=fun x3=>
 if x3<(↑f0.length:Int) then
 ask ((0:Int)≤x3∧x3<(↑f0.length:Int)) <|
 if nth f0 x3.toNat≥(0:Int) then
 ask (0≤(0:Int)∧(0:Int)≤x3∧x3≤((f0.length:Nat):Int)) <|
 ask ((0:Int)≤x3∧x3<(↑f0.length:Int)) <|
 (Hv (List.take (x3.toNat-Int.toNat (0:Int)) (List.drop (Int.toNat (0:Int)) f0)) (nth f0 x3.toNat)).bind fun r5=>
 if (r5)=true then
 some (.inr (.inl ()))
 else
 ask (InI (x3+(1:Int))) <|
 some (.inl (x3+(1:Int)))
 else
 ask (InI (x3+(1:Int))) <|
 some (.inl (x3+(1:Int)))
 else
 some (.inr (.inr ()))
def Oe (f0:List Int):Int→St:=fun s=>[(3,A.val (Ag s)),(0,A.val ((slr false 1 Ag) (f0)))]
def Wi (_f0:List Int):(Unit ⊕ Unit)→Tgt
 | (.inl _s)=>(Ex.ret,[2],[(2,A.val (V.bool (false)))])
 | (.inr _s)=>((Ex.exit 0),[],[])
theorem Afj {f0:List Int} (x3:Int) (o:Int ⊕ (Unit ⊕ Unit)) (h:Dd f0 x3=some o):vc Try.prog Vg (C1 [3,0] (Oe f0) (Wi f0) o) (Oe f0 x3):=by
 unfold Dd at h
 try dsimp only at h
 refine Len.map ?_
 refine Br.od h (fun p1 h=> ?_) (fun p1 h=> ?_)
 ·refine Len.map ?_
  refine Ask.o h fun p2 h=> ?_
  refine Elem.o (by first | omega | (simp [Aw] at * <;> omega)) ?_
  refine Br.od h (fun p3 h=> ?_) (fun p3 h=> ?_)
  ·refine Br.yes ?_
   refine Br.yes ?_
   refine SlcQ.o Ag h fun h=> ?_
   refine Br.yes ?_
   refine Br.yes ?_
   refine Br.yes ?_
   refine Len.map ?_
   refine Ask.o h fun p4 h=> ?_
   refine Elem.o (by first | omega | (simp [Aw] at * <;> omega)) ?_
   refine Br.yes ?_
   refine Br.yes ?_
   refine CallQ.o V.bool (by rfl) h (fun r h=>Xt h) (fun r5 h=> ?_)
   refine Br.yes ?_
   refine Br.ob h (fun p6 h=> ?_) (fun p6 h=> ?_)
   ·cases h;exact ⟨rfl,rfl⟩
   refine Ask.o h fun p7 h=> ?_
   cases h;exact ⟨rfl,rfl⟩
  refine Br.no ?_
  refine Br.no ?_
  refine Br.no ?_
  refine Br.no ?_
  refine Br.no ?_
  refine Br.no ?_
  refine Br.no ?_
  refine Br.no ?_
  refine Br.no ?_
  refine Ask.o h fun p8 h=> ?_
  cases h;exact ⟨rfl,rfl⟩
 cases h;exact ⟨rfl,rfl⟩
noncomputable def E3 (f0:(List Int)):Option Bool:=
 (Al (Dd f0) (0:Int)).bind fun t=>match t with
 | (.inl _)=>(some false)
 | (.inr _)=>(some true)
theorem Aby {f0:(List Int)} {v:Bool} (h:E3 f0=some v):Ret Try.prog O4 [(slr false 1 Ag) f0] (V.bool v):=by
 refine Bb Anh (Nat.le_of_ble_eq_true rfl) ?_
 unfold E3 at h
 refine LoopQ.o [3,0] (Oe f0) (Wi f0) h (fun s o h=>Afj s o h) (by rfl) (by rintro (_ | _)<;>rfl) ?_
 rintro (⟨⟩ | ⟨⟩) h
 ·try dsimp only at h
  cases h;exact (by rfl)
 try dsimp only at h
 cases h;exact (by rfl)
noncomputable def Mt (a0:SAlgebra) (b0:SAlgebra) (f0:(List Int)):Option Bool:=
 if (↑f0.length:Int)=a0.Size then
 (Iv (f0) (b0.Size)).bind fun r2=>
 some r2
 else
 some false
theorem Ap5 {a0:SAlgebra} {b0:SAlgebra} {f0:(List Int)} {v:Bool} (h:Mt a0 b0 f0=some v):Ret Try.prog Xw [(Ae false) a0,(Ae false) b0,(slr false 1 Ag) f0] (V.bool v):=by
 refine Bb Aq9 (Nat.le_of_ble_eq_true rfl) ?_
 unfold Mt at h
 refine Len.map ?_
 refine Cells.lit rfl rfl ?_
 refine Br.oe h (fun p1 h=> ?_) (fun p1 h=> ?_)
 ·refine Br.yes ?_
  refine Br.yes ?_
  refine Cells.lit rfl rfl ?_
  refine Br.yes ?_
  refine CallQ.o V.bool (by rfl) h (fun r h=>Abl h) (fun r2 h=> ?_)
  refine Br.yes ?_
  cases h;exact (by rfl)
 refine Br.no ?_
 refine Br.no ?_
 refine Br.no ?_
 refine Br.no ?_
 cases h;exact (by rfl)
end Go.Proofs.Ytmkgjnphianalaa.Ax
