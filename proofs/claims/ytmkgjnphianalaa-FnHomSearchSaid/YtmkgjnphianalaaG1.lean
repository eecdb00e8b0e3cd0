/-
 What the functions compute, as functions on plain data, and that the program does compute it; written by program.
-/
import Derived.Test.YtmkgjnphianalaaCode
namespace Go.Proofs.Ytmkgjnphianalaa.Ax
open Go
set_option maxRecDepth 100000
set_option maxHeartbeats 4000000
noncomputable def S6 (code0:(List Int)):Option Bool:=
 some (decide ((↑code0.length:Int)>(65536:Int)))
theorem Atj {code0:(List Int)} {v:Bool} (h:S6 code0=some v):Ret Try.prog Zg [(slr false 1 (V.int IntKind.u8)) code0] (V.bool v):=by
 refine Bb Aui (Nat.le_of_ble_eq_true rfl) ?_
 unfold S6 at h
 refine Len.map ?_
 cases h;exact (by rfl)
noncomputable def Jy (code0:(List Int)) (i0:Int):Option Int:=
 if i0<(↑code0.length:Int) then
 ask ((0:Int)≤i0∧i0<(↑code0.length:Int)) <|
 some (IntKind.i64.wrap (nth code0 i0.toNat))
 else
 ask (InI (i0*(7:Int))) <|
 ask (InI (i0*(7:Int)+(↑code0.length:Int))) <|
 some ((i0*(7:Int)+(↑code0.length:Int)).tmod (256:Int))
theorem Akf {code0:(List Int)} {i0:Int} {v:Int} (h:Jy code0 i0=some v):Ret Try.prog W7 [(slr false 1 (V.int IntKind.u8)) code0,Ag i0] (Ag v):=by
 refine Bb Av3 (Nat.le_of_ble_eq_true rfl) ?_
 unfold Jy at h
 refine Len.map ?_
 refine Br.od h (fun p1 h=> ?_) (fun p1 h=> ?_)
 ·refine Len.map ?_
  refine Ask.o h fun p2 h=> ?_
  refine Elem.o (by first | omega | (simp [Aw] at * <;> omega)) ?_
  cases h;exact (by rfl)
 refine Ask.o h fun p3 h=> ?_
 refine Len.map ?_
 refine Ask.o h fun p4 h=> ?_
 refine Ask.mk (by decide) ?_
 cases h;exact (by rfl)
noncomputable def Cy (a0:List Int) (b0:List Int):Int→Option (Int ⊕ (Unit ⊕ Unit)):=fun x5=>
 if x5<(↑a0.length:Int) then
 ask ((0:Int)≤x5∧x5<(↑a0.length:Int)) <|
 ask ((0:Int)≤x5∧x5<(↑b0.length:Int)) <|
 if nth a0 x5.toNat≠nth b0 x5.toNat then
 some (.inr (.inl ()))
 else
 ask (InI (x5+(1:Int))) <|
 some (.inl (x5+(1:Int)))
 else
 some (.inr (.inr ()))
def Qu (a0:List Int) (b0:List Int):Int→St:=fun s=>[(5,A.val (Ag s)),(0,A.val ((slr false 1 Ag) (a0))),(1,A.val ((slr false 1 Ag) (b0)))]
def X8 (_a0:List Int) (_b0:List Int):(Unit ⊕ Unit)→Tgt
 | (.inl _s)=>(Ex.ret,[4],[(4,A.val (V.bool (false)))])
 | (.inr _s)=>((Ex.exit 0),[],[])
theorem Ah7 {a0:List Int} {b0:List Int} (x5:Int) (o:Int ⊕ (Unit ⊕ Unit)) (h:Cy a0 b0 x5=some o):vc Try.prog Yh (C1 [5,0,1] (Qu a0 b0) (X8 a0 b0) o) (Qu a0 b0 x5):=by
 unfold Cy at h
 try dsimp only at h
 refine Len.map ?_
 refine Br.od h (fun p2 h=> ?_) (fun p2 h=> ?_)
 ·refine Len.map ?_
  refine Ask.o h fun p3 h=> ?_
  refine Elem.o (by first | omega | (simp [Aw] at * <;> omega)) ?_
  refine Len.map ?_
  refine Ask.o h fun p4 h=> ?_
  refine Elem.o (by first | omega | (simp [Aw] at * <;> omega)) ?_
  refine Br.on h (fun p5 h=> ?_) (fun p5 h=> ?_)
  ·cases h;exact ⟨rfl,rfl⟩
  refine Ask.o h fun p6 h=> ?_
  cases h;exact ⟨rfl,rfl⟩
 cases h;exact ⟨rfl,rfl⟩
noncomputable def D7 (a0:(List Int)) (b0:(List Int)):Option Bool:=
 if (↑a0.length:Int)≠(↑b0.length:Int) then
 some false
 else
 (Al (Cy a0 b0) (0:Int)).bind fun t=>match t with
 | (.inl _)=>(some false)
 | (.inr _)=>(some true)
theorem My {a0:(List Int)} {b0:(List Int)} {v:Bool} (h:D7 a0 b0=some v):Ret Try.prog Ia [(slr false 1 Ag) a0,(slr false 1 Ag) b0] (V.bool v):=by
 refine Bb Ara (Nat.le_of_ble_eq_true rfl) ?_
 unfold D7 at h
 refine Len.map ?_
 refine Len.map ?_
 refine Br.on h (fun p1 h=> ?_) (fun p1 h=> ?_)
 ·cases h;exact (by rfl)
 refine LoopQ.o [5,0,1] (Qu a0 b0) (X8 a0 b0) h (fun s o h=>Ah7 s o h) (by rfl) (by rintro (_ | _)<;>rfl) ?_
 rintro (⟨⟩ | ⟨⟩) h
 ·try dsimp only at h
  cases h;exact (by rfl)
 try dsimp only at h
 cases h;exact (by rfl)
noncomputable def Ea (list0:(List Int)):Option (List Int):=
 ask ((Ao Int).length+(list0).length≤LIM) <|
 some (Ao Int++list0)
theorem Ic {list0:(List Int)} {v:(List Int)} (h:Ea list0=some v):Ret Try.prog Kd [(slr false 1 Ag) list0] ((slr true 1 Ag) v):=by
 refine Bb Art (Nat.le_of_ble_eq_true rfl) ?_
 unfold Ea at h
 refine BslQ.o Ag (Ao Int) (by exact fun _=>⟨rfl,rfl⟩) (by first | rfl | (simp only [Aa,V.fz,fzL,V.up,upL,Ab,Ac,Ad,slr,List.cons_append,List.nil_append];done) | simp [Aa,V.fz,fzL,V.up,upL,Ab,Ac,Ad,slr]) ?_
 refine AppQ.o (m:=1) Ag (by exact fun _=>⟨rfl,rfl⟩) (Ao Int) (list0) (by rfl) (by rfl) h fun h=> ?_
 cases h;exact (by rfl)
noncomputable def K9 (_f0:(List Int)):Option Bool:=
 some true
theorem Abv {f0:(List Int)} {v:Bool} (h:K9 f0=some v):Ret Try.prog Oy [(slr false 1 Ag) f0] (V.bool v):=by
 refine Bb Aok (Nat.le_of_ble_eq_true rfl) ?_
 unfold K9 at h
 cases h;exact (by rfl)
noncomputable def Eg (x0:Int) (a0:Int) (b0:Int):Option Bool:=
 if x0≥a0 then
 some (decide (x0≤b0))
 else
 some false
theorem L6 {x0:Int} {a0:Int} {b0:Int} {v:Bool} (h:Eg x0 a0 b0=some v):Ret Try.prog Hs [Ag x0,Ag a0,Ag b0] (V.bool v):=by
 refine Bb As8 (Nat.le_of_ble_eq_true rfl) ?_
 unfold Eg at h
 refine Br.od h (fun p1 h=> ?_) (fun p1 h=> ?_)
 ·refine Br.yes ?_
  refine Br.yes ?_
  refine Br.yes ?_
  cases h;exact (by rfl)
 refine Br.no ?_
 refine Br.no ?_
 refine Br.no ?_
 cases h;exact (by rfl)
noncomputable def C6 (n0:Int) (f0:List Int):(Int×Int)→Option ((Int×Int) ⊕ (Unit ⊕ Unit)):=fun (x0,x1)=>
 if x1>(0:Int) then
 ask (n0≠(0:Int)) <|
 ask ((0:Int)≤x0.tmod n0∧x0.tmod n0<(↑f0.length:Int)) <|
 if nth f0 (x0.tmod n0).toNat<(0:Int) then
 some (.inr (.inl ()))
 else
 ask (n0≠(0:Int)∧InI (x0.tdiv n0)) <|
 ask (InI (x1-(1:Int))) <|
 some (.inl (x0.tdiv n0,x1-(1:Int)))
 else
 some (.inr (.inr ()))
def Ls (n0:Int) (f0:List Int):(Int×Int)→St:=fun s=>[(0,A.val (Ag s.1)),(1,A.val (Ag s.2)),(2,A.val (Ag (n0))),(3,A.val ((slr false 1 Ag) (f0)))]
def R0 (_n0:Int) (_f0:List Int):(Unit ⊕ Unit)→Tgt
 | (.inl _s)=>(Ex.ret,[8],[(8,A.val (V.bool (false)))])
 | (.inr _s)=>((Ex.exit 0),[],[])
theorem Acr {n0:Int} {f0:List Int} (s:(Int×Int)) (o:(Int×Int) ⊕ (Unit ⊕ Unit)) (h:C6 n0 f0 s=some o):vc Try.prog Rw (C1 [0,1,2,3] (Ls n0 f0) (R0 n0 f0) o) (Ls n0 f0 s):=by
 obtain ⟨x0,x1⟩:=s
 unfold C6 at h
 try dsimp only at h
 refine Br.od h (fun p1 h=> ?_) (fun p1 h=> ?_)
 ·refine Ask.o h fun p2 h=> ?_
  refine Len.map ?_
  refine Ask.o h fun p3 h=> ?_
  refine Elem.o (by first | omega | (simp [Aw] at * <;> omega)) ?_
  refine Br.od h (fun p4 h=> ?_) (fun p4 h=> ?_)
  ·cases h;exact ⟨rfl,rfl⟩
  refine Ask.o h fun p5 h=> ?_
  refine Ask.o h fun p6 h=> ?_
  cases h;exact ⟨rfl,rfl⟩
 cases h;exact ⟨rfl,rfl⟩
noncomputable def Ih (i0:Int) (arity0:Int) (n0:Int) (f0:(List Int)):Option Bool:=
 (Al (C6 n0 f0) (i0,arity0)).bind fun t=>match t with
 | (.inl _)=>(some false)
 | (.inr _)=>(some true)
theorem Aic {i0:Int} {arity0:Int} {n0:Int} {f0:(List Int)} {v:Bool} (h:Ih i0 arity0 n0 f0=some v):Ret Try.prog Qp [Ag i0,Ag arity0,Ag n0,(slr false 1 Ag) f0] (V.bool v):=by
 refine Bb Ais (Nat.le_of_ble_eq_true rfl) ?_
 unfold Ih at h
 refine LoopQ.o [0,1,2,3] (Ls n0 f0) (R0 n0 f0) h (fun s o h=>Acr s o h) (by rfl) (by rintro (_ | _)<;>rfl) ?_
 rintro (⟨⟩ | ⟨⟩) h
 ·try dsimp only at h
  cases h;exact (by rfl)
 try dsimp only at h
 cases h;exact (by rfl)
noncomputable def Bj (arity0:Int) (a0:SAlgebra) (b0:SAlgebra) (f0:List Int):(Int×Int×Int×Int)→Option ((Int×Int×Int×Int) ⊕ Int):=fun (x13,x12,x11,x0)=>
 if x13<arity0 then
 ask (a0.Size≠(0:Int)) <|
 ask ((0:Int)≤x0.tmod a0.Size∧x0.tmod a0.Size<(↑f0.length:Int)) <|
 ask (InI (nth f0 (x0.tmod a0.Size).toNat*x12)) <|
 ask (InI (x11+nth f0 (x0.tmod a0.Size).toNat*x12)) <|
 ask (a0.Size≠(0:Int)∧InI (x0.tdiv a0.Size)) <|
 ask (InI (x12*b0.Size)) <|
 ask (InI (x13+(1:Int))) <|
 some (.inl (x13+(1:Int),x12*b0.Size,x11+nth f0 (x0.tmod a0.Size).toNat*x12,x0.tdiv a0.Size))
 else
 some (.inr x11)
def Jx (arity0:Int) (a0:SAlgebra) (b0:SAlgebra) (f0:List Int):(Int×Int×Int×Int)→St:=fun s=>[(13,A.val (Ag s.1)),(12,A.val (Ag s.2.1)),(11,A.val (Ag s.2.2.1)),(8,A.val ((rP true (Ae false)) (b0))),(7,A.val ((rP true (Ae false)) (a0))),(0,A.val (Ag s.2.2.2)),(1,A.val (Ag (arity0))),(4,A.val ((slr false 1 Ag) (f0)))]
def Pj (_arity0:Int) (_a0:SAlgebra) (_b0:SAlgebra) (_f0:List Int):Int→Tgt
 | s=>((Ex.exit 0),[11],[(11,A.val (Ag s))])
theorem Z0 {arity0:Int} {a0:SAlgebra} {b0:SAlgebra} {f0:List Int} (s:(Int×Int×Int×Int)) (o:(Int×Int×Int×Int) ⊕ Int) (h:Bj arity0 a0 b0 f0 s=some o):vc Try.prog P4 (C1 [13,12,11,8,7,0,1,4] (Jx arity0 a0 b0 f0) (Pj arity0 a0 b0 f0) o) (Jx arity0 a0 b0 f0 s):=by
 obtain ⟨x13,x12,x11,x0⟩:=s
 unfold Bj at h
 try dsimp only at h
 refine Br.od h (fun p1 h=> ?_) (fun p1 h=> ?_)
 ·refine Cells.lit rfl rfl ?_
  refine Ask.o h fun p2 h=> ?_
  refine Len.map ?_
  refine Ask.o h fun p3 h=> ?_
  refine Elem.o (by first | omega | (simp [Aw] at * <;> omega)) ?_
  refine Ask.o h fun p4 h=> ?_
  refine Ask.o h fun p5 h=> ?_
  refine Cells.lit rfl rfl ?_
  refine Ask.o h fun p6 h=> ?_
  refine Cells.lit rfl rfl ?_
  refine Ask.o h fun p7 h=> ?_
  refine Ask.o h fun p8 h=> ?_
  cases h;exact ⟨rfl,rfl⟩
 cases h;exact ⟨rfl,rfl⟩
noncomputable def Dk (i0:Int) (arity0:Int) (a0:SAlgebra) (b0:SAlgebra) (f0:(List Int)):Option Int:=
 (Al (Bj arity0 a0 b0 f0) ((0:Int),(1:Int),(0:Int),i0)).bind fun q9_11=>
 some q9_11
theorem Tj {i0:Int} {arity0:Int} {a0:SAlgebra} {b0:SAlgebra} {f0:(List Int)} {v:Int} (h:Dk i0 arity0 a0 b0 f0=some v):Ret Try.prog Jc [Ag i0,Ag arity0,(Ae false) a0,(Ae false) b0,(slr false 1 Ag) f0] (Ag v):=by
 refine Bb Aek (Nat.le_of_ble_eq_true rfl) ?_
 unfold Dk at h
 refine LoopQ.o [13,12,11,8,7,0,1,4] (Jx arity0 a0 b0 f0) (Pj arity0 a0 b0 f0) h (fun s o h=>Z0 s o h) (by rfl) (fun _=>rfl) ?_
 rintro q9_11 h
 try dsimp only at h
 cases h;exact (by rfl)
noncomputable def Hh (have0:List Bool):(Int×(List Int))→Option ((Int×(List Int)) ⊕ (List Int)):=fun (x9,x3)=>
 if x9<(↑have0.length:Int) then
 ask ((0:Int)≤x9∧x9<(↑have0.length:Int)) <|
 if (nth have0 x9.toNat)=true then
 ask ((x3).length+([x9]).length≤LIM) <|
 ask (InI (x9+(1:Int))) <|
 some (.inl (x9+(1:Int),x3++[x9]))
 else
 ask (InI (x9+(1:Int))) <|
 some (.inl (x9+(1:Int),x3))
 else
 some (.inr x3)
def Ow (have0:List Bool):(Int×(List Int))→St:=fun s=>[(9,A.val (Ag s.1)),(8,A.val (Ag ((↑have0.length:Int)))),(7,A.val ((slr false 1 V.bool) (have0))),(3,A.val ((slr true 1 Ag) s.2))]
def Vq (_have0:List Bool):(List Int)→Tgt
 | s=>((Ex.exit 0),[3],[(3,A.val ((slr true 1 Ag) s))])
theorem Afv {have0:List Bool} (s:(Int×(List Int))) (o:(Int×(List Int)) ⊕ (List Int)) (h:Hh have0 s=some o):vc Try.prog U6 (C1 [9,8,7,3] (Ow have0) (Vq have0) o) (Ow have0 s):=by
 obtain ⟨x9,x3⟩:=s
 unfold Hh at h
 try dsimp only at h
 refine Br.od h (fun p1 h=> ?_) (fun p1 h=> ?_)
 ·refine Len.map ?_
  refine Ask.o h fun p2 h=> ?_
  refine Elem.o (by first | omega | (simp [Aw] at * <;> omega)) ?_
  refine Br.ob h (fun p3 h=> ?_) (fun p3 h=> ?_)
  ·refine BslQ.o Ag [x9] (by exact fun _=>⟨rfl,rfl⟩) (by first | rfl | (simp only [Aa,V.fz,fzL,V.up,upL,Ab,Ac,Ad,slr,List.cons_append,List.nil_append];done) | simp [Aa,V.fz,fzL,V.up,upL,Ab,Ac,Ad,slr]) ?_
   refine NoOwn.o (fun _=>rfl) ?_
   refine AppQ.o (m:=1) Ag (by exact fun _=>⟨rfl,rfl⟩) (x3) ([x9]) (by rfl) (by rfl) h fun h=> ?_
   refine Ask.o h fun p4 h=> ?_
   cases h;exact ⟨rfl,rfl⟩
  refine Ask.o h fun p5 h=> ?_
  cases h;exact ⟨rfl,rfl⟩
 cases h;exact ⟨rfl,rfl⟩
noncomputable def K7 (have0:(List Bool)):Option (List Int):=
 (Al (Hh have0) ((0:Int),Ao Int)).bind fun q6_3=>
 some q6_3
theorem And {have0:(List Bool)} {v:(List Int)} (h:K7 have0=some v):Ret Try.prog Uh [(slr false 1 V.bool) have0] ((slr true 1 Ag) v):=by
 refine Bb Anc (Nat.le_of_ble_eq_true rfl) ?_
 unfold K7 at h
 refine BslQ.o Ag (Ao Int) (by exact fun _=>⟨rfl,rfl⟩) (by first | rfl | (simp only [Aa,V.fz,fzL,V.up,upL,Ab,Ac,Ad,slr,List.cons_append,List.nil_append];done) | simp [Aa,V.fz,fzL,V.up,upL,Ab,Ac,Ad,slr]) ?_
 refine Len.map ?_
 refine LoopQ.o [9,8,7,3] (Ow have0) (Vq have0) h (fun s o h=>Afv s o h) (by rfl) (fun _=>rfl) ?_
 rintro q6_3 h
 try dsimp only at h
 cases h;exact (by rfl)
noncomputable def Gk (list0:List Int):(Int×(List Bool))→Option ((Int×(List Bool)) ⊕ (List Bool)):=fun (x12,x5)=>
 if x12<(↑list0.length:Int) then
 ask ((0:Int)≤x12∧x12<(↑list0.length:Int)) <|
 ask ((0:Int)≤nth list0 x12.toNat∧nth list0 x12.toNat<(↑x5.length:Int)) <|
 ask (InI (x12+(1:Int))) <|
 some (.inl (x12+(1:Int),x5.set (nth list0 x12.toNat).toNat true))
 else
 some (.inr x5)
def Qr (list0:List Int):(Int×(List Bool))→St:=fun s=>[(12,A.val (Ag s.1)),(11,A.val (Ag ((↑list0.length:Int)))),(10,A.val ((slr false 1 Ag) (list0))),(5,A.val ((slr true 1 V.bool) s.2))]
def Yk (_list0:List Int):(List Bool)→Tgt
 | s=>((Ex.exit 0),[5],[(5,A.val ((slr true 1 V.bool) s))])
theorem Aiy {list0:List Int} (s:(Int×(List Bool))) (o:(Int×(List Bool)) ⊕ (List Bool)) (h:Gk list0 s=some o):vc Try.prog X2 (C1 [12,11,10,5] (Qr list0) (Yk list0) o) (Qr list0 s):=by
 obtain ⟨x12,x5⟩:=s
 unfold Gk at h
 try dsimp only at h
 refine Br.od h (fun p2 h=> ?_) (fun p2 h=> ?_)
 ·refine Len.map ?_
  refine Ask.o h fun p3 h=> ?_
  refine Elem.o (by first | omega | (simp [Aw] at * <;> omega)) ?_
  refine Len.map ?_
  refine Ask.o h fun p4 h=> ?_
  refine SetKids.one (fun _=>⟨rfl,rfl⟩) (true) (by rfl) (by first | omega | (simp [Aw] at * <;> omega)) ?_
  refine Ask.o h fun p5 h=> ?_
  cases h;exact ⟨rfl,rfl⟩
 cases h;exact ⟨rfl,rfl⟩
noncomputable def M5 (list0:(List Int)) (n0:Int):Option (List Bool):=
 ask ((0:Int)≤n0∧n0≤(↑LIM:Int)) <|
 (Al (Gk list0) ((0:Int),List.replicate n0.toNat false)).bind fun q6_5=>
 some q6_5
theorem Aqf {list0:(List Int)} {n0:Int} {v:(List Bool)} (h:M5 list0 n0=some v):Ret Try.prog Xp [(slr false 1 Ag) list0,Ag n0] ((slr true 1 V.bool) v):=by
 refine Bb Ar5 (Nat.le_of_ble_eq_true rfl) ?_
 unfold M5 at h
 refine Ask.o h fun p1 h=> ?_
 refine MkQ.o V.bool (false) rfl ?_
 refine Len.map ?_
 refine LoopQ.o [12,11,10,5] (Qr list0) (Yk list0) h (fun s o h=>Aiy s o h) (by rfl) (fun _=>rfl) ?_
 rintro q6_5 h
 try dsimp only at h
 cases h;exact (by rfl)
noncomputable def Ft (l0:(List Int)):Option (List Int):=
 ask ((Ao Int).length+(l0).length≤LIM) <|
 some (Ao Int++l0)
theorem Q4 {l0:(List Int)} {v:(List Int)} (h:Ft l0=some v):Ret Try.prog Kk [(slr false 1 Ag) l0] ((slr true 1 Ag) v):=by
 refine Bb Are (Nat.le_of_ble_eq_true rfl) ?_
 unfold Ft at h
 refine BslQ.o Ag (Ao Int) (by exact fun _=>⟨rfl,rfl⟩) (by first | rfl | (simp only [Aa,V.fz,fzL,V.up,upL,Ab,Ac,Ad,slr,List.cons_append,List.nil_append];done) | simp [Aa,V.fz,fzL,V.up,upL,Ab,Ac,Ad,slr]) ?_
 refine AppQ.o (m:=1) Ag (by exact fun _=>⟨rfl,rfl⟩) (Ao Int) (l0) (by rfl) (by rfl) h fun h=> ?_
 cases h;exact (by rfl)
noncomputable def Dw (f0:List Int) (args0:List Int):(Int×(List Int))→Option ((Int×(List Int)) ⊕ (List Int)):=fun (x6,x5)=>
 if x6<(↑args0.length:Int) then
 ask ((0:Int)≤x6∧x6<(↑args0.length:Int)) <|
 ask ((0:Int)≤nth args0 x6.toNat∧nth args0 x6.toNat<(↑f0.length:Int)) <|
 ask ((x5).length+([nth f0 (nth args0 x6.toNat).toNat]).length≤LIM) <|
 ask (InI (x6+(1:Int))) <|
 some (.inl (x6+(1:Int),x5++[nth f0 (nth args0 x6.toNat).toNat]))
 else
 some (.inr x5)
def Lt (f0:List Int) (args0:List Int):(Int×(List Int))→St:=fun s=>[(6,A.val (Ag s.1)),(5,A.val ((slr true 1 Ag) s.2)),(0,A.val ((slr false 1 Ag) (f0))),(1,A.val ((slr false 1 Ag) (args0)))]
def Sk (_f0:List Int) (_args0:List Int):(List Int)→Tgt
 | s=>((Ex.exit 0),[5],[(5,A.val ((slr true 1 Ag) s))])
theorem Ac4 {f0:List Int} {args0:List Int} (s:(Int×(List Int))) (o:(Int×(List Int)) ⊕ (List Int)) (h:Dw f0 args0 s=some o):vc Try.prog R3 (C1 [6,5,0,1] (Lt f0 args0) (Sk f0 args0) o) (Lt f0 args0 s):=by
 obtain ⟨x6,x5⟩:=s
 unfold Dw at h
 try dsimp only at h
 refine Len.map ?_
 refine Br.od h (fun p1 h=> ?_) (fun p1 h=> ?_)
 ·refine Len.map ?_
  refine Ask.o h fun p2 h=> ?_
  refine Elem.o (by first | omega | (simp [Aw] at * <;> omega)) ?_
  refine Len.map ?_
  refine Ask.o h fun p3 h=> ?_
  refine Elem.o (by first | omega | (simp [Aw] at * <;> omega)) ?_
  refine BslQ.o Ag ([nth f0 (nth args0 x6.toNat).toNat]) (by exact fun _=>⟨rfl,rfl⟩) (by first | rfl | (simp only [Aa,V.fz,fzL,V.up,upL,Ab,Ac,Ad,slr,List.cons_append,List.nil_append];done) | simp [Aa,V.fz,fzL,V.up,upL,Ab,Ac,Ad,slr]) ?_
  refine NoOwn.o (fun _=>rfl) ?_
  refine AppQ.o (m:=1) Ag (by exact fun _=>⟨rfl,rfl⟩) (x5) ([nth f0 (nth args0 x6.toNat).toNat]) (by rfl) (by rfl) h fun h=> ?_
  refine Ask.o h fun p4 h=> ?_
  cases h;exact ⟨rfl,rfl⟩
 cases h;exact ⟨rfl,rfl⟩
noncomputable def Il (f0:(List Int)) (args0:(List Int)):Option (List Int):=
 (Al (Dw f0 args0) ((0:Int),Ao Int)).bind fun q5_5=>
 some q5_5
theorem Ajd {f0:(List Int)} {args0:(List Int)} {v:(List Int)} (h:Il f0 args0=some v):Ret Try.prog Qe [(slr false 1 Ag) f0,(slr false 1 Ag) args0] ((slr true 1 Ag) v):=by
 refine Bb Air (Nat.le_of_ble_eq_true rfl) ?_
 unfold Il at h
 refine BslQ.o Ag (Ao Int) (by exact fun _=>⟨rfl,rfl⟩) (by first | rfl | (simp only [Aa,V.fz,fzL,V.up,upL,Ab,Ac,Ad,slr,List.cons_append,List.nil_append];done) | simp [Aa,V.fz,fzL,V.up,upL,Ab,Ac,Ad,slr]) ?_
 refine LoopQ.o [6,5,0,1] (Lt f0 args0) (Sk f0 args0) h (fun s o h=>Ac4 s o h) (by rfl) (fun _=>rfl) ?_
 rintro q5_5 h
 try dsimp only at h
 cases h;exact (by rfl)
noncomputable def Ep (n0:Int):(Int×(List Int)×Int)→Option ((Int×(List Int)×Int) ⊕ (List Int)):=fun (x8,x7,x2)=>
 if x8≥(0:Int) then
 ask (n0≠(0:Int)) <|
 ask ((0:Int)≤x8∧x8<(↑x7.length:Int)) <|
 ask (n0≠(0:Int)∧InI (x2.tdiv n0)) <|
 ask (InI (x8-(1:Int))) <|
 some (.inl (x8-(1:Int),x7.set x8.toNat (x2.tmod n0),x2.tdiv n0))
 else
 some (.inr x7)
def Ot (n0:Int):(Int×(List Int)×Int)→St:=fun s=>[(8,A.val (Ag s.1)),(7,A.val ((slr true 1 Ag) s.2.1)),(0,A.val (Ag (n0))),(2,A.val (Ag s.2.2))]
def Vx (_n0:Int):(List Int)→Tgt
 | s=>((Ex.exit 0),[7],[(7,A.val ((slr true 1 Ag) s))])
theorem Afm {n0:Int} (s:(Int×(List Int)×Int)) (o:(Int×(List Int)×Int) ⊕ (List Int)) (h:Ep n0 s=some o):vc Try.prog Wm (C1 [8,7,0,2] (Ot n0) (Vx n0) o) (Ot n0 s):=by
 obtain ⟨x8,x7,x2⟩:=s
 unfold Ep at h
 try dsimp only at h
 refine Br.od h (fun p3 h=> ?_) (fun p3 h=> ?_)
 ·refine Ask.o h fun p4 h=> ?_
  refine Len.map ?_
  refine Ask.o h fun p5 h=> ?_
  refine SetKids.one (fun _=>⟨rfl,rfl⟩) (x2.tmod n0) (by rfl) (by first | omega | (simp [Aw] at * <;> omega)) ?_
  refine Ask.o h fun p6 h=> ?_
  refine Ask.o h fun p7 h=> ?_
  cases h;exact ⟨rfl,rfl⟩
 cases h;exact ⟨rfl,rfl⟩
noncomputable def Fy (n0:Int) (arity0:Int) (at0:Int):Option (List Int):=
 ask ((0:Int)≤arity0∧arity0≤(↑LIM:Int)) <|
 ask (InI (arity0-(1:Int))) <|
 (Al (Ep n0) (arity0-(1:Int),List.replicate arity0.toNat (0:Int),at0)).bind fun q8_7=>
 some q8_7
theorem O3 {n0:Int} {arity0:Int} {at0:Int} {v:(List Int)} (h:Fy n0 arity0 at0=some v):Ret Try.prog Ix [Ag n0,Ag arity0,Ag at0] ((slr true 1 Ag) v):=by
 refine Bb Am2 (Nat.le_of_ble_eq_true rfl) ?_
 unfold Fy at h
 refine Ask.o h fun p1 h=> ?_
 refine MkQ.o Ag ((0:Int)) rfl ?_
 refine Ask.o h fun p2 h=> ?_
 refine LoopQ.o [8,7,0,2] (Ot n0) (Vx n0) h (fun s o h=>Afm s o h) (by rfl) (fun _=>rfl) ?_
 rintro q8_7 h
 try dsimp only at h
 cases h;exact (by rfl)
noncomputable def Fh (l0:List Int) (n0:Int):Int→Option (Int ⊕ (Unit ⊕ Unit)):=fun x5=>
 if x5<(↑l0.length:Int) then
 ask ((0:Int)≤x5∧x5<(↑l0.length:Int)) <|
 if nth l0 x5.toNat=n0 then
 some (.inr (.inl ()))
 else
 ask (InI (x5+(1:Int))) <|
 some (.inl (x5+(1:Int)))
 else
 some (.inr (.inr ()))
def P6 (l0:List Int) (n0:Int):Int→St:=fun s=>[(5,A.val (Ag s)),(0,A.val ((slr false 1 Ag) (l0))),(1,A.val (Ag (n0)))]
def Xx (_l0:List Int) (_n0:Int):(Unit ⊕ Unit)→Tgt
 | (.inl _s)=>(Ex.ret,[4],[(4,A.val (V.bool (true)))])
 | (.inr _s)=>((Ex.exit 0),[],[])
theorem Ajb {l0:List Int} {n0:Int} (x5:Int) (o:Int ⊕ (Unit ⊕ Unit)) (h:Fh l0 n0 x5=some o):vc Try.prog Ym (C1 [5,0,1] (P6 l0 n0) (Xx l0 n0) o) (P6 l0 n0 x5):=by
 unfold Fh at h
 try dsimp only at h
 refine Len.map ?_
 refine Br.od h (fun p1 h=> ?_) (fun p1 h=> ?_)
 ·refine Len.map ?_
  refine Ask.o h fun p2 h=> ?_
  refine Elem.o (by first | omega | (simp [Aw] at * <;> omega)) ?_
  refine Br.oe h (fun p3 h=> ?_) (fun p3 h=> ?_)
  ·cases h;exact ⟨rfl,rfl⟩
  refine Ask.o h fun p4 h=> ?_
  cases h;exact ⟨rfl,rfl⟩
 cases h;exact ⟨rfl,rfl⟩
noncomputable def Hv (l0:(List Int)) (n0:Int):Option Bool:=
 (Al (Fh l0 n0) (0:Int)).bind fun t=>match t with
 | (.inl _)=>(some true)
 | (.inr _)=>(some false)
theorem Xt {l0:(List Int)} {n0:Int} {v:Bool} (h:Hv l0 n0=some v):Ret Try.prog Mn [(slr false 1 Ag) l0,Ag n0] (V.bool v):=by
 refine Bb Aq3 (Nat.le_of_ble_eq_true rfl) ?_
 unfold Hv at h
 refine LoopQ.o [5,0,1] (P6 l0 n0) (Xx l0 n0) h (fun s o h=>Ajb s o h) (by rfl) (by rintro (_ | _)<;>rfl) ?_
 rintro (⟨⟩ | ⟨⟩) h
 ·try dsimp only at h
  cases h;exact (by rfl)
 try dsimp only at h
 cases h;exact (by rfl)
noncomputable def D9 (a0:SAlgebra) (_op0:Int) (args0:List Int):(Int×Int)→Option ((Int×Int) ⊕ Int):=fun (x8,x7)=>
 if x8<(↑args0.length:Int) then
 ask (InI (x7*a0.Size)) <|
 ask ((0:Int)≤x8∧x8<(↑args0.length:Int)) <|
 ask (InI (x7*a0.Size+nth args0 x8.toNat)) <|
 ask (InI (x8+(1:Int))) <|
 some (.inl (x8+(1:Int),x7*a0.Size+nth args0 x8.toNat))
 else
 some (.inr x7)
def M1 (a0:SAlgebra) (op0:Int) (args0:List Int):(Int×Int)→St:=fun s=>[(8,A.val (Ag s.1)),(7,A.val (Ag s.2)),(3,A.val ((rP true (Ae false)) (a0))),(1,A.val (Ag (op0))),(2,A.val ((slr false 1 Ag) (args0)))]
def Tz (a0:SAlgebra) (op0:Int) (_args0:List Int):Int→Tgt
 | s=>((Ex.exit 0),[7,3,1],[(7,A.val (Ag s)),(3,A.val ((rP true (Ae false)) (a0))),(1,A.val (Ag (op0)))])
theorem Ae0 {a0:SAlgebra} {op0:Int} {args0:List Int} (s:(Int×Int)) (o:(Int×Int) ⊕ Int) (h:D9 a0 op0 args0 s=some o):vc Try.prog Tw (C1 [8,7,3,1,2] (M1 a0 op0 args0) (Tz a0 op0 args0) o) (M1 a0 op0 args0 s):=by
 obtain ⟨x8,x7⟩:=s
 unfold D9 at h
 try dsimp only at h
 refine Len.map ?_
 refine Br.od h (fun p1 h=> ?_) (fun p1 h=> ?_)
 ·refine Cells.lit rfl rfl ?_
  refine Ask.o h fun p2 h=> ?_
  refine Len.map ?_
  refine Ask.o h fun p3 h=> ?_
  refine Elem.o (by first | omega | (simp [Aw] at * <;> omega)) ?_
  refine Ask.o h fun p4 h=> ?_
  refine Ask.o h fun p5 h=> ?_
  cases h;exact ⟨rfl,rfl⟩
 cases h;exact ⟨rfl,rfl⟩
noncomputable def F9 (a0:SAlgebra) (op0:Int) (args0:(List Int)):Option Int:=
 (Al (D9 a0 op0 args0) ((0:Int),(0:Int))).bind fun q6_7=>
 ask ((0:Int)≤op0∧op0<(↑a0.Ops.length:Int)) <|
 ask ((0:Int)≤q6_7∧q6_7<(↑(nth a0.Ops op0.toNat).Table.length:Int)) <|
 some (nth (nth a0.Ops op0.toNat).Table q6_7.toNat)
theorem Zr {a0:SAlgebra} {op0:Int} {args0:(List Int)} {v:Int} (h:F9 a0 op0 args0=some v):Ret Try.prog Mw [(Ae false) a0,Ag op0,(slr false 1 Ag) args0] (Ag v):=by
 refine Bb Ak6 (Nat.le_of_ble_eq_true rfl) ?_
 unfold F9 at h
 refine LoopQ.o [8,7,3,1,2] (M1 a0 op0 args0) (Tz a0 op0 args0) h (fun s o h=>Ae0 s o h) (by rfl) (fun _=>rfl) ?_
 rintro q6_7 h
 try dsimp only at h
 refine Cells.lit rfl rfl ?_
 refine Len.map ?_
 refine Ask.o h fun p7 h=> ?_
 refine Elem.o (by first | omega | (simp [Aw] at * <;> omega)) ?_
 refine Len.map ?_
 refine Ask.o h fun p8 h=> ?_
 refine Elem.o (by first | omega | (simp [Aw] at * <;> omega)) ?_
 cases h;exact (by rfl)
noncomputable def Fl (n0:Int):(Int×Int)→Option ((Int×Int) ⊕ Int):=fun (x5,x1)=>
 if x1>(0:Int) then
 ask (InI (x5*n0)) <|
 ask (InI (x1-(1:Int))) <|
 some (.inl (x5*n0,x1-(1:Int)))
 else
 some (.inr x5)
def P8 (n0:Int):(Int×Int)→St:=fun s=>[(5,A.val (Ag s.1)),(0,A.val (Ag (n0))),(1,A.val (Ag s.2))]
def X9 (_n0:Int):Int→Tgt
 | s=>((Ex.exit 0),[5],[(5,A.val (Ag s))])
theorem Aio {n0:Int} (s:(Int×Int)) (o:(Int×Int) ⊕ Int) (h:Fl n0 s=some o):vc Try.prog X1 (C1 [5,0,1] (P8 n0) (X9 n0) o) (P8 n0 s):=by
 obtain ⟨x5,x1⟩:=s
 unfold Fl at h
 try dsimp only at h
 refine Br.od h (fun p1 h=> ?_) (fun p1 h=> ?_)
 ·refine Ask.o h fun p2 h=> ?_
  refine Ask.o h fun p3 h=> ?_
  cases h;exact ⟨rfl,rfl⟩
 cases h;exact ⟨rfl,rfl⟩
noncomputable def Gy (n0:Int) (k0:Int):Option Int:=
 (Al (Fl n0) ((1:Int),k0)).bind fun q4_5=>
 some q4_5
theorem W3 {n0:Int} {k0:Int} {v:Int} (h:Gy n0 k0=some v):Ret Try.prog Ms [Ag n0,Ag k0] (Ag v):=by
 refine Bb Asg (Nat.le_of_ble_eq_true rfl) ?_
 unfold Gy at h
 refine LoopQ.o [5,0,1] (P8 n0) (X9 n0) h (fun s o h=>Aio s o h) (by rfl) (fun _=>rfl) ?_
 rintro q4_5 h
 try dsimp only at h
 cases h;exact (by rfl)
noncomputable def Fc (c0:Sl1Cur):Option (Int×Sl1Cur):=
 ((if c0.at_<(↑c0.code.length:Int) then
 ask ((0:Int)≤c0.at_∧c0.at_<(↑c0.code.length:Int)) <|
 some (IntKind.i64.wrap (nth c0.code c0.at_.toNat))
 else
 some (0:Int):Option Int)).bind fun q3_3=>
 ask (InI (c0.at_+(1:Int))) <|
 if c0.at_+(1:Int)≤(↑c0.code.length:Int) then
 some (q3_3,{ code:=c0.code,at_:=c0.at_+(1:Int),seed:=IntKind.u64.wrap (IntKind.u64.wrap (IntKind.u64.wrap (c0.seed*(6364136223846793005:Int))+IntKind.u64.wrap q3_3)+(550289:Int)) })
 else
 some (IntKind.i64.wrap (IntKind.u64.wrap (↑(BitVec.ofInt IntKind.u64.bits ((IntKind.u64.wrap (IntKind.u64.wrap (IntKind.u64.wrap (c0.seed*(6364136223846793005:Int))+IntKind.u64.wrap q3_3)+(550289:Int))).fdiv ((2:Int)^min (Int.toNat (40:Int)) IntKind.u64.bits)) &&& BitVec.ofInt IntKind.u64.bits (255:Int)).toNat:Int)),{ code:=c0.code,at_:=c0.at_+(1:Int),seed:=IntKind.u64.wrap (IntKind.u64.wrap (IntKind.u64.wrap (c0.seed*(6364136223846793005:Int))+IntKind.u64.wrap q3_3)+(550289:Int)) })
theorem Tk {c0:Sl1Cur} {v:(Int×Sl1Cur)} (h:Fc c0=some v):H8 Try.prog I6 [(rP true (Aj false)) c0] (Ag v.1) 0 ((rP true (Aj false)) v.2):=by
 refine I7 Ad8 (Nat.le_of_ble_eq_true rfl) ?_
 unfold Fc at h
 refine CutQ.o (fun t:Int=>match t with | s=>(Ex.normal,[3,0,62],[(3,A.val (Ag s)),(0,A.ref 62 []),(62,A.val ((rP true (Aj false)) (c0)))])) h ?_ ?_
 ·intro t h
  refine Cells.lit rfl rfl ?_
  refine Cells.lit rfl rfl ?_
  refine Len.map ?_
  refine Br.od h (fun p1 h=> ?_) (fun p1 h=> ?_)
  ·refine Cells.lit rfl rfl ?_
   refine Cells.lit rfl rfl ?_
   refine Len.map ?_
   refine Ask.o h fun p2 h=> ?_
   refine Elem.o (by first | omega | (simp [Aw] at * <;> omega)) ?_
   cases h;exact ⟨rfl,rfl⟩
  cases h;exact ⟨rfl,rfl⟩
 rintro q3_3 h
 try dsimp only at h
 refine Cells.lit rfl rfl ?_
 refine Ask.o h fun p4 h=> ?_
 refine SetKids.lit rfl ?_
 refine Cells.lit rfl rfl ?_
 refine SetKids.lit rfl ?_
 refine Cells.lit rfl rfl ?_
 refine Cells.lit rfl rfl ?_
 refine Len.map ?_
 refine Br.od h (fun p5 h=> ?_) (fun p5 h=> ?_)
 ·cases h;exact ⟨(by rfl),(by rfl)⟩
 refine Cells.lit rfl rfl ?_
 cases h;exact ⟨(by rfl),(by rfl)⟩
end Go.Proofs.Ytmkgjnphianalaa.Ax
