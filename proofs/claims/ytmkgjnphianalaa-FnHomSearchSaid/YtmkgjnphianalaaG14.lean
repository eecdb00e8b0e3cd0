/-
 What the functions compute, as functions on plain data, and that the program does compute it; written by program.
-/
import Derived.Test.YtmkgjnphianalaaCode
import Derived.Test.YtmkgjnphianalaaG1
import Derived.Test.YtmkgjnphianalaaG3
import Derived.Test.YtmkgjnphianalaaG4
import Derived.Test.YtmkgjnphianalaaG6
import Derived.Test.YtmkgjnphianalaaG8
import Derived.Test.YtmkgjnphianalaaG10
import Derived.Test.YtmkgjnphianalaaG11
import Derived.Test.YtmkgjnphianalaaG12
import Derived.Test.YtmkgjnphianalaaG13
namespace Go.Proofs.Ytmkgjnphianalaa.Ax
open Go
set_option maxRecDepth 100000
set_option maxHeartbeats 4000000
noncomputable def E8 (a0:SAlgebra) (_b0:SAlgebra) (_embed0:Bool) (_found0:List (List Int)):(Int×(List Int))→Option ((Int×(List Int)) ⊕ (List Int)):=fun (x23,x10)=>
 if x23<(↑a0.Size.toNat:Int) then
 ask ((0:Int)≤x23∧x23<(↑x10.length:Int)) <|
 ask (InI (x23+(1:Int))) <|
 some (.inl (x23+(1:Int),x10.set x23.toNat (-1:Int)))
 else
 some (.inr x10)
def Js (gv:Value) (a0:SAlgebra) (b0:SAlgebra) (embed0:Bool) (found0:List (List Int)):(Int×(List Int))→St:=fun s=>[(23,A.val (Ag s.1)),(22,A.val (Ag ((↑a0.Size.toNat:Int)))),(10,A.val ((slr true 1 Ag) s.2)),(9,A.val ((rP true (Bm gv)) ({ a:=a0,b:=b0,embed:=embed0,tries:=(0:Int),found:=Sum.inl found0 }))),(44,A.val (V.raw gv))]
def Pf (gv:Value) (a0:SAlgebra) (b0:SAlgebra) (embed0:Bool) (found0:List (List Int)):(List Int)→Tgt
 | s=>((Ex.exit 0),[10,9,44],[(10,A.val ((slr true 1 Ag) s)),(9,A.val ((rP true (Bm gv)) ({ a:=a0,b:=b0,embed:=embed0,tries:=(0:Int),found:=Sum.inl found0 }))),(44,A.val (V.raw gv))])
theorem Y9 {gv:Value} {a0:SAlgebra} {b0:SAlgebra} {embed0:Bool} {found0:List (List Int)} (s:(Int×(List Int))) (o:(Int×(List Int)) ⊕ (List Int)) (h:E8 a0 b0 embed0 found0 s=some o):vc Try.prog J3 (C1 [23,22,10,9,44] (Js gv a0 b0 embed0 found0) (Pf gv a0 b0 embed0 found0) o) (Js gv a0 b0 embed0 found0 s):=by
 obtain ⟨x23,x10⟩:=s
 unfold E8 at h
 try dsimp only at h
 refine Br.od h (fun p2 h=> ?_) (fun p2 h=> ?_)
 ·refine Len.map ?_
  refine Ask.o h fun p3 h=> ?_
  refine SetKids.one (fun _=>⟨rfl,rfl⟩) ((-1:Int)) (by rfl) (by first | omega | (simp [Aw] at * <;> omega)) ?_
  refine Ask.o h fun p4 h=> ?_
  cases h;exact ⟨rfl,rfl⟩
 cases h;exact ⟨rfl,rfl⟩
noncomputable def Ec (a0:SAlgebra) (_b0:SAlgebra) (_embed0:Bool) (_found0:(Unit ⊕ SAlgebra)×Option (List Int)):(Int×(List Int))→Option ((Int×(List Int)) ⊕ (List Int)):=fun (x23,x10)=>
 if x23<(↑a0.Size.toNat:Int) then
 ask ((0:Int)≤x23∧x23<(↑x10.length:Int)) <|
 ask (InI (x23+(1:Int))) <|
 some (.inl (x23+(1:Int),x10.set x23.toNat (-1:Int)))
 else
 some (.inr x10)
def H7 (gv:Value) (a0:SAlgebra) (b0:SAlgebra) (embed0:Bool) (found0:(Unit ⊕ SAlgebra)×Option (List Int)):(Int×(List Int))→St:=fun s=>[(23,A.val (Ag s.1)),(22,A.val (Ag ((↑a0.Size.toNat:Int)))),(10,A.val ((slr true 1 Ag) s.2)),(9,A.val ((rP true (Bm gv)) ({ a:=a0,b:=b0,embed:=embed0,tries:=(0:Int),found:=Sum.inr found0 }))),(44,A.val (V.raw gv))]
def Nh (gv:Value) (a0:SAlgebra) (b0:SAlgebra) (embed0:Bool) (found0:(Unit ⊕ SAlgebra)×Option (List Int)):(List Int)→Tgt
 | s=>((Ex.exit 0),[10,9,44],[(10,A.val ((slr true 1 Ag) s)),(9,A.val ((rP true (Bm gv)) ({ a:=a0,b:=b0,embed:=embed0,tries:=(0:Int),found:=Sum.inr found0 }))),(44,A.val (V.raw gv))])
theorem Xf {gv:Value} {a0:SAlgebra} {b0:SAlgebra} {embed0:Bool} {found0:(Unit ⊕ SAlgebra)×Option (List Int)} (s:(Int×(List Int))) (o:(Int×(List Int)) ⊕ (List Int)) (h:Ec a0 b0 embed0 found0 s=some o):vc Try.prog J3 (C1 [23,22,10,9,44] (H7 gv a0 b0 embed0 found0) (Nh gv a0 b0 embed0 found0) o) (H7 gv a0 b0 embed0 found0 s):=by
 obtain ⟨x23,x10⟩:=s
 unfold Ec at h
 try dsimp only at h
 refine Br.od h (fun p12 h=> ?_) (fun p12 h=> ?_)
 ·refine Len.map ?_
  refine Ask.o h fun p13 h=> ?_
  refine SetKids.one (fun _=>⟨rfl,rfl⟩) ((-1:Int)) (by rfl) (by first | omega | (simp [Aw] at * <;> omega)) ?_
  refine Ask.o h fun p14 h=> ?_
  cases h;exact ⟨rfl,rfl⟩
 cases h;exact ⟨rfl,rfl⟩
noncomputable def Di (a0:SAlgebra) (b0:SAlgebra) (embed0:Bool) (found0:(((List (List Int))) ⊕ ((Unit ⊕ (SAlgebra))×(Option (List Int))))):Option (Bool×(((List (List Int))) ⊕ ((Unit ⊕ (SAlgebra))×(Option (List Int))))):=
 match found0 with
 | (.inl found0)=>(ask ((0:Int)≤a0.Size∧a0.Size≤(↑LIM:Int)) <|
 (Al (E8 a0 b0 embed0 found0) ((0:Int),List.replicate a0.Size.toNat (0:Int))).bind fun q5_10=>
 (Bv ({ a:=a0,b:=b0,embed:=embed0,tries:=(0:Int),found:=Sum.inl found0 }) (q5_10)).bind fun (r6,u7)=>
 if (r6)=true then
 (Agn fun n=>A6 n ({ a:=a0,b:=b0,embed:=embed0,tries:=(0:Int),found:=Sum.inl found0 }) (u7)).bind fun (_r9,u10)=>
 some (decide (u10.tries≤(5000:Int)),u10.found)
 else
 some (decide ((0:Int)≤(5000:Int)),Sum.inl found0))
 | (.inr found0)=>(ask ((0:Int)≤a0.Size∧a0.Size≤(↑LIM:Int)) <|
 (Al (Ec a0 b0 embed0 found0) ((0:Int),List.replicate a0.Size.toNat (0:Int))).bind fun q15_10=>
 (Bv ({ a:=a0,b:=b0,embed:=embed0,tries:=(0:Int),found:=Sum.inr found0 }) (q15_10)).bind fun (r16,u17)=>
 if (r16)=true then
 (Agn fun n=>A6 n ({ a:=a0,b:=b0,embed:=embed0,tries:=(0:Int),found:=Sum.inr found0 }) (u17)).bind fun (_r19,u20)=>
 some (decide (u20.tries≤(5000:Int)),u20.found)
 else
 some (decide ((0:Int)≤(5000:Int)),Sum.inr found0))
theorem T6 {gv:Value} {a0:SAlgebra} {b0:SAlgebra} {embed0:Bool} {found0:(((List (List Int))) ⊕ ((Unit ⊕ (SAlgebra))×(Option (List Int))))} {v:(Bool×(((List (List Int))) ⊕ ((Unit ⊕ (SAlgebra))×(Option (List Int)))))} (h:Di a0 b0 embed0 found0=some v):H8 Try.prog I8 [(Ae false) a0,(Ae false) b0,V.bool embed0,(B9 gv) found0] (V.bool v.1) 3 ((B9 gv) v.2):=by
 refine I7 Adm (Nat.le_of_ble_eq_true rfl) ?_
 unfold Di at h
 rcases found0 with found0 | found0
 ·try dsimp only at h
  refine Cells.lit rfl rfl ?_
  refine Cells.lit rfl rfl ?_
  refine Cells.lit rfl rfl ?_
  refine Ask.o h fun p1 h=> ?_
  refine MkQ.o Ag ((0:Int)) rfl ?_
  refine Len.mrep ?_
  refine LoopQ.o [23,22,10,9,44] (Js gv a0 b0 embed0 found0) (Pf gv a0 b0 embed0 found0) h (fun s o h=>Y9 s o h) (by rfl) (fun _=>rfl) ?_
  rintro q5_10 h
  try dsimp only at h
  refine CallQ.io V.bool (slr true 1 Ag) (by rfl) rfl (fun _=>rfl) (fun _=>⟨by first | rfl | simp [Cx,V.noFz,Bs],rfl⟩) rfl h (fun r h=>Iy h) (fun r6 u7 h=> ?_)
  refine Br.ob h (fun p8 h=> ?_) (fun p8 h=> ?_)
  ·refine CallQ.io V.bool (rP true (Bm gv)) (by first | rfl | simp only [V.fz,Ab,slr] | simp [Aa,V.fz,fzL,V.up,upL,Ab,Ac,Ad,slr]) rfl (fun _=>rfl) (fun _=>⟨rfl,rfl⟩) rfl h (fun r h=>L5 h) (fun r9 u10 h=> ?_)
   refine Cells.lit rfl rfl ?_
   refine Kid.lit rfl rfl ?_
   refine TokE.mk ⟨_,_,rfl,?_⟩
   refine Kid.lit rfl rfl ?_
   refine SetKids.lit rfl ?_
   cases h;exact ⟨(by rfl),(by rfl)⟩
  refine Cells.lit rfl rfl ?_
  refine Kid.lit rfl rfl ?_
  refine TokE.mk ⟨_,_,rfl,?_⟩
  refine Kid.lit rfl rfl ?_
  refine SetKids.lit rfl ?_
  cases h;exact ⟨(by rfl),(by rfl)⟩
 try dsimp only at h
 refine Cells.lit rfl rfl ?_
 refine Cells.lit rfl rfl ?_
 refine Cells.lit rfl rfl ?_
 refine Ask.o h fun p11 h=> ?_
 refine MkQ.o Ag ((0:Int)) rfl ?_
 refine Len.mrep ?_
 refine LoopQ.o [23,22,10,9,44] (H7 gv a0 b0 embed0 found0) (Nh gv a0 b0 embed0 found0) h (fun s o h=>Xf s o h) (by rfl) (fun _=>rfl) ?_
 rintro q15_10 h
 try dsimp only at h
 refine CallQ.io V.bool (slr true 1 Ag) (by rfl) rfl (fun _=>rfl) (fun _=>⟨by first | rfl | simp [Cx,V.noFz,Bs],rfl⟩) rfl h (fun r h=>Iy h) (fun r16 u17 h=> ?_)
 refine Br.ob h (fun p18 h=> ?_) (fun p18 h=> ?_)
 ·refine CallQ.io V.bool (rP true (Bm gv)) (by first | rfl | simp only [V.fz,Ab,slr] | simp [Aa,V.fz,fzL,V.up,upL,Ab,Ac,Ad,slr]) rfl (fun _=>rfl) (fun _=>⟨rfl,rfl⟩) rfl h (fun r h=>L5 h) (fun r19 u20 h=> ?_)
  refine Cells.lit rfl rfl ?_
  refine Kid.lit rfl rfl ?_
  refine TokE.mk ⟨_,_,rfl,?_⟩
  refine Kid.lit rfl rfl ?_
  refine SetKids.lit rfl ?_
  cases h;exact ⟨(by rfl),(by rfl)⟩
 refine Cells.lit rfl rfl ?_
 refine Kid.lit rfl rfl ?_
 refine TokE.mk ⟨_,_,rfl,?_⟩
 refine Kid.lit rfl rfl ?_
 refine SetKids.lit rfl ?_
 cases h;exact ⟨(by rfl),(by rfl)⟩
noncomputable def Gc (code0:(List Int)):Option (SAlgebra×SAlgebra):=
 (Fe ({ code:=code0,at_:=(0:Int),seed:=(0:Int) })).bind fun (r1,_u2)=>
 some r1
theorem Acp {code0:(List Int)} {v:(SAlgebra×SAlgebra)} (h:Gc code0=some v):Ret Try.prog Lw [(slr false 1 (V.int IntKind.u8)) code0] ((fun r=>V.tup [(Ae false) r.1,(Ae false) r.2]) v):=by
 refine Bb Ach (Nat.le_of_ble_eq_true rfl) ?_
 unfold Gc at h
 refine CallQ.io (fun r=>V.tup [(Ae false) r.1,(Ae false) r.2]) (rP true (Aj false)) (by rfl) rfl (fun _=>rfl) (fun _=>⟨rfl,rfl⟩) rfl h (fun r h=>T4 h) (fun r1 u2 h=> ?_)
 refine SetKids.lit rfl ?_
 refine SetKids.lit rfl ?_
 cases h;exact (by rfl)
noncomputable def Ng (a0:SAlgebra) (b0:SAlgebra) (f0:(List Int)):Option (Bool×Bool):=
 (Dp (a0) (b0)).bind fun r1=>
 if (r1)=true then
 (Mz (a0) (b0) (f0)).bind fun r3=>
 some (r3,true)
 else
 some (false,false)
theorem Aq0 {a0:SAlgebra} {b0:SAlgebra} {f0:(List Int)} {v:(Bool×Bool)} (h:Ng a0 b0 f0=some v):Ret Try.prog Xg [(Ae false) a0,(Ae false) b0,(slr false 1 Ag) f0] ((fun r=>V.tup [V.bool r.1,V.bool r.2]) v):=by
 refine Bb Asd (Nat.le_of_ble_eq_true rfl) ?_
 unfold Ng at h
 refine Cells.lit rfl rfl ?_
 refine Cells.lit rfl rfl ?_
 refine CallQ.o V.bool (by rfl) h (fun r h=>In h) (fun r1 h=> ?_)
 refine Br.flip ?_
 refine Br.ob h (fun p2 h=> ?_) (fun p2 h=> ?_)
 ·refine Cells.lit rfl rfl ?_
  refine Cells.lit rfl rfl ?_
  refine CallQ.o V.bool (by rfl) h (fun r h=>Arq h) (fun r3 h=> ?_)
  cases h;exact (by rfl)
 cases h;exact (by rfl)
noncomputable def Ch (_a0:SAlgebra) (b0:SAlgebra) (f0:List Int):Int→Option (Int ⊕ (Unit ⊕ Unit)):=fun x25=>
 if x25<(↑f0.length:Int) then
 ask ((0:Int)≤x25∧x25<(↑f0.length:Int)) <|
 if nth f0 x25.toNat<(-1:Int) then
 some (.inr (.inl ()))
 else
 if nth f0 x25.toNat≥b0.Size then
 some (.inr (.inl ()))
 else
 ask (InI (x25+(1:Int))) <|
 some (.inl (x25+(1:Int)))
 else
 some (.inr (.inr ()))
def Hw (a0:SAlgebra) (b0:SAlgebra) (f0:List Int):Int→St:=fun s=>[(25,A.val (Ag s)),(24,A.val (Ag ((↑f0.length:Int)))),(23,A.val ((slr false 1 Ag) (f0))),(4,A.val ((rP true (Ae false)) (b0))),(3,A.val ((rP true (Ae false)) (a0))),(2,A.val ((slr false 1 Ag) (f0)))]
def Mr (a0:SAlgebra) (b0:SAlgebra) (f0:List Int):(Unit ⊕ Unit)→Tgt
 | (.inl _s)=>(Ex.ret,[7,6],[(7,A.val (V.bool (false))),(6,A.val ((slr true 1 Ag) (Ao Int)))])
 | (.inr _s)=>((Ex.exit 0),[4,3,2],[(4,A.val ((rP true (Ae false)) (b0))),(3,A.val ((rP true (Ae false)) (a0))),(2,A.val ((slr false 1 Ag) (f0)))])
theorem Xv {a0:SAlgebra} {b0:SAlgebra} {f0:List Int} (x25:Int) (o:Int ⊕ (Unit ⊕ Unit)) (h:Ch a0 b0 f0 x25=some o):vc Try.prog Mu (C1 [25,24,23,4,3,2] (Hw a0 b0 f0) (Mr a0 b0 f0) o) (Hw a0 b0 f0 x25):=by
 unfold Ch at h
 try dsimp only at h
 refine Br.od h (fun p5 h=> ?_) (fun p5 h=> ?_)
 ·refine Len.map ?_
  refine Ask.o h fun p6 h=> ?_
  refine Elem.o (by first | omega | (simp [Aw] at * <;> omega)) ?_
  refine Br.od h (fun p7 h=> ?_) (fun p7 h=> ?_)
  ·refine Br.yes ?_
   refine Br.yes ?_
   refine Br.yes ?_
   refine Br.yes ?_
   refine Br.yes ?_
   refine BslQ.o Ag (Ao Int) (by exact fun _=>⟨rfl,rfl⟩) (by first | rfl | (simp only [Aa,V.fz,fzL,V.up,upL,Ab,Ac,Ad,slr,List.cons_append,List.nil_append];done) | simp [Aa,V.fz,fzL,V.up,upL,Ab,Ac,Ad,slr]) ?_
   cases h;exact ⟨rfl,rfl⟩
  refine Br.no ?_
  refine Br.no ?_
  refine Cells.lit rfl rfl ?_
  refine Br.no ?_
  refine Br.no ?_
  refine Br.od h (fun p8 h=> ?_) (fun p8 h=> ?_)
  ·refine BslQ.o Ag (Ao Int) (by exact fun _=>⟨rfl,rfl⟩) (by first | rfl | (simp only [Aa,V.fz,fzL,V.up,upL,Ab,Ac,Ad,slr,List.cons_append,List.nil_append];done) | simp [Aa,V.fz,fzL,V.up,upL,Ab,Ac,Ad,slr]) ?_
   cases h;exact ⟨rfl,rfl⟩
  refine Ask.o h fun p9 h=> ?_
  cases h;exact ⟨rfl,rfl⟩
 cases h;exact ⟨rfl,rfl⟩
noncomputable def Ed (a0:SAlgebra) (b0:SAlgebra) (f0:(List Int)):Option ((List Int)×Bool):=
 (((Dp (a0) (b0)).bind fun r1=>
 if (r1)=true then
 if (↑f0.length:Int)≠a0.Size then
 some (.inl ())
 else
 some (.inr ())
 else
 some (.inl ()):Option (Unit ⊕ Unit))).bind fun t=>match t with
 | (.inl _)=>(some (Ao Int,false))
 | (.inr _)=>((Al (Ch a0 b0 f0) (0:Int)).bind fun t=>match t with
 | (.inl _)=>(some (Ao Int,false))
 | (.inr _)=>((Ea (f0)).bind fun r11=>
 (Fm (a0) (b0) (r11)).bind fun (r12,u13)=>
 if (r12)=true then
 some (u13,true)
 else
 some (Ao Int,false)))
theorem Qx {a0:SAlgebra} {b0:SAlgebra} {f0:(List Int)} {v:((List Int)×Bool)} (h:Ed a0 b0 f0=some v):Ret Try.prog G9 [(Ae false) a0,(Ae false) b0,(slr false 1 Ag) f0] ((fun r=>V.tup [(slr true 1 Ag) r.1,V.bool r.2]) v):=by
 refine Bb Abh (Nat.le_of_ble_eq_true rfl) ?_
 unfold Ed at h
 refine CutQ.o (fun t:(Unit ⊕ Unit)=>match t with | (.inl s)=>(Ex.ret,[7,6],[(7,A.val (V.bool (false))),(6,A.val ((slr true 1 Ag) (Ao Int)))]) | (.inr s)=>(Ex.normal,[4,3,2],[(4,A.val ((rP true (Ae false)) (b0))),(3,A.val ((rP true (Ae false)) (a0))),(2,A.val ((slr false 1 Ag) (f0)))])) h ?_ ?_
 ·intro t h
  refine Cells.lit rfl rfl ?_
  refine Cells.lit rfl rfl ?_
  refine CallQ.o V.bool (by rfl) h (fun r h=>In h) (fun r1 h=> ?_)
  refine Br.flip ?_
  refine Br.ob h (fun p2 h=> ?_) (fun p2 h=> ?_)
  ·refine Br.no ?_
   refine Len.map ?_
   refine Br.no ?_
   refine Br.no ?_
   refine Cells.lit rfl rfl ?_
   refine Br.no ?_
   refine Br.no ?_
   refine Br.on h (fun p3 h=> ?_) (fun p3 h=> ?_)
   ·refine BslQ.o Ag (Ao Int) (by exact fun _=>⟨rfl,rfl⟩) (by first | rfl | (simp only [Aa,V.fz,fzL,V.up,upL,Ab,Ac,Ad,slr,List.cons_append,List.nil_append];done) | simp [Aa,V.fz,fzL,V.up,upL,Ab,Ac,Ad,slr]) ?_
    cases h;exact ⟨rfl,rfl⟩
   cases h;exact ⟨rfl,rfl⟩
  refine Br.yes ?_
  refine Br.yes ?_
  refine Br.yes ?_
  refine Br.yes ?_
  refine Br.yes ?_
  refine Br.yes ?_
  refine BslQ.o Ag (Ao Int) (by exact fun _=>⟨rfl,rfl⟩) (by first | rfl | (simp only [Aa,V.fz,fzL,V.up,upL,Ab,Ac,Ad,slr,List.cons_append,List.nil_append];done) | simp [Aa,V.fz,fzL,V.up,upL,Ab,Ac,Ad,slr]) ?_
  cases h;exact ⟨rfl,rfl⟩
 rintro (⟨⟩ | ⟨⟩) h
 ·try dsimp only at h
  cases h;exact (by rfl)
 try dsimp only at h
 refine Len.map ?_
 refine LoopQ.o [25,24,23,4,3,2] (Hw a0 b0 f0) (Mr a0 b0 f0) h (fun s o h=>Xv s o h) (by rfl) (by rintro (_ | _)<;>rfl) ?_
 rintro (⟨⟩ | ⟨⟩) h
 ·try dsimp only at h
  cases h;exact (by rfl)
 try dsimp only at h
 refine CallQ.o (slr true 1 Ag) (by rfl) h (fun r h=>Ic h) (fun r11 h=> ?_)
 refine Cells.lit rfl rfl ?_
 refine Cells.lit rfl rfl ?_
 refine CallQ.io V.bool (slr true 1 Ag) (by rfl) rfl (fun _=>rfl) (fun _=>⟨rfl,rfl⟩) rfl h (fun r h=>X3 h) (fun r12 u13 h=> ?_)
 refine Br.flip ?_
 refine Br.ob h (fun p14 h=> ?_) (fun p14 h=> ?_)
 ·cases h;exact (by rfl)
 refine BslQ.o Ag (Ao Int) (by exact fun _=>⟨rfl,rfl⟩) (by first | rfl | (simp only [Aa,V.fz,fzL,V.up,upL,Ab,Ac,Ad,slr,List.cons_append,List.nil_append];done) | simp [Aa,V.fz,fzL,V.up,upL,Ab,Ac,Ad,slr]) ?_
 cases h;exact (by rfl)
noncomputable def C7 (_r1:SAlgebra×SAlgebra):(Int×(List Int)×Sl1Cur)→Option ((Int×(List Int)×Sl1Cur) ⊕ (List Int)):=fun (x9,x8,x5)=>
 if x9<(↑x8.length:Int) then
 (Da (x5) ((3:Int))).bind fun (r6,u7)=>
 if (r6)=true then
 ask (InI (x9+(1:Int))) <|
 some (.inl (x9+(1:Int),x8,u7))
 else
 ask ((0:Int)≤x9∧x9<(↑x8.length:Int)) <|
 ask (InI (x9+(1:Int))) <|
 some (.inl (x9+(1:Int),x8.set x9.toNat (-1:Int),u7))
 else
 some (.inr x8)
def Gb (r1:SAlgebra×SAlgebra):(Int×(List Int)×Sl1Cur)→St:=fun s=>[(9,A.val (Ag s.1)),(8,A.val ((slr true 1 Ag) s.2.1)),(7,A.val ((rP true (Ae false)) (r1.snd))),(6,A.val ((rP true (Ae false)) (r1.fst))),(5,A.val ((rP true (Aj false)) s.2.2)),(3,A.val ((rP true (Ae true)) ({ Size:=(0:Int),Ops:=Ao SOp }))),(2,A.val ((rP true (Ae true)) ({ Size:=(0:Int),Ops:=Ao SOp })))]
def J8 (r1:SAlgebra×SAlgebra):(List Int)→Tgt
 | s=>((Ex.exit 0),[8,7,6,3,2],[(8,A.val ((slr true 1 Ag) s)),(7,A.val ((rP true (Ae false)) (r1.snd))),(6,A.val ((rP true (Ae false)) (r1.fst))),(3,A.val ((rP true (Ae true)) ({ Size:=(0:Int),Ops:=Ao SOp }))),(2,A.val ((rP true (Ae true)) ({ Size:=(0:Int),Ops:=Ao SOp })))])
theorem Sa {r1:SAlgebra×SAlgebra} (s:(Int×(List Int)×Sl1Cur)) (o:(Int×(List Int)×Sl1Cur) ⊕ (List Int)) (h:C7 r1 s=some o):vc Try.prog J9 (C1 [9,8,7,6,5,3,2] (Gb r1) (J8 r1) o) (Gb r1 s):=by
 obtain ⟨x9,x8,x5⟩:=s
 unfold C7 at h
 try dsimp only at h
 refine Len.map ?_
 refine Br.od h (fun p5 h=> ?_) (fun p5 h=> ?_)
 ·refine CallQ.io V.bool (rP true (Aj false)) (by rfl) rfl (fun _=>rfl) (fun _=>⟨rfl,rfl⟩) rfl h (fun r h=>Kf h) (fun r6 u7 h=> ?_)
  refine Br.flip ?_
  refine Br.ob h (fun p8 h=> ?_) (fun p8 h=> ?_)
  ·refine Ask.o h fun p9 h=> ?_
   cases h;exact ⟨rfl,rfl⟩
  refine Len.map ?_
  refine Ask.o h fun p10 h=> ?_
  refine SetKids.one (fun _=>⟨rfl,rfl⟩) ((-1:Int)) (by rfl) (by first | omega | (simp [Aw] at * <;> omega)) ?_
  refine Ask.o h fun p11 h=> ?_
  cases h;exact ⟨rfl,rfl⟩
 cases h;exact ⟨rfl,rfl⟩
noncomputable def D1 (code0:(List Int)):Option (SAlgebra×SAlgebra×(List Int)):=
 (Fe ({ code:=code0,at_:=(0:Int),seed:=(0:Int) })).bind fun (r1,u2)=>
 (Gn (u2) (r1.fst) (r1.snd)).bind fun (r3,u4)=>
 (Al (C7 r1) ((0:Int),r3,u4)).bind fun q12_8=>
 some (r1.fst,r1.snd,q12_8)
theorem V3 {code0:(List Int)} {v:(SAlgebra×SAlgebra×(List Int))} (h:D1 code0=some v):Ret Try.prog Ho [(slr false 1 (V.int IntKind.u8)) code0] ((fun r=>V.tup [(Ae false) r.1,(Ae false) r.2.1,(slr false 1 Ag) r.2.2]) v):=by
 refine M2 Vl (Nat.le_of_ble_eq_true rfl) ?_
 unfold D1 at h
 conv=>whnf
 refine CallQ.io (fun r=>V.tup [(Ae false) r.1,(Ae false) r.2]) (rP true (Aj false)) (by rfl) rfl (fun _=>rfl) (fun _=>⟨rfl,rfl⟩) rfl h (fun r h=>T4 h) (fun r1 u2 h=> ?_)
 conv=>whnf
 refine SetKids.lit rfl ?_
 conv=>whnf
 refine SetKids.lit rfl ?_
 conv=>whnf
 refine Cells.lit rfl rfl ?_
 conv=>whnf
 refine Cells.lit rfl rfl ?_
 conv=>whnf
 refine CallQ.io (slr true 1 Ag) (rP true (Aj false)) (by rfl) rfl (fun _=>rfl) (fun _=>⟨rfl,rfl⟩) rfl h (fun r h=>Ae3 h) (fun r3 u4 h=> ?_)
 conv=>whnf
 refine LoopQ.o [9,8,7,6,5,3,2] (Gb r1) (J8 r1) h (fun s o h=>Sa s o h) (by rfl) (fun _=>rfl) ?_
 rintro q12_8 h
 try dsimp only at h
 conv=>whnf
 refine Cells.lit rfl rfl ?_
 conv=>whnf
 refine Cells.lit rfl rfl ?_
 conv=>whnf
 refine Cells.lit rfl rfl ?_
 conv=>whnf
 refine SameQ.mk ⟨rfl,?_⟩
 conv=>whnf
 refine Cells.lit rfl rfl ?_
 conv=>whnf
 refine SameQ.mk ⟨rfl,?_⟩
 conv=>whnf
 refine SameQ.mk ⟨rfl,?_⟩
 conv=>whnf
 refine SetKids.lit rfl ?_
 conv=>whnf
 refine Cells.lit rfl rfl ?_
 conv=>whnf
 refine SameQ.mk ⟨rfl,?_⟩
 conv=>whnf
 refine SameQ.mk ⟨rfl,?_⟩
 conv=>whnf
 refine SetKids.lit rfl ?_
 conv=>whnf
 refine SameQ.mk ⟨rfl,?_⟩
 conv=>whnf
 cases h;exact (by first | rfl | simp only [Ah,V.fz,fzL,V.up,upL,Ab,slr] | simp [Ah,Aa,V.fz,fzL,V.up,upL,Ab,Ac,Ad,slr])
noncomputable def Ie (a0:SAlgebra) (b0:SAlgebra) (embed0:Bool):Option ((List (List Int))×Bool):=
 (Di (a0) (b0) (embed0) (Sum.inl (Ao (List Int)))).bind fun t=>match t with
 | (r1,(.inl u2))=>(if (r1)=true then
 if (↑u2.length:Int)>(300:Int) then
 some (Ao (List Int),false)
 else
 some (u2,true)
 else
 some (Ao (List Int),false))
 | _=>(none)
theorem Ah0 {a0:SAlgebra} {b0:SAlgebra} {embed0:Bool} {v:((List (List Int))×Bool)} (h:Ie a0 b0 embed0=some v):Ret Try.prog Qd [(Ae false) a0,(Ae false) b0,V.bool embed0] ((fun r=>V.tup [(slr true 1 (slr true 1 Ag)) r.1,V.bool r.2]) v):=by
 refine Bb Aif (Nat.le_of_ble_eq_true rfl) ?_
 unfold Ie at h
 refine BslQ.o (slr true 1 Ag) (Ao (List Int)) (by exact fun _=>⟨rfl,rfl⟩) (by first | rfl | (simp only [Aa,V.fz,fzL,V.up,upL,Ab,Ac,Ad,slr,List.cons_append,List.nil_append];done) | simp [Aa,V.fz,fzL,V.up,upL,Ab,Ac,Ad,slr]) ?_
 refine SetKids.lit rfl ?_
 refine Cells.lit rfl rfl ?_
 refine Cells.lit rfl rfl ?_
 refine LendQ.ioc (j:=0) 3 V.bool B9 (fun tv=>(by rfl)) rfl rfl (fun _=>rfl) rfl h (fun r h tv=>T6 h) (fun r1 u2 h=> ?_)
 rcases u2 with u2 | u2
 ·try dsimp only at h
  refine ⟨_,_,fun _=>rfl,rfl,⟨by first | rfl | simp [Cx,rP,slr,V.noFz,Cc,Bs,NoFz.eq],rfl⟩,?_⟩
  refine Br.flip ?_
  refine Br.ob h (fun p3 h=> ?_) (fun p3 h=> ?_)
  ·refine Cells.lit rfl rfl ?_
   refine Br.no ?_
   refine Kid.lit rfl rfl ?_
   refine Len.map ?_
   refine Br.no ?_
   refine Br.no ?_
   refine Br.od h (fun p4 h=> ?_) (fun p4 h=> ?_)
   ·refine BslQ.o (slr true 1 Ag) (Ao (List Int)) (by exact fun _=>⟨rfl,rfl⟩) (by first | rfl | (simp only [Aa,V.fz,fzL,V.up,upL,Ab,Ac,Ad,slr,List.cons_append,List.nil_append];done) | simp [Aa,V.fz,fzL,V.up,upL,Ab,Ac,Ad,slr]) ?_
    cases h;exact (by rfl)
   refine Cells.lit rfl rfl ?_
   cases h;exact (by rfl)
  refine Br.yes ?_
  refine Br.yes ?_
  refine Br.yes ?_
  refine Br.yes ?_
  refine BslQ.o (slr true 1 Ag) (Ao (List Int)) (by exact fun _=>⟨rfl,rfl⟩) (by first | rfl | (simp only [Aa,V.fz,fzL,V.up,upL,Ab,Ac,Ad,slr,List.cons_append,List.nil_append];done) | simp [Aa,V.fz,fzL,V.up,upL,Ab,Ac,Ad,slr]) ?_
  cases h;exact (by rfl)
 cases h
noncomputable def Gj (a0:SAlgebra) (b0:SAlgebra) (embed0:Bool) (good0:(Unit ⊕ (SAlgebra))):Option ((Option (List Int))×Bool):=
 (Di (a0) (b0) (embed0) (Sum.inr (good0,none))).bind fun t=>match t with
 | (r1,(.inr (_u2_0,none)))=>(some (none,r1))
 | (r1,(.inr (_u2_0,some u2_1)))=>(some (some u2_1,r1))
 | _=>(none)
theorem Yb {a0:SAlgebra} {b0:SAlgebra} {embed0:Bool} {good0:(Unit ⊕ (SAlgebra))} {v:((Option (List Int))×Bool)} (h:Gj a0 b0 embed0 good0=some v):Ret Try.prog Lc [(Ae false) a0,(Ae false) b0,V.bool embed0,Eb good0] ((fun r=>V.tup [(rOl 1 Ag) r.1,V.bool r.2]) v):=by
 refine M2 Ajg (Nat.le_of_ble_eq_true rfl) ?_
 unfold Gj at h
 conv=>whnf
 refine FrzQ.d ((rP false Eb) good0) ((Ak _).trans (Eq.trans (b:=V.fz ((rP true Eb) good0)) rfl (Ad (rP true Eb) _))) ?_
 conv=>whnf
 refine Cells.lit rfl rfl ?_
 conv=>whnf
 refine Cells.lit rfl rfl ?_
 conv=>whnf
 refine LendQ.ioc (j:=1) 3 V.bool B9 (fun tv=>(by rfl)) rfl rfl (fun _=>rfl) rfl h (fun r h tv=>T6 h) (fun r1 u2 h=> ?_)
 rcases u2 with u2 | u2
 ·cases h
 rcases u2 with ⟨u2_0,(_ | u2_1)⟩
 ·try dsimp only at h
  refine ⟨_,_,fun _=>rfl,rfl,⟨by first | rfl | simp [Cx,rP,slr,V.noFz,Cc,Bs,NoFz.eq],rfl⟩,?_⟩
  conv=>whnf
  refine Cells.lit rfl rfl ?_
  conv=>whnf
  cases h;exact (by rfl)
 try dsimp only at h
 refine ⟨_,_,fun _=>rfl,rfl,⟨by first | rfl | simp [Cx,rP,slr,V.noFz,Cc,Bs,NoFz.eq],rfl⟩,?_⟩
 conv=>whnf
 refine Cells.lit rfl rfl ?_
 conv=>whnf
 cases h;exact (by first | rfl | simp only [Ah,V.fz,fzL,V.up,Ab] | simp [Ah,Aa,V.fz,fzL,V.up,upL,Ab,Ac,Ad,slr])
noncomputable def Je (a0:SAlgebra) (b0:SAlgebra):Option ((List (List Int))×Bool):=
 (Dp (a0) (b0)).bind fun r1=>
 if (r1)=true then
 (Ie (a0) (b0) (false)).bind fun r3=>
 some r3
 else
 some (Ao (List Int),false)
theorem Aj0 {a0:SAlgebra} {b0:SAlgebra} {v:((List (List Int))×Bool)} (h:Je a0 b0=some v):Ret Try.prog R6 [(Ae false) a0,(Ae false) b0] ((fun r=>V.tup [(slr true 1 (slr true 1 Ag)) r.1,V.bool r.2]) v):=by
 refine Bb Alg (Nat.le_of_ble_eq_true rfl) ?_
 unfold Je at h
 refine Cells.lit rfl rfl ?_
 refine Cells.lit rfl rfl ?_
 refine CallQ.o V.bool (by rfl) h (fun r h=>In h) (fun r1 h=> ?_)
 refine Br.flip ?_
 refine Br.ob h (fun p2 h=> ?_) (fun p2 h=> ?_)
 ·refine Cells.lit rfl rfl ?_
  refine Cells.lit rfl rfl ?_
  refine CallQ.o (fun r=>V.tup [(slr true 1 (slr true 1 Ag)) r.1,V.bool r.2]) (by rfl) h (fun r h=>Ah0 h) (fun r3 h=> ?_)
  cases h;exact (by rfl)
 refine BslQ.o (slr true 1 Ag) (Ao (List Int)) (by exact fun _=>⟨rfl,rfl⟩) (by first | rfl | (simp only [Aa,V.fz,fzL,V.up,upL,Ab,Ac,Ad,slr,List.cons_append,List.nil_append];done) | simp [Aa,V.fz,fzL,V.up,upL,Ab,Ac,Ad,slr]) ?_
 cases h;exact (by rfl)
noncomputable def El (a0:SAlgebra) (b0:SAlgebra):Option ((List Int)×Bool):=
 (Dp (a0) (b0)).bind fun r1=>
 if (r1)=true then
 (Gj (a0) (b0) (true) (Sum.inl ())).bind fun t=>match t with
 | (none,r3_2)=>(if (r3_2)=true then
 some (Ao Int,false)
 else
 some (Ao Int,false))
 | ((some r3_1),r3_2)=>(if (r3_2)=true then
 ask ((0:Int)<(↑r3_1.length:Int)) <|
 some (r3_1,true)
 else
 some (Ao Int,false))
 else
 some (Ao Int,false)
theorem Y6 {a0:SAlgebra} {b0:SAlgebra} {v:((List Int)×Bool)} (h:El a0 b0=some v):Ret Try.prog I1 [(Ae false) a0,(Ae false) b0] ((fun r=>V.tup [(slr false 1 Ag) r.1,V.bool r.2]) v):=by
 refine M2 Yq (Nat.le_of_ble_eq_true rfl) ?_
 unfold El at h
 refine Cells.lit rfl rfl ?_
 refine Cells.lit rfl rfl ?_
 refine CallQ.o V.bool (by rfl) h (fun r h=>In h) (fun r1 h=> ?_)
 refine Br.flip ?_
 refine Br.ob h (fun p2 h=> ?_) (fun p2 h=> ?_)
 ·refine Cells.lit rfl rfl ?_
  refine Cells.lit rfl rfl ?_
  refine CallQ.o (fun r=>V.tup [(rOl 1 Ag) r.1,V.bool r.2]) (by rfl) h (fun r h=>Yb h) (fun r3 h=> ?_)
  rcases r3 with ⟨(_ | r3_1),r3_2⟩
  ·try dsimp only at h
   refine Br.flip ?_
   refine Br.ob h (fun p4 h=> ?_) (fun p4 h=> ?_)
   ·refine Br.no ?_
    refine Br.no ?_
    refine Br.yes ?_
    refine BslQ.o Ag (Ao Int) (by exact fun _=>⟨rfl,rfl⟩) (by first | rfl | (simp only [Aa,V.fz,fzL,V.up,upL,Ab,Ac,Ad,slr,List.cons_append,List.nil_append];done) | simp [Aa,V.fz,fzL,V.up,upL,Ab,Ac,Ad,slr]) ?_
    cases h;exact (by rfl)
   refine Br.yes ?_
   refine Br.yes ?_
   refine Br.yes ?_
   refine BslQ.o Ag (Ao Int) (by exact fun _=>⟨rfl,rfl⟩) (by first | rfl | (simp only [Aa,V.fz,fzL,V.up,upL,Ab,Ac,Ad,slr,List.cons_append,List.nil_append];done) | simp [Aa,V.fz,fzL,V.up,upL,Ab,Ac,Ad,slr]) ?_
   cases h;exact (by rfl)
  try dsimp only at h
  refine Br.flip ?_
  refine Br.ob h (fun p5 h=> ?_) (fun p5 h=> ?_)
  ·refine Br.no ?_
   refine Len.map ?_
   refine Ask.o h fun p6 h=> ?_
   refine Br.no ?_
   refine Br.no ?_
   cases h;exact (by rfl)
  refine Br.yes ?_
  refine Br.yes ?_
  refine Br.yes ?_
  refine BslQ.o Ag (Ao Int) (by exact fun _=>⟨rfl,rfl⟩) (by first | rfl | (simp only [Aa,V.fz,fzL,V.up,upL,Ab,Ac,Ad,slr,List.cons_append,List.nil_append];done) | simp [Aa,V.fz,fzL,V.up,upL,Ab,Ac,Ad,slr]) ?_
  cases h;exact (by rfl)
 refine BslQ.o Ag (Ao Int) (by exact fun _=>⟨rfl,rfl⟩) (by first | rfl | (simp only [Aa,V.fz,fzL,V.up,upL,Ab,Ac,Ad,slr,List.cons_append,List.nil_append];done) | simp [Aa,V.fz,fzL,V.up,upL,Ab,Ac,Ad,slr]) ?_
 cases h;exact (by rfl)
end Go.Proofs.Ytmkgjnphianalaa.Ax
