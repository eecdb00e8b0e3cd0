/-
 What the functions compute, as functions on plain data, and that the program does compute it; written by program.
-/
import Derived.Test.YtjcekpmojnnmbaaGreatCode
import Derived.Test.YtjcekpmojnnmbaaGreatG2
import Derived.Test.YtjcekpmojnnmbaaGreatG3
import Derived.Test.YtjcekpmojnnmbaaGreatG5
import Derived.Test.YtjcekpmojnnmbaaGreatG6
import Derived.Test.YtjcekpmojnnmbaaGreatG7
namespace Go.Proofs.YtjcekpmojnnmbaaGreat.Ax
open Go
set_option maxRecDepth 100000
set_option maxHeartbeats 4000000
noncomputable def C9 (a0:SAlgebra):Int→Option (Int ⊕ (Unit ⊕ Unit)):=fun x22=>
 if x22<(↑a0.Ops.length:Int) then
 ask ((0:Int)≤x22∧x22<(↑a0.Ops.length:Int)) <|
 (N6 (nth a0.Ops x22.toNat) (a0.Size)).bind fun r7=>
 if (r7)=true then
 ask (InI (x22+(1:Int))) <|
 some (.inl (x22+(1:Int)))
 else
 some (.inr (.inl ()))
 else
 some (.inr (.inr ()))
def Jo (a0:SAlgebra):Int→St:=fun s=>[(22,A.val (Af s)),(21,A.val (Af ((↑a0.Ops.length:Int)))),(20,A.val ((slr false 2 (Bh false)) (a0.Ops))),(1,A.val ((rP true (Ai false)) (a0)))]
def Pa (_a0:SAlgebra):(Unit ⊕ Unit)→Tgt
 | (.inl _s)=>(Ex.ret,[2],[(2,A.val (V.bool (false)))])
 | (.inr _s)=>((Ex.exit 0),[],[])
theorem Zy {a0:SAlgebra} (x22:Int) (o:Int ⊕ (Unit ⊕ Unit)) (h:C9 a0 x22=some o):vc Tryz.prog O9 (Dl [22,21,20,1] (Jo a0) (Pa a0) o) (Jo a0 x22):=by
 unfold C9 at h
 try dsimp only at h
 refine Br.od h (fun p5 h=> ?_) (fun p5 h=> ?_)
 ·refine Len.map<|Ask.o h fun p6 h=>Elem.o (by first | omega | (simp [Ap] at * <;> omega))<|SetKids.lit rfl<|Cells.lit rfl rfl<|Cells.lit rfl rfl<|CallQ.o V.bool (by rfl) h (fun r h=>Asj h) (fun r7 h=> ?_)
  refine Br.flip<|Br.ob h (fun p8 h=> ?_) (fun p8 h=> ?_)
  ·refine Ask.o h fun p9 h=> ?_
   cases h;exact ⟨rfl,rfl⟩
  cases h;exact ⟨rfl,rfl⟩
 cases h;exact ⟨rfl,rfl⟩
noncomputable def Hj (a0:SAlgebra):Option Bool:=
 ((if a0.Size<(1:Int) then
 some (.inl ())
 else
 if a0.Size>(8:Int) then
 some (.inl ())
 else
 if (↑a0.Ops.length:Int)>(4:Int) then
 some (.inl ())
 else
 some (.inr ()):Option (Unit ⊕ Unit))).bind fun t=>match t with
 | (.inl _)=>(some false)
 | (.inr _)=>((Al (C9 a0) (0:Int)).bind fun t=>match t with
 | (.inl _)=>(some false)
 | (.inr _)=>(some true))
theorem Aey {a0:SAlgebra} {v:Bool} (h:Hj a0=some v):Ret Tryz.prog M9 [(Ai false) a0] (V.bool v):=by
 refine A5 Afq (Nat.le_of_ble_eq_true rfl) ?_
 unfold Hj at h
 refine CutQ.o (fun t:(Unit ⊕ Unit)=>match t with | (.inl s)=>(Ex.ret,[2],[(2,A.val (V.bool (false)))]) | (.inr s)=>(Ex.normal,[1],[(1,A.val ((rP true (Ai false)) (a0)))])) h ?_ ?_
 ·intro t h
  refine Cells.lit rfl rfl<|Br.od h (fun p1 h=> ?_) (fun p1 h=> ?_)
  ·refine Br.yes<|Br.yes<|Br.yes<|Br.yes<|Br.yes<|Br.yes<|Br.yes<|Br.yes<|Br.yes ?_
   cases h;exact ⟨rfl,rfl⟩
  refine Br.no<|Cells.lit rfl rfl<|Br.no<|Br.no<|Br.od h (fun p2 h=> ?_) (fun p2 h=> ?_)
  ·refine Br.yes<|Br.yes<|Br.yes<|Br.yes<|Br.yes ?_
   cases h;exact ⟨rfl,rfl⟩
  refine Br.no<|Cells.lit rfl rfl<|Br.no<|Len.map<|Br.no<|Br.no<|Br.od h (fun p3 h=> ?_) (fun p3 h=> ?_)
  ·cases h;exact ⟨rfl,rfl⟩
  cases h;exact ⟨rfl,rfl⟩
 rintro (⟨⟩ | ⟨⟩) h
 ·try dsimp only at h
  cases h;exact (by rfl)
 try dsimp only at h
 refine Cells.lit rfl rfl<|Len.map<|LoopQ.o [22,21,20,1] (Jo a0) (Pa a0) h (fun s o h=>Zy s o h) (by rfl) (by rintro (_ | _)<;>rfl) ?_
 rintro (⟨⟩ | ⟨⟩) h
 ·try dsimp only at h
  cases h;exact (by rfl)
 try dsimp only at h
 cases h;exact (by rfl)
noncomputable def En (a0:SAlgebra):Int→Option (Int ⊕ (Unit ⊕ Unit)):=fun x3=>
 if x3<(↑a0.Ops.length:Int) then
 ask ((0:Int)≤x3∧x3<(↑a0.Ops.length:Int)) <|
 (N9 (a0.Size) (nth a0.Ops x3.toNat)).bind fun r7=>
 if (r7)=true then
 ask (InI (x3+(1:Int))) <|
 some (.inl (x3+(1:Int)))
 else
 some (.inr (.inl ()))
 else
 some (.inr (.inr ()))
def Mx (a0:SAlgebra):Int→St:=fun s=>[(3,A.val (Af s)),(1,A.val ((rP true (Ai false)) (a0)))]
def Ud (_a0:SAlgebra):(Unit ⊕ Unit)→Tgt
 | (.inl _s)=>(Ex.ret,[2],[(2,A.val (V.bool (false)))])
 | (.inr _s)=>((Ex.exit 0),[],[])
theorem Aet {a0:SAlgebra} (x3:Int) (o:Int ⊕ (Unit ⊕ Unit)) (h:En a0 x3=some o):vc Tryz.prog Vc (Dl [3,1] (Mx a0) (Ud a0) o) (Mx a0 x3):=by
 unfold En at h
 try dsimp only at h
 refine Cells.lit rfl rfl<|Len.map<|Br.od h (fun p5 h=> ?_) (fun p5 h=> ?_)
 ·refine Cells.lit rfl rfl<|Cells.lit rfl rfl<|Len.map<|Ask.o h fun p6 h=>Elem.o (by first | omega | (simp [Ap] at * <;> omega))<|CallQ.o V.bool (by rfl) h (fun r h=>Asl h) (fun r7 h=> ?_)
  refine Br.flip<|Br.ob h (fun p8 h=> ?_) (fun p8 h=> ?_)
  ·refine Ask.o h fun p9 h=> ?_
   cases h;exact ⟨rfl,rfl⟩
  cases h;exact ⟨rfl,rfl⟩
 cases h;exact ⟨rfl,rfl⟩
noncomputable def Js (a0:SAlgebra):Option Bool:=
 (((In (a0.Size) ((1:Int)) ((8:Int))).bind fun r1=>
 if (r1)=true then
 if (↑a0.Ops.length:Int)>(4:Int) then
 some (.inl ())
 else
 some (.inr ())
 else
 some (.inl ()):Option (Unit ⊕ Unit))).bind fun t=>match t with
 | (.inl _)=>(some false)
 | (.inr _)=>((Al (En a0) (0:Int)).bind fun t=>match t with
 | (.inl _)=>(some false)
 | (.inr _)=>(some true))
theorem Amj {a0:SAlgebra} {v:Bool} (h:Js a0=some v):Ret Tryz.prog Ts [(Ai false) a0] (V.bool v):=by
 refine A5 Ale (Nat.le_of_ble_eq_true rfl) ?_
 unfold Js at h
 refine CutQ.o (fun t:(Unit ⊕ Unit)=>match t with | (.inl s)=>(Ex.ret,[2],[(2,A.val (V.bool (false)))]) | (.inr s)=>(Ex.normal,[1],[(1,A.val ((rP true (Ai false)) (a0)))])) h ?_ ?_
 ·intro t h
  refine Cells.lit rfl rfl<|CallQ.o V.bool (by rfl) h (fun r h=>Yh h) (fun r1 h=> ?_)
  refine Br.flip<|Br.ob h (fun p2 h=> ?_) (fun p2 h=> ?_)
  ·refine Br.no<|Cells.lit rfl rfl<|Br.no<|Len.map<|Br.no<|Br.no<|Br.od h (fun p3 h=> ?_) (fun p3 h=> ?_)
   ·cases h;exact ⟨rfl,rfl⟩
   cases h;exact ⟨rfl,rfl⟩
  refine Br.yes<|Br.yes<|Br.yes<|Br.yes<|Br.yes ?_
  cases h;exact ⟨rfl,rfl⟩
 rintro (⟨⟩ | ⟨⟩) h
 ·try dsimp only at h
  cases h;exact (by rfl)
 try dsimp only at h
 refine LoopQ.o [3,1] (Mx a0) (Ud a0) h (fun s o h=>Aet s o h) (by rfl) (by rintro (_ | _)<;>rfl) ?_
 rintro (⟨⟩ | ⟨⟩) h
 ·try dsimp only at h
  cases h;exact (by rfl)
 try dsimp only at h
 cases h;exact (by rfl)
noncomputable def Hc (c0:Sl1Cur) (n0:Int):Option (Bool×Sl1Cur):=
 (B0 (c0) (n0)).bind fun (r1,u2)=>
 some (r1==(0:Int),u2)
theorem Afj {c0:Sl1Cur} {n0:Int} {v:(Bool×Sl1Cur)} (h:Hc c0 n0=some v):Zi Tryz.prog M1 [(rP true (Au false)) c0,Af n0] (V.bool v.1) 0 ((rP true (Au false)) v.2):=by
 refine Wc Ae2 (Nat.le_of_ble_eq_true rfl) ?_
 unfold Hc at h
 refine CallQ.io Af (rP true (Au false)) (by rfl) rfl (fun _=>rfl) (fun _=>⟨rfl,rfl⟩) rfl h (fun r h=>Cv h) (fun r1 u2 h=> ?_)
 cases h;exact ⟨(by rfl),(by rfl)⟩
noncomputable def C5 (_a0:SAlgebra) (pairs0:List (Int×Int)):(Int×(List Int))→Option ((Int×(List Int)) ⊕ (List Int)):=fun (x13,x5)=>
 if x13<(↑pairs0.length:Int) then
 ask ((0:Int)≤x13∧x13<(↑pairs0.length:Int)) <|
 (Ht (x5) ((nth pairs0 x13.toNat).fst) ((nth pairs0 x13.toNat).snd)).bind fun (_r4,u5)=>
 ask (InI (x13+(1:Int))) <|
 some (.inl (x13+(1:Int),u5))
 else
 some (.inr x5)
def Hp (a0:SAlgebra) (pairs0:List (Int×Int)):(Int×(List Int))→St:=fun s=>[(13,A.val (Af s.1)),(12,A.val (Af ((↑pairs0.length:Int)))),(11,A.val ((slr false 2 (rA2 Af)) (pairs0))),(5,A.val ((slr true 1 Af) s.2)),(2,A.val ((rP true (Ai false)) (a0)))]
def Ly (a0:SAlgebra) (_pairs0:List (Int×Int)):(List Int)→Tgt
 | s=>((Ex.exit 0),[5,2],[(5,A.val ((slr true 1 Af) s)),(2,A.val ((rP true (Ai false)) (a0)))])
theorem Vn {a0:SAlgebra} {pairs0:List (Int×Int)} (s:(Int×(List Int))) (o:(Int×(List Int)) ⊕ (List Int)) (h:C5 a0 pairs0 s=some o):vc Tryz.prog L0 (Dl [13,12,11,5,2] (Hp a0 pairs0) (Ly a0 pairs0) o) (Hp a0 pairs0 s):=by
 obtain ⟨x13,x5⟩:=s
 unfold C5 at h
 try dsimp only at h
 refine Br.od h (fun p2 h=> ?_) (fun p2 h=> ?_)
 ·refine Len.map<|Ask.o h fun p3 h=>Elem.o (by first | omega | (simp [Ap] at * <;> omega))<|SetKids.lit rfl<|Ask.mk (by decide)<|Idx.lit<|Cells.lit rfl rfl<|Ask.mk (by decide)<|Idx.lit<|Cells.lit rfl rfl<|CallQ.io V.bool (slr true 1 Af) (by rfl) rfl (fun _=>rfl) (fun _=>⟨rfl,rfl⟩) rfl h (fun r h=>V5 h) (fun r4 u5 h=> ?_)
  refine Ask.o h fun p6 h=> ?_
  cases h;exact ⟨rfl,rfl⟩
 cases h;exact ⟨rfl,rfl⟩
noncomputable def Fo (a0:SAlgebra) (pairs0:(List (Int×Int))):Option (List Int):=
 (Fb (a0.Size)).bind fun r1=>
 (Al (C5 a0 pairs0) ((0:Int),r1)).bind fun q7_5=>
 (Ee (a0) (q7_5)).bind fun (_r8,u9)=>
 some u9
theorem Zm {a0:SAlgebra} {pairs0:(List (Int×Int))} {v:(List Int)} (h:Fo a0 pairs0=some v):Ret Tryz.prog Jq [(Ai false) a0,(slr false 2 (rA2 Af)) pairs0] ((slr true 1 Af) v):=by
 refine A5 Zg (Nat.le_of_ble_eq_true rfl) ?_
 unfold Fo at h
 refine Cells.lit rfl rfl<|CallQ.o (slr true 1 Af) (by rfl) h (fun r h=>Sl h) (fun r1 h=> ?_)
 refine Len.map<|LoopQ.o [13,12,11,5,2] (Hp a0 pairs0) (Ly a0 pairs0) h (fun s o h=>Vn s o h) (by rfl) (fun _=>rfl) ?_
 rintro q7_5 h
 try dsimp only at h
 refine Cells.lit rfl rfl<|CallQ.io V.bool (slr true 1 Af) (by rfl) rfl (fun _=>rfl) (fun _=>⟨rfl,rfl⟩) rfl h (fun r h=>Xe h) (fun r8 u9 h=> ?_)
 cases h;exact (by rfl)
noncomputable def Fx (q0:List Int):(Int×(List Int))→Option ((Int×(List Int)) ⊕ (List Int)):=fun (x6,x5)=>
 if x6<(↑q0.length:Int) then
 ask ((0:Int)≤x6∧x6<(↑q0.length:Int)) <|
 (F5 (x5) (x6) (nth q0 x6.toNat)).bind fun r4=>
 ask (InI (x6+(1:Int))) <|
 some (.inl (x6+(1:Int),r4))
 else
 some (.inr x5)
def M5 (q0:List Int):(Int×(List Int))→St:=fun s=>[(6,A.val (Af s.1)),(5,A.val ((slr true 1 Af) s.2)),(1,A.val ((slr false 1 Af) (q0)))]
def Uq (_q0:List Int):(List Int)→Tgt
 | s=>((Ex.exit 0),[5],[(5,A.val ((slr true 1 Af) s))])
theorem Aeq {q0:List Int} (s:(Int×(List Int))) (o:(Int×(List Int)) ⊕ (List Int)) (h:Fx q0 s=some o):vc Tryz.prog T7 (Dl [6,5,1] (M5 q0) (Uq q0) o) (M5 q0 s):=by
 obtain ⟨x6,x5⟩:=s
 unfold Fx at h
 try dsimp only at h
 refine Len.map<|Br.od h (fun p2 h=> ?_) (fun p2 h=> ?_)
 ·refine Len.map<|Ask.o h fun p3 h=>Elem.o (by first | omega | (simp [Ap] at * <;> omega))<|CallQ.rd (slr true 1 Af) (by first | rfl | simp only [V.fz,V.up,Ab,Ad,slr] | simp [Aa,V.fz,fzL,V.up,upL,Ab,Ac,Ad,slr]) (fun _=>by simp [V.noFz,Bo]) h (fun r h=>Q2 h) (fun r4 h=> ?_)
  refine Ask.o h fun p5 h=> ?_
  cases h;exact ⟨rfl,rfl⟩
 cases h;exact ⟨rfl,rfl⟩
noncomputable def Ka (p0:(List Int)) (q0:(List Int)):Option (List Int):=
 (Hw (p0)).bind fun r1=>
 (Al (Fx q0) ((0:Int),r1)).bind fun q6_5=>
 some q6_5
theorem Alt {p0:(List Int)} {q0:(List Int)} {v:(List Int)} (h:Ka p0 q0=some v):Ret Tryz.prog Tl [(slr false 1 Af) p0,(slr false 1 Af) q0] ((slr true 1 Af) v):=by
 refine A5 Alc (Nat.le_of_ble_eq_true rfl) ?_
 unfold Ka at h
 refine CallQ.o (slr true 1 Af) (by rfl) h (fun r h=>Vx h) (fun r1 h=> ?_)
 refine LoopQ.o [6,5,1] (M5 q0) (Uq q0) h (fun s o h=>Aeq s o h) (by rfl) (fun _=>rfl) ?_
 rintro q6_5 h
 try dsimp only at h
 cases h;exact (by rfl)
noncomputable def Ck (a0:SAlgebra) (p0:List Int) (x6:Int) (x7:Int) (r6:List Int):(Int×(List Int))→Option ((Int×(List Int)) ⊕ (List Int)):=fun (x9,x5'')=>
 if x9<(↑r6.length:Int) then
 (Hw (r6)).bind fun r8=>
 ask ((0:Int)≤x9∧x9<(↑r6.length:Int)) <|
 ask ((0:Int)≤nth r6 x9.toNat∧nth r6 x9.toNat<(↑p0.length:Int)) <|
 ask ((0:Int)≤x9∧x9<(↑r8.length:Int)) <|
 ask ((0:Int)≤x6∧x6<(↑a0.Ops.length:Int)) <|
 ask ((0:Int)≤x7∧x7<(↑(nth a0.Ops x6.toNat).Table.length:Int)) <|
 (It (a0) (x6) (r8.set x9.toNat (nth p0 (nth r6 x9.toNat).toNat))).bind fun r14=>
 (F5 (x5'') (nth (nth a0.Ops x6.toNat).Table x7.toNat) (r14)).bind fun r15=>
 ask (InI (x9+(1:Int))) <|
 some (.inl (x9+(1:Int),r15))
 else
 some (.inr x5'')
def M8 (a0:SAlgebra) (p0:List Int) (x6:Int) (x7:Int) (r6:List Int):(Int×(List Int))→St:=fun s=>[(9,A.val (Af s.1)),(8,A.val ((slr true 1 Af) (r6))),(7,A.val (Af (x7))),(6,A.val (Af (x6))),(5,A.val ((slr true 1 Af) s.2)),(2,A.val ((rP true (Ai false)) (a0))),(1,A.val ((slr false 1 Af) (p0)))]
def U0 (a0:SAlgebra) (p0:List Int) (x6:Int) (x7:Int) (_r6:List Int):(List Int)→Tgt
 | s=>((Ex.exit 4),[7,6,5,2,1],[(7,A.val (Af (x7))),(6,A.val (Af (x6))),(5,A.val ((slr true 1 Af) s)),(2,A.val ((rP true (Ai false)) (a0))),(1,A.val ((slr false 1 Af) (p0)))])
theorem Afr {a0:SAlgebra} {p0:List Int} {x6:Int} {x7:Int} {r6:List Int} (s:(Int×(List Int))) (o:(Int×(List Int)) ⊕ (List Int)) (h:Ck a0 p0 x6 x7 r6 s=some o):vc Tryz.prog T0 (Dl [9,8,7,6,5,2,1] (M8 a0 p0 x6 x7 r6) (U0 a0 p0 x6 x7 r6) o) (M8 a0 p0 x6 x7 r6 s):=by
 obtain ⟨x9,x5''⟩:=s
 unfold Ck at h
 try dsimp only at h
 refine Len.map<|Br.od h (fun p7 h=> ?_) (fun p7 h=> ?_)
 ·refine CallQ.rd (slr true 1 Af) (by first | rfl | simp only [V.fz,Ab,slr] | simp [Aa,V.fz,fzL,V.up,upL,Ab,Ac,Ad,slr]) (fun _=>by simp [V.noFz,Bo]) h (fun r h=>Vx h) (fun r8 h=> ?_)
  refine Len.map<|Ask.o h fun p9 h=>Cells.one (fun _=>⟨rfl,rfl⟩) (by first | omega | (simp [Ap] at * <;> omega))<|Len.map<|Ask.o h fun p10 h=>Elem.o (by first | omega | (simp [Ap] at * <;> omega))<|Len.map<|Ask.o h fun p11 h=>SetKids.one (fun _=>⟨rfl,rfl⟩) (nth p0 (nth r6 x9.toNat).toNat) (by rfl) (by first | omega | (simp [Ap] at * <;> omega))<|Cells.lit rfl rfl<|Len.map<|Ask.o h fun p12 h=>Elem.o (by first | omega | (simp [Ap] at * <;> omega))<|Len.map<|Ask.o h fun p13 h=>Elem.o (by first | omega | (simp [Ap] at * <;> omega))<|Cells.lit rfl rfl<|CallP.rd Af (by first | rfl | simp only [Aa,V.fz,fzL,V.up,Ab,Ad,slr] | simp [Aa,V.fz,fzL,V.up,upL,Ab,Ac,Ad,slr]) (fun _=>rfl) h (fun r h=>Ajj h) (fun r14 h=> ?_)
  refine CallQ.rd (slr true 1 Af) (by first | rfl | simp only [V.fz,Ab,slr] | simp [Aa,V.fz,fzL,V.up,upL,Ab,Ac,Ad,slr]) (fun _=>by simp [V.noFz,Bo]) h (fun r h=>Q2 h) (fun r15 h=> ?_)
  refine Ask.o h fun p16 h=> ?_
  cases h;exact ⟨rfl,rfl⟩
 cases h;exact ⟨rfl,rfl⟩
noncomputable def Cn (a0:SAlgebra) (p0:List Int) (x6:Int):(Int×(List Int))→Option ((Int×(List Int)) ⊕ (List Int)):=fun (x7,x5')=>
 ask ((0:Int)≤x6∧x6<(↑a0.Ops.length:Int)) <|
 if x7<(↑(nth a0.Ops x6.toNat).Table.length:Int) then
 ask ((0:Int)≤x6∧x6<(↑a0.Ops.length:Int)) <|
 (Ju (a0.Size) ((nth a0.Ops x6.toNat).Arity) (x7)).bind fun r6=>
 (Al (Ck a0 p0 x6 x7 r6) ((0:Int),x5')).bind fun q17_5=>
 ask (InI (x7+(1:Int))) <|
 some (.inl (x7+(1:Int),q17_5))
 else
 some (.inr x5')
def Mo (a0:SAlgebra) (p0:List Int) (x6:Int):(Int×(List Int))→St:=fun s=>[(7,A.val (Af s.1)),(6,A.val (Af (x6))),(5,A.val ((slr true 1 Af) s.2)),(2,A.val ((rP true (Ai false)) (a0))),(1,A.val ((slr false 1 Af) (p0)))]
def U4 (a0:SAlgebra) (p0:List Int) (x6:Int):(List Int)→Tgt
 | s=>((Ex.exit 2),[6,5,2,1],[(6,A.val (Af (x6))),(5,A.val ((slr true 1 Af) s)),(2,A.val ((rP true (Ai false)) (a0))),(1,A.val ((slr false 1 Af) (p0)))])
theorem Aeg {a0:SAlgebra} {p0:List Int} {x6:Int} (s:(Int×(List Int))) (o:(Int×(List Int)) ⊕ (List Int)) (h:Cn a0 p0 x6 s=some o):vc Tryz.prog Ut (Dl [7,6,5,2,1] (Mo a0 p0 x6) (U4 a0 p0 x6) o) (Mo a0 p0 x6 s):=by
 obtain ⟨x7,x5'⟩:=s
 unfold Cn at h
 try dsimp only at h
 refine Cells.lit rfl rfl<|Len.map<|Ask.o h fun p3 h=>Elem.o (by first | omega | (simp [Ap] at * <;> omega))<|Len.map<|Br.od h (fun p4 h=> ?_) (fun p4 h=> ?_)
 ·refine Cells.lit rfl rfl<|Cells.lit rfl rfl<|Len.map<|Ask.o h fun p5 h=>Elem.o (by first | omega | (simp [Ap] at * <;> omega))<|CallQ.o (slr true 1 Af) (by rfl) h (fun r h=>Ald h) (fun r6 h=> ?_)
  refine LoopQ.o [9,8,7,6,5,2,1] (M8 a0 p0 x6 x7 r6) (U0 a0 p0 x6 x7 r6) h (fun s o h=>Afr s o h) (by rfl) (fun _=>rfl) ?_
  rintro q17_5 h
  try dsimp only at h
  refine Ask.o h fun p18 h=> ?_
  cases h;exact ⟨rfl,rfl⟩
 cases h;exact ⟨rfl,rfl⟩
noncomputable def C4 (a0:SAlgebra) (p0:List Int):(Int×(List Int))→Option ((Int×(List Int)) ⊕ (List Int)):=fun (x6,x5)=>
 if x6<(↑a0.Ops.length:Int) then
 (Al (Cn a0 p0 x6) ((0:Int),x5)).bind fun q19_5=>
 ask (InI (x6+(1:Int))) <|
 some (.inl (x6+(1:Int),q19_5))
 else
 some (.inr x5)
def M4 (a0:SAlgebra) (p0:List Int):(Int×(List Int))→St:=fun s=>[(6,A.val (Af s.1)),(5,A.val ((slr true 1 Af) s.2)),(2,A.val ((rP true (Ai false)) (a0))),(1,A.val ((slr false 1 Af) (p0)))]
def Ul (_a0:SAlgebra) (_p0:List Int):(List Int)→Tgt
 | s=>((Ex.exit 0),[5],[(5,A.val ((slr true 1 Af) s))])
theorem Ae4 {a0:SAlgebra} {p0:List Int} (s:(Int×(List Int))) (o:(Int×(List Int)) ⊕ (List Int)) (h:C4 a0 p0 s=some o):vc Tryz.prog U5 (Dl [6,5,2,1] (M4 a0 p0) (Ul a0 p0) o) (M4 a0 p0 s):=by
 obtain ⟨x6,x5⟩:=s
 unfold C4 at h
 try dsimp only at h
 refine Cells.lit rfl rfl<|Len.map<|Br.od h (fun p2 h=> ?_) (fun p2 h=> ?_)
 ·refine LoopQ.o [7,6,5,2,1] (Mo a0 p0 x6) (U4 a0 p0 x6) h (fun s o h=>Aeg s o h) (by rfl) (fun _=>rfl) ?_
  rintro q19_5 h
  try dsimp only at h
  refine Ask.o h fun p20 h=> ?_
  cases h;exact ⟨rfl,rfl⟩
 cases h;exact ⟨rfl,rfl⟩
noncomputable def Ev (a0:SAlgebra) (p0:(List Int)):Option (List Int):=
 (Hw (p0)).bind fun r1=>
 (Al (C4 a0 p0) ((0:Int),r1)).bind fun q21_5=>
 some q21_5
theorem Ak9 {a0:SAlgebra} {p0:(List Int)} {v:(List Int)} (h:Ev a0 p0=some v):Ret Tryz.prog Tu [(Ai false) a0,(slr false 1 Af) p0] ((slr true 1 Af) v):=by
 refine A5 Amf (Nat.le_of_ble_eq_true rfl) ?_
 unfold Ev at h
 refine CallQ.o (slr true 1 Af) (by rfl) h (fun r h=>Vx h) (fun r1 h=> ?_)
 refine LoopQ.o [6,5,2,1] (M4 a0 p0) (Ul a0 p0) h (fun s o h=>Ae4 s o h) (by rfl) (fun _=>rfl) ?_
 rintro q21_5 h
 try dsimp only at h
 cases h;exact (by rfl)
end Go.Proofs.YtjcekpmojnnmbaaGreat.Ax
