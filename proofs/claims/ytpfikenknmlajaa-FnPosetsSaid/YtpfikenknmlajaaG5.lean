/-
 What the functions compute, as functions on plain data, and that the program does compute it; written by program.
-/
import Derived.Test.YtpfikenknmlajaaCode
import Derived.Test.YtpfikenknmlajaaG1
import Derived.Test.YtpfikenknmlajaaG2
namespace Go.Proofs.Ytpfikenknmlajaa.Ax
open Go
set_option maxRecDepth 100000
set_option maxHeartbeats 4000000
noncomputable def Fx (a0:List (List Int)) (b0:List (List Int)):Int→Option (Int ⊕ (Unit ⊕ Unit)):=fun x5=>
 if x5<(↑a0.length:Int) then
 ask ((0:Int)≤x5∧x5<(↑a0.length:Int)) <|
 ask ((0:Int)≤x5∧x5<(↑b0.length:Int)) <|
 (Ic (nth a0 x5.toNat) (nth b0 x5.toNat)).bind fun r5=>
 if (r5)=true then
 ask (InI (x5+(1:Int))) <|
 some (.inl (x5+(1:Int)))
 else
 some (.inr (.inl ()))
 else
 some (.inr (.inr ()))
def Q4 (a0:List (List Int)) (b0:List (List Int)):Int→St:=fun s=>[(5,A.val (Af s)),(0,A.val ((slr false 1 (slr false 1 Af)) (a0))),(1,A.val ((slr false 1 (slr false 1 Af)) (b0)))]
def Y7 (_a0:List (List Int)) (_b0:List (List Int)):(Unit ⊕ Unit)→Tgt
 | (.inl _s)=>(Ex.ret,[4],[(4,A.val (V.bool (false)))])
 | (.inr _s)=>((Ex.exit 0),[],[])
theorem Akk {a0:List (List Int)} {b0:List (List Int)} (x5:Int) (o:Int ⊕ (Unit ⊕ Unit)) (h:Fx a0 b0 x5=some o):vc Try.prog Yz (Cc [5,0,1] (Q4 a0 b0) (Y7 a0 b0) o) (Q4 a0 b0 x5):=by
 unfold Fx at h
 try dsimp only at h
 refine Len.map<|Br.od h (fun p2 h=> ?_) (fun p2 h=> ?_)
 ·refine Len.map<|Ask.o h fun p3 h=>Elem.o (by first | omega | (simp [Ak] at * <;> omega))<|Len.map<|Ask.o h fun p4 h=>Elem.o (by first | omega | (simp [Ak] at * <;> omega))<|CallQ.o V.bool (by rfl) h (fun r h=>S8 h) (fun r5 h=> ?_)
  refine Br.flip<|Br.ob h (fun p6 h=> ?_) (fun p6 h=> ?_)
  ·refine Ask.o h fun p7 h=> ?_
   cases h;exact ⟨rfl,rfl⟩
  cases h;exact ⟨rfl,rfl⟩
 cases h;exact ⟨rfl,rfl⟩
noncomputable def G8 (a0:(List (List Int))) (b0:(List (List Int))):Option Bool:=
 if (↑a0.length:Int)≠(↑b0.length:Int) then
 some false
 else
 (Aj (Fx a0 b0) (0:Int)).bind fun t=>match t with
 | (.inl _)=>(some false)
 | (.inr _)=>(some true)
theorem Xl {a0:(List (List Int))} {b0:(List (List Int))} {v:Bool} (h:G8 a0 b0=some v):Ret Try.prog Mr [(slr false 1 (slr false 1 Af)) a0,(slr false 1 (slr false 1 Af)) b0] (V.bool v):=by
 refine A6 Ap7 (Nat.le_of_ble_eq_true rfl) ?_
 unfold G8 at h
 refine Len.map<|Len.map<|Br.on h (fun p1 h=> ?_) (fun p1 h=> ?_)
 ·cases h;exact (by rfl)
 refine LoopQ.o [5,0,1] (Q4 a0 b0) (Y7 a0 b0) h (fun s o h=>Akk s o h) (by rfl) (by rintro (_ | _)<;>rfl) ?_
 rintro (⟨⟩ | ⟨⟩) h
 ·try dsimp only at h
  cases h;exact (by rfl)
 try dsimp only at h
 cases h;exact (by rfl)
noncomputable def Ev (p0:SPoset) (x20:Int):(Int×(List (List Bool)))→Option ((Int×(List (List Bool))) ⊕ (List (List Bool))):=fun (x36,x5')=>
 if x36<(↑(nth p0.Below x20.toNat).length:Int) then
 ask ((0:Int)≤x36∧x36<(↑(nth p0.Below x20.toNat).length:Int)) <|
 ask ((0:Int)≤nth (nth p0.Below x20.toNat) x36.toNat∧nth (nth p0.Below x20.toNat) x36.toNat<(↑x5'.length:Int)) <|
 ask ((0:Int)≤x20∧x20<(↑(nth x5' (nth (nth p0.Below x20.toNat) x36.toNat).toNat).length:Int)) <|
 ask (InI (x36+(1:Int))) <|
 some (.inl (x36+(1:Int),x5'.set (nth (nth p0.Below x20.toNat) x36.toNat).toNat ((nth x5' (nth (nth p0.Below x20.toNat) x36.toNat).toNat).set x20.toNat true)))
 else
 some (.inr x5')
def P7 (p0:SPoset) (x20:Int):(Int×(List (List Bool)))→St:=fun s=>[(36,A.val (Af s.1)),(35,A.val (Af ((↑(nth p0.Below x20.toNat).length:Int)))),(34,A.val ((slr false 1 Af) (nth p0.Below x20.toNat))),(6,A.val (Af (x20))),(20,A.val (Af (x20))),(19,A.val (Af ((↑p0.Below.length:Int)))),(18,A.val ((slr false 1 (slr false 1 Af)) (p0.Below))),(5,A.val ((slr true 1 (slr true 1 V.bool)) s.2)),(4,A.val (Af ((↑p0.Below.length:Int))))]
def Vn (p0:SPoset) (x20:Int):(List (List Bool))→Tgt
 | s=>((Ex.exit 2),[20,19,18,5,4],[(20,A.val (Af (x20))),(19,A.val (Af ((↑p0.Below.length:Int)))),(18,A.val ((slr false 1 (slr false 1 Af)) (p0.Below))),(5,A.val ((slr true 1 (slr true 1 V.bool)) s)),(4,A.val (Af ((↑p0.Below.length:Int))))])
theorem Ahj {p0:SPoset} {x20:Int} (s:(Int×(List (List Bool)))) (o:(Int×(List (List Bool))) ⊕ (List (List Bool))) (h:Ev p0 x20 s=some o):vc Try.prog V6 (Cc [36,35,34,6,20,19,18,5,4] (P7 p0 x20) (Vn p0 x20) o) (P7 p0 x20 s):=by
 obtain ⟨x36,x5'⟩:=s
 unfold Ev at h
 try dsimp only at h
 refine Br.od h (fun p10 h=> ?_) (fun p10 h=> ?_)
 ·refine Len.map<|Ask.o h fun p11 h=>Elem.o (by first | omega | (simp [Ak] at * <;> omega))<|Len.map<|Ask.o h fun p12 h=>Cells.one (fun _=>⟨rfl,rfl⟩) (by first | omega | (simp [Ak] at * <;> omega))<|Kid.one (fun _=>⟨rfl,rfl⟩) (by first | omega | (simp [Ak] at * <;> omega))<|Len.map<|Ask.o h fun p13 h=>Kid.one (fun _=>⟨rfl,rfl⟩) (by first | omega | (simp [Ak] at * <;> omega))<|SetKids.one (fun _=>⟨rfl,rfl⟩) (true) (by rfl) (by first | omega | (simp [Ak] at * <;> omega))<|Kid.one (fun _=>⟨rfl,rfl⟩) (by first | omega | (simp [Ak] at * <;> omega))<|SetKids.one (fun _=>⟨rfl,rfl⟩) ((nth x5' (nth (nth p0.Below x20.toNat) x36.toNat).toNat).set x20.toNat true) (by rfl) (by first | omega | (simp [Ak] at * <;> omega))<|Ask.o h fun p14 h=> ?_
  cases h;exact ⟨rfl,rfl⟩
 cases h;exact ⟨rfl,rfl⟩
noncomputable def Ez (p0:SPoset):(Int×(List (List Bool)))→Option ((Int×(List (List Bool))) ⊕ (Unit ⊕ (List (List Bool)))):=fun (x20,x5)=>
 if x20<(↑p0.Below.length:Int) then
 ask ((0:Int)≤x20∧x20<(↑p0.Below.length:Int)) <|
 (((Nz (nth p0.Below x20.toNat)).bind fun r5=>
 if (r5)=true then
 (J7 (nth p0.Below x20.toNat) ((↑p0.Below.length:Int))).bind fun r7=>
 if (r7)=true then
 some (.inl ())
 else
 some (.inr ())
 else
 some (.inr ()):Option (Unit ⊕ Unit))).bind fun t=>match t with
 | (.inl _)=>((Aj (Ev p0 x20) ((0:Int),x5)).bind fun q15_5=>
 ask (InI (x20+(1:Int))) <|
 some (.inl (x20+(1:Int),q15_5)))
 | (.inr _)=>(some (.inr (.inl ())))
 else
 some (.inr (.inr x5))
def Oz (p0:SPoset):(Int×(List (List Bool)))→St:=fun s=>[(20,A.val (Af s.1)),(19,A.val (Af ((↑p0.Below.length:Int)))),(18,A.val ((slr false 1 (slr false 1 Af)) (p0.Below))),(5,A.val ((slr true 1 (slr true 1 V.bool)) s.2)),(4,A.val (Af ((↑p0.Below.length:Int))))]
def Ws (_p0:SPoset):(Unit ⊕ (List (List Bool)))→Tgt
 | (.inl _s)=>(Ex.ret,[3,2],[(3,A.val (V.bool (false))),(2,A.val ((slr true 1 (slr true 1 V.bool)) (Ar (List Bool))))])
 | (.inr s)=>((Ex.exit 0),[5],[(5,A.val ((slr true 1 (slr true 1 V.bool)) s))])
theorem Ah9 {p0:SPoset} (s:(Int×(List (List Bool)))) (o:(Int×(List (List Bool))) ⊕ (Unit ⊕ (List (List Bool)))) (h:Ez p0 s=some o):vc Try.prog Wn (Cc [20,19,18,5,4] (Oz p0) (Ws p0) o) (Oz p0 s):=by
 obtain ⟨x20,x5⟩:=s
 unfold Ez at h
 try dsimp only at h
 refine Br.od h (fun p3 h=> ?_) (fun p3 h=> ?_)
 ·refine Len.map<|Ask.o h fun p4 h=>Elem.o (by first | omega | (simp [Ak] at * <;> omega))<|CutQ.o (fun t:(Unit ⊕ Unit)=>match t with | (.inl s)=>(Ex.normal,[7,6,20,19,18,5,4],[(7,A.val ((slr false 1 Af) (nth p0.Below x20.toNat))),(6,A.val (Af (x20))),(20,A.val (Af (x20))),(19,A.val (Af ((↑p0.Below.length:Int)))),(18,A.val ((slr false 1 (slr false 1 Af)) (p0.Below))),(5,A.val ((slr true 1 (slr true 1 V.bool)) (x5))),(4,A.val (Af ((↑p0.Below.length:Int))))]) | (.inr s)=>(Ex.ret,[3,2],[(3,A.val (V.bool (false))),(2,A.val ((slr true 1 (slr true 1 V.bool)) (Ar (List Bool))))])) h ?_ ?_
  ·intro t h
   refine CallQ.o V.bool (by rfl) h (fun r h=>As8 h) (fun r5 h=> ?_)
   refine Br.flip<|Br.ob h (fun p6 h=> ?_) (fun p6 h=> ?_)
   ·refine Br.no<|Br.no<|CallQ.o V.bool (by rfl) h (fun r h=>Aen h) (fun r7 h=> ?_)
    refine Br.no<|Br.no<|Br.flip<|Br.ob h (fun p8 h=> ?_) (fun p8 h=> ?_)
    ·cases h;exact ⟨rfl,rfl⟩
    cases h;exact ⟨rfl,rfl⟩
   refine Br.yes<|Br.yes<|Br.yes<|Br.yes<|Br.yes ?_
   cases h;exact ⟨rfl,rfl⟩
  rintro (⟨⟩ | ⟨⟩) h
  ·try dsimp only at h
   refine Len.map<|LoopQ.o [36,35,34,6,20,19,18,5,4] (P7 p0 x20) (Vn p0 x20) h (fun s o h=>Ahj s o h) (by rfl) (fun _=>rfl) ?_
   rintro q15_5 h
   try dsimp only at h
   refine Ask.o h fun p16 h=> ?_
   cases h;exact ⟨rfl,rfl⟩
  try dsimp only at h
  cases h;exact ⟨rfl,rfl⟩
 cases h;exact ⟨rfl,rfl⟩
noncomputable def Bj (p0:SPoset):Option ((List (List Bool))×Bool):=
 if (↑p0.Below.length:Int)>(10:Int) then
 some (Ar (List Bool),false)
 else
 (Gw ((↑p0.Below.length:Int))).bind fun r2=>
 (Aj (Ez p0) ((0:Int),r2)).bind fun t=>match t with
 | (.inl _)=>(some (Ar (List Bool),false))
 | (.inr q17_5)=>((El (q17_5)).bind fun r18=>
 some (q17_5,r18))
theorem Dk {p0:SPoset} {v:((List (List Bool))×Bool)} (h:Bj p0=some v):Ret Try.prog Co [(Ag false) p0] ((fun r=>V.tup [(slr true 1 (slr true 1 V.bool)) r.1,V.bool r.2]) v):=by
 refine A6 Aoe (Nat.le_of_ble_eq_true rfl) ?_
 unfold Bj at h
 refine Cells.lit rfl rfl<|Len.map<|Br.od h (fun p1 h=> ?_) (fun p1 h=> ?_)
 ·cases h;exact (by rfl)
 refine CallQ.o (slr true 1 (slr true 1 V.bool)) (by rfl) h (fun r h=>So h) (fun r2 h=> ?_)
 refine Cells.lit rfl rfl<|Len.map<|LoopQ.o [20,19,18,5,4] (Oz p0) (Ws p0) h (fun s o h=>Ah9 s o h) (by rfl) (by rintro (_ | _)<;>rfl) ?_
 rintro (⟨⟩ | q17_5) h
 ·try dsimp only at h
  cases h;exact (by rfl)
 try dsimp only at h
 refine CallQ.rd V.bool (by first | rfl | simp only [V.fz,Ab,slr] | simp [Aa,V.fz,fzL,V.up,upL,Ab,Ac,Ad,slr]) (fun _=>rfl) h (fun r h=>Rz h) (fun r18 h=> ?_)
 cases h;exact (by rfl)
noncomputable def F4 (o0:(List (List Bool))) (list0:(List Int)):Option Bool:=
 (J7 (list0) ((↑o0.length:Int))).bind fun r1=>
 some r1
theorem X0 {o0:(List (List Bool))} {list0:(List Int)} {v:Bool} (h:F4 o0 list0=some v):Ret Try.prog Lv [(slr false 1 (slr false 1 V.bool)) o0,(slr false 1 Af) list0] (V.bool v):=by
 refine A6 Ajj (Nat.le_of_ble_eq_true rfl) ?_
 unfold F4 at h
 refine Len.map<|CallQ.o V.bool (by rfl) h (fun r h=>Aen h) (fun r1 h=> ?_)
 cases h;exact (by rfl)
noncomputable def Cs (o0:List (List Bool)) (down0:Bool) (x15:Int):(Int×Bool×(List Int))→Option ((Int×Bool×(List Int)) ⊕ (Bool×(List Int))):=fun (x20,x6'',x5'')=>
 if x20<(↑o0.length:Int) then
 ((if (down0)=true then
 if (down0)=true then
 (Au (o0) (x20) (x15)).bind fun r7=>
 if (r7)=true then
 ask ((0:Int)≤x15∧x15<(↑x5''.length:Int)) <|
 ask ((0:Int)≤x20∧x20<(↑x5''.length:Int)) <|
 some (decide (nth x5'' x15.toNat≤nth x5'' x20.toNat))
 else
 some false
 else
 some false
 else
 (Au (o0) (x15) (x20)).bind fun r11=>
 if (r11)=true then
 ask ((0:Int)≤x15∧x15<(↑x5''.length:Int)) <|
 ask ((0:Int)≤x20∧x20<(↑x5''.length:Int)) <|
 some (decide (nth x5'' x15.toNat≤nth x5'' x20.toNat))
 else
 if (down0)=true then
 (Au (o0) (x20) (x15)).bind fun r16=>
 if (r16)=true then
 ask ((0:Int)≤x15∧x15<(↑x5''.length:Int)) <|
 ask ((0:Int)≤x20∧x20<(↑x5''.length:Int)) <|
 some (decide (nth x5'' x15.toNat≤nth x5'' x20.toNat))
 else
 some false
 else
 some false:Option Bool)).bind fun q20_50=>
 if (q20_50)=true then
 ask ((0:Int)≤x20∧x20<(↑x5''.length:Int)) <|
 ask (InI (nth x5'' x20.toNat+(1:Int))) <|
 ask ((0:Int)≤x15∧x15<(↑x5''.length:Int)) <|
 ask (InI (x20+(1:Int))) <|
 some (.inl (x20+(1:Int),true,x5''.set x15.toNat (nth x5'' x20.toNat+(1:Int))))
 else
 ask (InI (x20+(1:Int))) <|
 some (.inl (x20+(1:Int),x6'',x5''))
 else
 some (.inr (x6'',x5''))
def Is (o0:List (List Bool)) (down0:Bool) (x15:Int):(Int×Bool×(List Int))→St:=fun s=>[(20,A.val (Af s.1)),(19,A.val (Af ((↑o0.length:Int)))),(7,A.val (Af (x15))),(15,A.val (Af (x15))),(14,A.val (Af ((↑o0.length:Int)))),(6,A.val (V.bool s.2.1)),(5,A.val ((slr true 1 Af) s.2.2)),(0,A.val ((slr false 1 (slr false 1 V.bool)) (o0))),(1,A.val (V.bool (down0)))]
def Ng (o0:List (List Bool)) (down0:Bool) (x15:Int):(Bool×(List Int))→Tgt
 | s=>((Ex.exit 4),[15,14,6,5,0,1],[(15,A.val (Af (x15))),(14,A.val (Af ((↑o0.length:Int)))),(6,A.val (V.bool s.1)),(5,A.val ((slr true 1 Af) s.2)),(0,A.val ((slr false 1 (slr false 1 V.bool)) (o0))),(1,A.val (V.bool (down0)))])
theorem Yp {o0:List (List Bool)} {down0:Bool} {x15:Int} (s:(Int×Bool×(List Int))) (o:(Int×Bool×(List Int)) ⊕ (Bool×(List Int))) (h:Cs o0 down0 x15 s=some o):vc Try.prog Nv (Cc [20,19,7,15,14,6,5,0,1] (Is o0 down0 x15) (Ng o0 down0 x15) o) (Is o0 down0 x15 s):=by
 obtain ⟨x20,x6'',x5''⟩:=s
 unfold Cs at h
 try dsimp only at h
 refine Br.od h (fun p4 h=> ?_) (fun p4 h=> ?_)
 ·refine CutQ.o (fun t:Bool=>match t with | s=>(Ex.normal,[50,8,20,19,7,15,14,6,5,0,1],[(50,A.val (V.bool s)),(8,A.val (Af (x20))),(20,A.val (Af (x20))),(19,A.val (Af ((↑o0.length:Int)))),(7,A.val (Af (x15))),(15,A.val (Af (x15))),(14,A.val (Af ((↑o0.length:Int)))),(6,A.val (V.bool (x6''))),(5,A.val ((slr true 1 Af) (x5''))),(0,A.val ((slr false 1 (slr false 1 V.bool)) (o0))),(1,A.val (V.bool (down0)))])) h ?_ ?_
  ·intro t h
   refine Br.flip<|Br.ob h (fun p5 h=> ?_) (fun p5 h=> ?_)
   ·refine Br.no<|Br.no<|Br.no<|Br.no<|Br.no<|Br.no<|Br.ob h (fun p6 h=> ?_) (fun p6 h=> ?_)
    ·refine Br.yes<|Br.yes<|Br.yes<|CallP.o V.bool (by rfl) h (fun r h=>Bo h) (fun r7 h=> ?_)
     refine Br.no<|Br.yes<|Br.no<|Br.ob h (fun p8 h=> ?_) (fun p8 h=> ?_)
     ·refine Br.yes<|Br.yes<|Len.map<|Ask.o h fun p9 h=>Br.yes<|Cells.one (fun _=>⟨rfl,rfl⟩) (by first | omega | (simp [Ak] at * <;> omega))<|Br.yes<|Br.yes<|Br.yes<|Len.map<|Ask.o h fun p10 h=>Br.yes<|Cells.one (fun _=>⟨rfl,rfl⟩) (by first | omega | (simp [Ak] at * <;> omega))<|Br.yes<|Br.yes ?_
      cases h;exact ⟨rfl,rfl⟩
     refine Br.no<|Br.no<|Br.no<|Br.no<|Br.no<|Br.no<|Br.no<|Br.no<|Br.no ?_
     cases h;exact ⟨rfl,rfl⟩
    refine Br.no<|Br.no<|Br.no<|Br.no<|Br.no<|Br.no<|Br.no<|Br.no<|Br.no<|Br.no<|Br.no<|Br.no<|Br.no<|Br.no<|Br.no<|Br.no ?_
    cases h;exact ⟨rfl,rfl⟩
   refine Br.yes<|Br.yes<|Br.yes<|CallP.o V.bool (by rfl) h (fun r h=>Bo h) (fun r11 h=> ?_)
   refine Br.yes<|Br.ob h (fun p12 h=> ?_) (fun p12 h=> ?_)
   ·refine Br.yes<|Br.yes<|Br.yes<|Br.yes<|Br.yes<|Br.yes<|Len.map<|Ask.o h fun p13 h=>Br.yes<|Cells.one (fun _=>⟨rfl,rfl⟩) (by first | omega | (simp [Ak] at * <;> omega))<|Br.yes<|Br.yes<|Br.yes<|Len.map<|Ask.o h fun p14 h=>Br.yes<|Cells.one (fun _=>⟨rfl,rfl⟩) (by first | omega | (simp [Ak] at * <;> omega))<|Br.yes<|Br.yes ?_
    cases h;exact ⟨rfl,rfl⟩
   refine Br.no<|Br.ob h (fun p15 h=> ?_) (fun p15 h=> ?_)
   ·refine Br.yes<|Br.yes<|Br.yes<|CallP.o V.bool (by rfl) h (fun r h=>Bo h) (fun r16 h=> ?_)
    refine Br.no<|Br.yes<|Br.no<|Br.ob h (fun p17 h=> ?_) (fun p17 h=> ?_)
    ·refine Br.yes<|Br.yes<|Len.map<|Ask.o h fun p18 h=>Br.yes<|Cells.one (fun _=>⟨rfl,rfl⟩) (by first | omega | (simp [Ak] at * <;> omega))<|Br.yes<|Br.yes<|Br.yes<|Len.map<|Ask.o h fun p19 h=>Br.yes<|Cells.one (fun _=>⟨rfl,rfl⟩) (by first | omega | (simp [Ak] at * <;> omega))<|Br.yes<|Br.yes ?_
     cases h;exact ⟨rfl,rfl⟩
    refine Br.no<|Br.no<|Br.no<|Br.no<|Br.no<|Br.no<|Br.no<|Br.no<|Br.no ?_
    cases h;exact ⟨rfl,rfl⟩
   refine Br.no<|Br.no<|Br.no<|Br.no<|Br.no<|Br.no<|Br.no<|Br.no<|Br.no<|Br.no<|Br.no<|Br.no<|Br.no<|Br.no<|Br.no<|Br.no ?_
   cases h;exact ⟨rfl,rfl⟩
  rintro q20_50 h
  try dsimp only at h
  refine Br.ob h (fun p21 h=> ?_) (fun p21 h=> ?_)
  ·refine Len.map<|Ask.o h fun p22 h=>Cells.one (fun _=>⟨rfl,rfl⟩) (by first | omega | (simp [Ak] at * <;> omega))<|Ask.o h fun p23 h=>Len.map<|Ask.o h fun p24 h=>SetKids.one (fun _=>⟨rfl,rfl⟩) (nth x5'' x20.toNat+(1:Int)) (by rfl) (by first | omega | (simp [Ak] at * <;> omega))<|Ask.o h fun p25 h=> ?_
   cases h;exact ⟨rfl,rfl⟩
  refine Ask.o h fun p26 h=> ?_
  cases h;exact ⟨rfl,rfl⟩
 cases h;exact ⟨rfl,rfl⟩
noncomputable def Cn (o0:List (List Bool)) (down0:Bool):(Int×Bool×(List Int))→Option ((Int×Bool×(List Int)) ⊕ (Bool×(List Int))):=fun (x15,x6',x5')=>
 if x15<(↑o0.length:Int) then
 (Aj (Cs o0 down0 x15) ((0:Int),x6',x5')).bind fun (q27_6,q27_5)=>
 ask (InI (x15+(1:Int))) <|
 some (.inl (x15+(1:Int),q27_6,q27_5))
 else
 some (.inr (x6',x5'))
def I5 (o0:List (List Bool)) (down0:Bool):(Int×Bool×(List Int))→St:=fun s=>[(15,A.val (Af s.1)),(14,A.val (Af ((↑o0.length:Int)))),(6,A.val (V.bool s.2.1)),(5,A.val ((slr true 1 Af) s.2.2)),(0,A.val ((slr false 1 (slr false 1 V.bool)) (o0))),(1,A.val (V.bool (down0)))]
def Nm (o0:List (List Bool)) (down0:Bool):(Bool×(List Int))→Tgt
 | s=>((Ex.exit 2),[6,5,0,1],[(6,A.val (V.bool s.1)),(5,A.val ((slr true 1 Af) s.2)),(0,A.val ((slr false 1 (slr false 1 V.bool)) (o0))),(1,A.val (V.bool (down0)))])
theorem Y6 {o0:List (List Bool)} {down0:Bool} (s:(Int×Bool×(List Int))) (o:(Int×Bool×(List Int)) ⊕ (Bool×(List Int))) (h:Cn o0 down0 s=some o):vc Try.prog Nr (Cc [15,14,6,5,0,1] (I5 o0 down0) (Nm o0 down0) o) (I5 o0 down0 s):=by
 obtain ⟨x15,x6',x5'⟩:=s
 unfold Cn at h
 try dsimp only at h
 refine Br.od h (fun p3 h=> ?_) (fun p3 h=> ?_)
 ·refine Len.map<|LoopQ.o [20,19,7,15,14,6,5,0,1] (Is o0 down0 x15) (Ng o0 down0 x15) h (fun s o h=>Yp s o h) (by rfl) (fun _=>rfl) ?_
  rintro ⟨q27_6,q27_5⟩ h
  try dsimp only at h
  refine Ask.o h fun p28 h=> ?_
  cases h;exact ⟨rfl,rfl⟩
 cases h;exact ⟨rfl,rfl⟩
noncomputable def Df (o0:List (List Bool)) (down0:Bool):(Bool×(List Int))→Option ((Bool×(List Int)) ⊕ (List Int)):=fun (x6,x5)=>
 if (x6)=true then
 (Aj (Cn o0 down0) ((0:Int),false,x5)).bind fun (q29_6,q29_5)=>
 some (.inl (q29_6,q29_5))
 else
 some (.inr x5)
def Iv (o0:List (List Bool)) (down0:Bool):(Bool×(List Int))→St:=fun s=>[(6,A.val (V.bool s.1)),(5,A.val ((slr true 1 Af) s.2)),(0,A.val ((slr false 1 (slr false 1 V.bool)) (o0))),(1,A.val (V.bool (down0)))]
def Nn (_o0:List (List Bool)) (_down0:Bool):(List Int)→Tgt
 | s=>((Ex.exit 0),[5],[(5,A.val ((slr true 1 Af) s))])
theorem Yj {o0:List (List Bool)} {down0:Bool} (s:(Bool×(List Int))) (o:(Bool×(List Int)) ⊕ (List Int)) (h:Df o0 down0 s=some o):vc Try.prog Nt (Cc [6,5,0,1] (Iv o0 down0) (Nn o0 down0) o) (Iv o0 down0 s):=by
 obtain ⟨x6,x5⟩:=s
 unfold Df at h
 try dsimp only at h
 refine Br.ob h (fun p2 h=> ?_) (fun p2 h=> ?_)
 ·refine Len.map<|LoopQ.o [15,14,6,5,0,1] (I5 o0 down0) (Nm o0 down0) h (fun s o h=>Y6 s o h) (by rfl) (fun _=>rfl) ?_
  rintro ⟨q29_6,q29_5⟩ h
  try dsimp only at h
  cases h;exact ⟨rfl,rfl⟩
 cases h;exact ⟨rfl,rfl⟩
noncomputable def En (o0:(List (List Bool))) (down0:Bool):Option (List Int):=
 ask ((0:Int)≤(↑o0.length:Int)∧(↑o0.length:Int)≤(↑LIM:Int)) <|
 (Aj (Df o0 down0) (true,List.replicate (↑o0.length:Int).toNat (0:Int))).bind fun q30_5=>
 some q30_5
theorem R1 {o0:(List (List Bool))} {down0:Bool} {v:(List Int)} (h:En o0 down0=some v):Ret Try.prog Ib [(slr false 1 (slr false 1 V.bool)) o0,V.bool down0] ((slr true 1 Af) v):=by
 refine A6 Ab3 (Nat.le_of_ble_eq_true rfl) ?_
 unfold En at h
 refine Len.map<|Ask.o h fun p1 h=>MkQ.o Af ((0:Int)) rfl<|LoopQ.o [6,5,0,1] (Iv o0 down0) (Nn o0 down0) h (fun s o h=>Yj s o h) (by rfl) (fun _=>rfl) ?_
 rintro q30_5 h
 try dsimp only at h
 cases h;exact (by rfl)
noncomputable def C8 (self:SPoset→Int→Option Int) (p0:SPoset) (x0:Int):(Int×Int)→Option ((Int×Int) ⊕ Int):=fun (x6,x5)=>
 ask ((0:Int)≤x0∧x0<(↑p0.Below.length:Int)) <|
 if x6<(↑(nth p0.Below x0.toNat).length:Int) then
 ask ((0:Int)≤x0∧x0<(↑p0.Below.length:Int)) <|
 ask ((0:Int)≤x6∧x6<(↑(nth p0.Below x0.toNat).length:Int)) <|
 if nth (nth p0.Below x0.toNat) x6.toNat≠x0 then
 (self (p0) (nth (nth p0.Below x0.toNat) x6.toNat)).bind fun r6=>
 ask (InI (r6+(1:Int))) <|
 (J5 (x5) (r6+(1:Int))).bind fun r8=>
 ask (InI (x6+(1:Int))) <|
 some (.inl (x6+(1:Int),r8))
 else
 ask (InI (x6+(1:Int))) <|
 some (.inl (x6+(1:Int),x5))
 else
 some (.inr x5)
def Mf (p0:SPoset) (x0:Int):(Int×Int)→St:=fun s=>[(6,A.val (Af s.1)),(5,A.val (Af s.2)),(2,A.val ((rP true (Ag false)) (p0))),(1,A.val (Af (x0)))]
def S3 (_p0:SPoset) (_x0:Int):Int→Tgt
 | s=>((Ex.exit 0),[5],[(5,A.val (Af s))])
theorem Adi {self:SPoset→Int→Option Int} {p0:SPoset} {x0:Int} (hself : ∀ {w_0 w_1 v},self w_0 w_1=some v→Ret Try.prog Dx [(Ag false) w_0,Af w_1] (Af v)) (s:(Int×Int)) (o:(Int×Int) ⊕ Int) (h:C8 self p0 x0 s=some o):vc Try.prog S0 (Cc [6,5,2,1] (Mf p0 x0) (S3 p0 x0) o) (Mf p0 x0 s):=by
 obtain ⟨x6,x5⟩:=s
 unfold C8 at h
 try dsimp only at h
 refine Cells.lit rfl rfl<|Len.map<|Ask.o h fun p1 h=>Elem.o (by first | omega | (simp [Ak] at * <;> omega))<|Len.map<|Br.od h (fun p2 h=> ?_) (fun p2 h=> ?_)
 ·refine Cells.lit rfl rfl<|Len.map<|Ask.o h fun p3 h=>Elem.o (by first | omega | (simp [Ak] at * <;> omega))<|Len.map<|Ask.o h fun p4 h=>Elem.o (by first | omega | (simp [Ak] at * <;> omega))<|Br.on h (fun p5 h=> ?_) (fun p5 h=> ?_)
  ·refine Cells.lit rfl rfl<|CallQ.o Af (by rfl) h (fun r h=>hself h) (fun r6 h=> ?_)
   refine Ask.o h fun p7 h=>CallQ.o Af (by rfl) h (fun r h=>Aev h) (fun r8 h=> ?_)
   refine Ask.o h fun p9 h=> ?_
   cases h;exact ⟨rfl,rfl⟩
  refine Ask.o h fun p10 h=> ?_
  cases h;exact ⟨rfl,rfl⟩
 cases h;exact ⟨rfl,rfl⟩
noncomputable def Di (self:SPoset→Int→Option Int) (p0:SPoset) (x0:Int):Option Int:=
 (Aj (C8 self p0 x0) ((0:Int),(0:Int))).bind fun q11_5=>
 some q11_5
noncomputable def Ce:Nat→SPoset→Int→Option Int
 | 0=>fun _ _=>none
 | n+1=>Di (Ce n)
theorem Af8 {self:SPoset→Int→Option Int} (hself : ∀ {w_0 w_1 v},self w_0 w_1=some v→Ret Try.prog Dx [(Ag false) w_0,Af w_1] (Af v)) {p0:SPoset} {x0:Int} {v:Int} (h:Di self p0 x0=some v):Ret Try.prog Dx [(Ag false) p0,Af x0] (Af v):=by
 refine A6 Ajn (Nat.le_of_ble_eq_true rfl) ?_
 unfold Di at h
 refine LoopQ.o [6,5,2,1] (Mf p0 x0) (S3 p0 x0) h (fun s o h=>Adi hself s o h) (by rfl) (fun _=>rfl) ?_
 rintro q11_5 h
 try dsimp only at h
 cases h;exact (by rfl)
theorem Uy : ∀(n:Nat) {p0:SPoset} {x0:Int} {v:Int},Ce n p0 x0=some v→Ret Try.prog Dx [(Ag false) p0,Af x0] (Af v)
 | 0,_,_,_,h=>by cases h
 | n+1,_,_,_,h=>Af8 (fun h=>Uy n h) h
theorem Yu {p0:SPoset} {x0:Int} {v:Int} (h:(Afn fun n=>Ce n p0 x0)=some v):Ret Try.prog Dx [(Ag false) p0,Af x0] (Af v):=by
 obtain ⟨n,hn⟩:=Aj4 h
 exact Uy n hn
end Go.Proofs.Ytpfikenknmlajaa.Ax
