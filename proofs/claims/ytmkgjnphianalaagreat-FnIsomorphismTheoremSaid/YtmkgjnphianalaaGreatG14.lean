/-
 What the functions compute, as functions on plain data, and that the program does compute it; written by program.
-/
import Derived.Test.YtmkgjnphianalaaGreatCode
import Derived.Test.YtmkgjnphianalaaGreatG1
import Derived.Test.YtmkgjnphianalaaGreatG2
import Derived.Test.YtmkgjnphianalaaGreatG3
import Derived.Test.YtmkgjnphianalaaGreatG5
import Derived.Test.YtmkgjnphianalaaGreatG7
import Derived.Test.YtmkgjnphianalaaGreatG8
import Derived.Test.YtmkgjnphianalaaGreatG9
import Derived.Test.YtmkgjnphianalaaGreatG10
import Derived.Test.YtmkgjnphianalaaGreatG11
import Derived.Test.YtmkgjnphianalaaGreatG12
import Derived.Test.YtmkgjnphianalaaGreatG13
namespace Go.Proofs.YtmkgjnphianalaaGreat.Ax
open Go
set_option maxRecDepth 100000
set_option maxHeartbeats 4000000
noncomputable def Gp (a0:SAlgebra) (_most0:Int) (x6:Int):(Int×(List (List Int)))->Option ((Int×(List (List Int))) ⊕ (List (List Int))):=λ(x7,x5')=>
 if x7<x6 then
 (G9 (a0) (x6) (x7)).bind λr3=>
 (Lw (x5') (r3)).bind λr4=>
 ask (InI (x7+(1:Int))) <|
 some (.inl (x7+(1:Int),r4))
 else
 some (.inr x5')
def Qe (a0:SAlgebra) (most0:Int) (x6:Int):(Int×(List (List Int)))->St:=λs=>[(7,A.val (Af s.1)),(5,A.val ((slr false 1 (slr false 1 Af)) s.2)),(6,A.val (Af (x6))),(2,A.val ((rP true (Ag false)) (a0))),(1,A.val (Af (most0)))]
def Y3 (a0:SAlgebra) (most0:Int) (x6:Int):(List (List Int))->Tgt
 | s=>((Ex.exit 2),[5,6,2,1],[(5,A.val ((slr false 1 (slr false 1 Af)) s)),(6,A.val (Af (x6))),(2,A.val ((rP true (Ag false)) (a0))),(1,A.val (Af (most0)))])
theorem Akp {a0:SAlgebra} {most0:Int} {x6:Int} (s:(Int×(List (List Int)))) (o:(Int×(List (List Int))) ⊕ (List (List Int))) (h:Gp a0 most0 x6 s=some o):vc Tryz.prog Yy (Cd [7,5,6,2,1] (Qe a0 most0 x6) (Y3 a0 most0 x6) o) (Qe a0 most0 x6 s):=by
 obtain ⟨x7,x5'⟩:=s;unfold Gp at h;try dsimp only at h
 refine Br.od h (λp2 h=> ?_) (λp2 h=> ?_)
 ·refine Cells.lit rfl rfl<|CallQ.o (slr false 1 Af) (by rfl) h (λr h=>Agx h) (λr3 h=> ?_)
  refine CallQ.o (slr false 1 (slr false 1 Af)) (by rfl) h (λr h=>Ai0 h) (λr4 h=> ?_);refine Ask.o h λp5 h=> ?_
  cases h;exact ⟨rfl,rfl⟩
 cases h;exact ⟨rfl,rfl⟩
noncomputable def Ik (a0:SAlgebra) (most0:Int):((List (List Int))×Int)->Option (((List (List Int))×Int) ⊕ (List (List Int))):=λ(x5,x6)=>
 if x6<a0.Size then
 (Ak (Gp a0 most0 x6) ((0:Int),x5)).bind λq6_5=>
 ask (InI (x6+(1:Int))) <|
 some (.inl (q6_5,x6+(1:Int)))
 else
 some (.inr x5)
def Q8 (a0:SAlgebra) (most0:Int):((List (List Int))×Int)->St:=λs=>[(5,A.val ((slr false 1 (slr false 1 Af)) s.1)),(6,A.val (Af s.2)),(2,A.val ((rP true (Ag false)) (a0))),(1,A.val (Af (most0)))]
def Y7 (a0:SAlgebra) (most0:Int):(List (List Int))->Tgt
 | s=>((Ex.exit 0),[5,2,1],[(5,A.val ((slr false 1 (slr false 1 Af)) s)),(2,A.val ((rP true (Ag false)) (a0))),(1,A.val (Af (most0)))])
theorem Ak4 {a0:SAlgebra} {most0:Int} (s:((List (List Int))×Int)) (o:((List (List Int))×Int) ⊕ (List (List Int))) (h:Ik a0 most0 s=some o):vc Tryz.prog Aas (Cd [5,6,2,1] (Q8 a0 most0) (Y7 a0 most0) o) (Q8 a0 most0 s):=by
 obtain ⟨x5,x6⟩:=s;unfold Ik at h;try dsimp only at h
 refine Cells.lit rfl rfl<|Br.od h (λp1 h=> ?_) (λp1 h=> ?_)
 ·refine LoopQ.o [7,5,6,2,1] (Qe a0 most0 x6) (Y3 a0 most0 x6) h (λs o h=>Akp s o h) (by rfl) (λ_=>rfl) ?_;rintro q6_5 h;try dsimp only at h
  refine Ask.o h λp7 h=> ?_
  cases h;exact ⟨rfl,rfl⟩
 cases h;exact ⟨rfl,rfl⟩
noncomputable def Gm (most0:Int) (q8_5:List (List Int)) (x10:Int):(Int×(List (List Int))×(List (List Int)))->Option ((Int×(List (List Int))×(List (List Int))) ⊕ ((List (List Int))×(List (List Int)))):=λ(x11,x9',x8')=>
 ((if x11<(↑q8_5.length:Int) then
 if (↑x8'.length:Int)<=most0 then
 some (.inl ())
 else
 some (.inr ())
 else
 some (.inr ()):Option (Unit ⊕ Unit))).bind λt=>match t with
 | (.inl _)=>(ask ((0:Int)<=x10/\x10<(↑x9'.length:Int)) <|
 ask ((0:Int)<=x11/\x11<(↑q8_5.length:Int)) <|
 (Mo (nth x9' x10.toNat) (nth q8_5 x11.toNat)).bind λr19=>
 (Lw (x8') (r19)).bind λr20=>
 if (↑r20.length:Int)>(↑x8'.length:Int) then
 ask ((x9').length+([r19]).length<=LIM) <|
 ask (InI (x11+(1:Int))) <|
 some (.inl (x11+(1:Int),x9'++[r19],r20))
 else
 ask (InI (x11+(1:Int))) <|
 some (.inl (x11+(1:Int),x9',x8')))
 | (.inr _)=>(some (.inr (x9',x8')))
def Q1 (most0:Int) (q8_5:List (List Int)) (x10:Int):(Int×(List (List Int))×(List (List Int)))->St:=λs=>[(11,A.val (Af s.1)),(9,A.val ((slr true 1 (slr false 1 Af)) s.2.1)),(8,A.val ((slr false 1 (slr false 1 Af)) s.2.2)),(10,A.val (Af (x10))),(5,A.val ((slr false 1 (slr false 1 Af)) (q8_5))),(1,A.val (Af (most0)))]
def Yz (most0:Int) (q8_5:List (List Int)) (x10:Int):((List (List Int))×(List (List Int)))->Tgt
 | s=>((Ex.exit 6),[9,8,10,5,1],[(9,A.val ((slr true 1 (slr false 1 Af)) s.1)),(8,A.val ((slr false 1 (slr false 1 Af)) s.2)),(10,A.val (Af (x10))),(5,A.val ((slr false 1 (slr false 1 Af)) (q8_5))),(1,A.val (Af (most0)))])
theorem Alm {most0:Int} {q8_5:List (List Int)} {x10:Int} (s:(Int×(List (List Int))×(List (List Int)))) (o:(Int×(List (List Int))×(List (List Int))) ⊕ ((List (List Int))×(List (List Int)))) (h:Gm most0 q8_5 x10 s=some o):vc Tryz.prog Zc (Cd [11,9,8,10,5,1] (Q1 most0 q8_5 x10) (Yz most0 q8_5 x10) o) (Q1 most0 q8_5 x10 s):=by
 obtain ⟨x11,x9',x8'⟩:=s;unfold Gm at h;try dsimp only at h
 refine CutQ.o (λt:(Unit ⊕ Unit)=>match t with | (.inl s)=>(Ex.normal,[11,9,8,10,5,1],[(11,A.val (Af (x11))),(9,A.val ((slr true 1 (slr false 1 Af)) (x9'))),(8,A.val ((slr false 1 (slr false 1 Af)) (x8'))),(10,A.val (Af (x10))),(5,A.val ((slr false 1 (slr false 1 Af)) (q8_5))),(1,A.val (Af (most0)))]) | (.inr s)=>((Ex.exit 6),[9,8,10,5,1],[(9,A.val ((slr true 1 (slr false 1 Af)) (x9'))),(8,A.val ((slr false 1 (slr false 1 Af)) (x8'))),(10,A.val (Af (x10))),(5,A.val ((slr false 1 (slr false 1 Af)) (q8_5))),(1,A.val (Af (most0)))])) h ?_ ?_
 ·intro t h;refine Len.map<|Br.od h (λp14 h=> ?_) (λp14 h=> ?_)
  ·refine Br.yes<|Len.map<|Br.yes<|Br.yes<|Br.yes<|Br.od h (λp15 h=> ?_) (λp15 h=> ?_)
   ·cases h;exact ⟨rfl,rfl⟩
   cases h;exact ⟨rfl,rfl⟩
  refine Br.no<|Br.no<|Br.no<|Br.no<|Br.no ?_
  cases h;exact ⟨rfl,rfl⟩
 rintro (⟨⟩ | ⟨⟩) h
 ·try dsimp only at h
  refine Len.map<|Ask.o h λp17 h=>Cells.one (λ_=>⟨rfl,rfl⟩) (by first | omega | (simp [Ap] at * <;> omega))<|Len.map<|Ask.o h λp18 h=>Elem.o (by first | omega | (simp [Ap] at * <;> omega))<|CallQ.o (slr true 1 Af) (by rfl) h (λr h=>Auc h) (λr19 h=> ?_)
  refine FrzQ.d (V.sl false (1:Nat) (List.map Af r19)) (by first | (simp only [slr];done) | (simp [Av,V.fz,Ab,slr];done) | (simp [Av,V.fz,fzL,Ab,slr];done))<|CallQ.o (slr false 1 (slr false 1 Af)) (by rfl) h (λr h=>Ai0 h) (λr20 h=> ?_)
  refine Len.map<|Len.map<|Br.od h (λp21 h=> ?_) (λp21 h=> ?_)
  ·refine BslQ.o (slr false 1 Af) [r19] (by exact λ_=>⟨rfl,rfl⟩) (by first | rfl | (simp only [Aa,V.fz,fzL,V.up,upL,Ab,Ac,Ad,slr,List.cons_append,List.nil_append];done) | simp [Aa,V.fz,fzL,V.up,upL,Ab,Ac,Ad,slr])<|NoOwn.o (λ_=>rfl)<|AppQ.o (m:=1) (slr false 1 Af) (by exact λ_=>⟨rfl,rfl⟩) (x9') ([r19]) (by rfl) (by rfl) h λh=>Ask.o h λp22 h=> ?_
   cases h;exact ⟨rfl,rfl⟩
  refine Ask.o h λp23 h=> ?_
  cases h;exact ⟨rfl,rfl⟩
 try dsimp only at h
 cases h;exact ⟨rfl,rfl⟩
noncomputable def Ip (most0:Int) (q8_5:List (List Int)):((List (List Int))×(List (List Int))×Int)->Option (((List (List Int))×(List (List Int))×Int) ⊕ (List (List Int))):=λ(x9,x8,x10)=>
 ((if x10<(↑x9.length:Int) then
 if (↑x8.length:Int)<=most0 then
 some (.inl ())
 else
 some (.inr ())
 else
 some (.inr ()):Option (Unit ⊕ Unit))).bind λt=>match t with
 | (.inl _)=>((Ak (Gm most0 q8_5 x10) ((0:Int),x9,x8)).bind λ(q24_9,q24_8)=>
 ask (InI (x10+(1:Int))) <|
 some (.inl (q24_9,q24_8,x10+(1:Int))))
 | (.inr _)=>(some (.inr x8))
def Qb (most0:Int) (q8_5:List (List Int)):((List (List Int))×(List (List Int))×Int)->St:=λs=>[(9,A.val ((slr true 1 (slr false 1 Af)) s.1)),(8,A.val ((slr false 1 (slr false 1 Af)) s.2.1)),(10,A.val (Af s.2.2)),(5,A.val ((slr false 1 (slr false 1 Af)) (q8_5))),(1,A.val (Af (most0)))]
def Yw (_most0:Int) (_q8_5:List (List Int)):(List (List Int))->Tgt
 | s=>((Ex.exit 4),[8],[(8,A.val ((slr false 1 (slr false 1 Af)) s))])
theorem Al2 {most0:Int} {q8_5:List (List Int)} (s:((List (List Int))×(List (List Int))×Int)) (o:((List (List Int))×(List (List Int))×Int) ⊕ (List (List Int))) (h:Ip most0 q8_5 s=some o):vc Tryz.prog Zi (Cd [9,8,10,5,1] (Qb most0 q8_5) (Yw most0 q8_5) o) (Qb most0 q8_5 s):=by
 obtain ⟨x9,x8,x10⟩:=s;unfold Ip at h;try dsimp only at h
 refine CutQ.o (λt:(Unit ⊕ Unit)=>match t with | (.inl s)=>(Ex.normal,[9,8,10,5,1],[(9,A.val ((slr true 1 (slr false 1 Af)) (x9))),(8,A.val ((slr false 1 (slr false 1 Af)) (x8))),(10,A.val (Af (x10))),(5,A.val ((slr false 1 (slr false 1 Af)) (q8_5))),(1,A.val (Af (most0)))]) | (.inr s)=>((Ex.exit 4),[8],[(8,A.val ((slr false 1 (slr false 1 Af)) (x8)))])) h ?_ ?_
 ·intro t h;refine Len.map<|Br.od h (λp11 h=> ?_) (λp11 h=> ?_)
  ·refine Br.yes<|Len.map<|Br.yes<|Br.yes<|Br.yes<|Br.od h (λp12 h=> ?_) (λp12 h=> ?_)
   ·cases h;exact ⟨rfl,rfl⟩
   cases h;exact ⟨rfl,rfl⟩
  refine Br.no<|Br.no<|Br.no<|Br.no<|Br.no ?_
  cases h;exact ⟨rfl,rfl⟩
 rintro (⟨⟩ | ⟨⟩) h
 ·try dsimp only at h
  refine LoopQ.o [11,9,8,10,5,1] (Q1 most0 q8_5 x10) (Yz most0 q8_5 x10) h (λs o h=>Alm s o h) (by rfl) (λ_=>rfl) ?_;rintro ⟨q24_9,q24_8⟩ h;try dsimp only at h
  refine Ask.o h λp25 h=> ?_
  cases h;exact ⟨rfl,rfl⟩
 try dsimp only at h
 cases h;exact ⟨rfl,rfl⟩
noncomputable def J3 (a0:SAlgebra) (most0:Int):Option (List (List Int)):=
 (Ak (Ik a0 most0) (Aw (List Int),(0:Int))).bind λq8_5=>
 (Dv (a0.Size)).bind λr9=>
 (Dv (a0.Size)).bind λr10=>
 (Ak (Ip most0 q8_5) ([r10],[r9],(0:Int))).bind λq26_8=>
 some q26_8
theorem At2 {a0:SAlgebra} {most0:Int} {v:(List (List Int))} (h:J3 a0 most0=some v):Ret Tryz.prog Yl [(Ag false) a0,Af most0] ((slr false 1 (slr false 1 Af)) v):=by
 refine A4 Ate (Nat.le_of_ble_eq_true rfl) ?_;unfold J3 at h;refine BslQ.o (slr true 1 Af) (Aw (List Int)) (by exact λ_=>⟨rfl,rfl⟩) (by first | rfl | (simp only [Aa,V.fz,fzL,V.up,upL,Ab,Ac,Ad,slr,List.cons_append,List.nil_append];done) | simp [Aa,V.fz,fzL,V.up,upL,Ab,Ac,Ad,slr])<|FrzQ.d (V.sl false (1:Nat) (List.map (slr false (1:Nat) Af) (Aw (List Int)))) (by first | (simp only [Av,Ac,slr];done) | (simp [Av,V.fz];done) | (simp [Av,V.fz,fzL];done))<|LoopQ.o [5,6,2,1] (Q8 a0 most0) (Y7 a0 most0) h (λs o h=>Ak4 s o h) (by rfl) (λ_=>rfl) ?_
 rintro q8_5 h;try dsimp only at h
 refine Cells.lit rfl rfl<|CallQ.o (slr true 1 Af) (by rfl) h (λr h=>Km h) (λr9 h=> ?_)
 refine BslQ.o (slr true 1 Af) [r9] (by exact λ_=>⟨rfl,rfl⟩) (by first | rfl | (simp only [Aa,V.fz,fzL,V.up,upL,Ab,Ac,Ad,slr,List.cons_append,List.nil_append];done) | simp [Aa,V.fz,fzL,V.up,upL,Ab,Ac,Ad,slr])<|Cells.lit rfl rfl<|CallQ.o (slr true 1 Af) (by rfl) h (λr h=>Km h) (λr10 h=> ?_)
 refine BslQ.o (slr true 1 Af) [r10] (by exact λ_=>⟨rfl,rfl⟩) (by first | rfl | (simp only [Aa,V.fz,fzL,V.up,upL,Ab,Ac,Ad,slr,List.cons_append,List.nil_append];done) | simp [Aa,V.fz,fzL,V.up,upL,Ab,Ac,Ad,slr])<|FrzQ.d (V.sl false (1:Nat) (List.map (slr false (1:Nat) Af) [r9])) (by first | (simp only [Av,Ac,slr];done) | (simp [Av,V.fz,slr];done) | (simp [Av,V.fz,fzL,Ab,slr];done))<|FrzQ.d (V.sl true (1:Nat) (List.map (slr false (1:Nat) Af) [r10])) (by first | (simp only [V.fzAt,Qs,Ab];done) | exact Eq.trans (b:=V.sl true (1:Nat) (List.map (slr false (1:Nat) Af) [r10])) rfl (by simp only [Ac]))<|LoopQ.o [9,8,10,5,1] (Qb most0 q8_5) (Yw most0 q8_5) h (λs o h=>Al2 s o h) (by rfl) (λ_=>rfl) ?_
 rintro q26_8 h;try dsimp only at h
 cases h;exact (by rfl)
noncomputable def Fs (a0:SAlgebra) (b0:SAlgebra):Option (Bool×Bool):=
 (Jt (a0) (b0)).bind λr1=>
 if (r1)=true then
 if a0.Size≠b0.Size then
 some (false,true)
 else
 (Ji (a0) (b0) (true) (())).bind λt=>match t with
 | (none,r4_2)=>(if (r4_2)=true then
 some (true != true,r4_2)
 else
 some (false,r4_2))
 | ((some r4_1),r4_2)=>(if (r4_2)=true then
 ask ((0:Int)<(↑r4_1.length:Int)) <|
 some (true,r4_2)
 else
 some (false,r4_2))
 else
 some (false,false)
theorem Adb {a0:SAlgebra} {b0:SAlgebra} {v:(Bool×Bool)} (h:Fs a0 b0=some v):Ret Tryz.prog Lt [(Ag false) a0,(Ag false) b0] ((λr=>V.tup [V.bool r.1,V.bool r.2]) v):=by
 refine A4 Adv (Nat.le_of_ble_eq_true rfl) ?_;unfold Fs at h;refine Cells.lit rfl rfl<|Cells.lit rfl rfl<|CallQ.o V.bool (by rfl) h (λr h=>An7 h) (λr1 h=> ?_)
 refine Br.flip<|Br.ob h (λp2 h=> ?_) (λp2 h=> ?_)
 ·refine Cells.lit rfl rfl<|Cells.lit rfl rfl<|Br.on h (λp3 h=> ?_) (λp3 h=> ?_)
  ·cases h;exact (by rfl)
  refine Cells.lit rfl rfl<|Cells.lit rfl rfl<|CallQ.o (λr=>V.tup [(rOl 1 Af) r.1,V.bool r.2]) (by rfl) h (λr h=>An0 h) (λr4 h=> ?_)
  rcases r4 with ⟨(_ | r4_1),r4_2⟩
  ·try dsimp only at h
   refine Br.ob h (λp5 h=> ?_) (λp5 h=> ?_)
   ·refine Br.yes<|Br.yes ?_
    cases h;exact (by rfl)
   refine Br.no<|Br.no ?_
   cases h;exact (by rfl)
  try dsimp only at h
  refine Br.ob h (λp6 h=> ?_) (λp6 h=> ?_)
  ·refine Br.yes<|Len.map<|Ask.o h λp7 h=>Br.yes ?_
   cases h;exact (by rfl)
  refine Br.no<|Br.no ?_
  cases h;exact (by rfl)
 cases h;exact (by rfl)
noncomputable def Dx (c0:Sl1Cur) (a0:SAlgebra):Option ((List Int)×Sl1Cur):=
 (((H5 (a0)).bind λr1=>
 if (r1)=true then
 (Gr (c0) ((5:Int))).bind λ(r3,u4)=>
 if (r3)=true then
 (Dc (u4) (a0.Size)).bind λ(r6,u7)=>
 some (.inl (r6,u7))
 else
 some (.inr u4)
 else
 (Dc (c0) (a0.Size)).bind λ(r8,u9)=>
 some (.inl (r8,u9)):Option (((List Int)×Sl1Cur) ⊕ Sl1Cur))).bind λt=>match t with
 | (.inl (q10_4,q10_27))=>(some (q10_4,q10_27))
 | (.inr q10_27)=>((J3 (a0) ((200:Int))).bind λr11=>
 (A9 (q10_27) ((↑r11.length:Int))).bind λ(r12,u13)=>
 ask ((0:Int)<=r12/\r12<(↑r11.length:Int)) <|
 (Em (nth r11 r12.toNat)).bind λr15=>
 some (r15,u13))
theorem Yd {c0:Sl1Cur} {a0:SAlgebra} {v:((List Int)×Sl1Cur)} (h:Dx c0 a0=some v):J7 Tryz.prog Ia [(rP true (Al false)) c0,(Ag false) a0] ((slr true 1 Af) v.1) 0 ((rP true (Al false)) v.2):=by
 refine Ij X7 (Nat.le_of_ble_eq_true rfl) ?_;unfold Dx at h;refine CutQ.o (λt:(((List Int)×Sl1Cur) ⊕ Sl1Cur)=>match t with | (.inl s)=>(Ex.ret,[4,27],[(4,A.val ((slr true 1 Af) s.1)),(27,A.val ((rP true (Al false)) s.2))]) | (.inr s)=>(Ex.normal,[3,0,27],[(3,A.val ((rP true (Ag false)) (a0))),(0,A.ref 27 []),(27,A.val ((rP true (Al false)) s))])) h ?_ ?_
 ·intro t h;refine Cells.lit rfl rfl<|CallQ.o V.bool (by rfl) h (λr h=>X3 h) (λr1 h=> ?_)
  refine Br.flip<|Br.ob h (λp2 h=> ?_) (λp2 h=> ?_)
  ·refine Br.no<|CallQ.io V.bool (rP true (Al false)) (by rfl) rfl (λ_=>rfl) (λ_=>⟨rfl,rfl⟩) rfl h (λr h=>Yq h) (λr3 u4 h=> ?_)
   refine Br.no<|Br.ob h (λp5 h=> ?_) (λp5 h=> ?_)
   ·refine Cells.lit rfl rfl<|CallQ.io (slr true 1 Af) (rP true (Al false)) (by rfl) rfl (λ_=>rfl) (λ_=>⟨rfl,rfl⟩) rfl h (λr h=>N5 h) (λr6 u7 h=> ?_)
    cases h;exact ⟨rfl,rfl⟩
   cases h;exact ⟨rfl,rfl⟩
  refine Br.yes<|Br.yes<|Br.yes<|Cells.lit rfl rfl<|CallQ.io (slr true 1 Af) (rP true (Al false)) (by rfl) rfl (λ_=>rfl) (λ_=>⟨rfl,rfl⟩) rfl h (λr h=>N5 h) (λr8 u9 h=> ?_)
  cases h;exact ⟨rfl,rfl⟩
 rintro (⟨q10_4,q10_27⟩ | q10_27) h
 ·try dsimp only at h
  cases h;exact ⟨(by rfl),(by rfl)⟩
 try dsimp only at h
 refine Cells.lit rfl rfl<|CallQ.o (slr false 1 (slr false 1 Af)) (by rfl) h (λr h=>At2 h) (λr11 h=> ?_)
 refine Len.map<|CallQ.io Af (rP true (Al false)) (by rfl) rfl (λ_=>rfl) (λ_=>⟨rfl,rfl⟩) rfl h (λr h=>Bd h) (λr12 u13 h=> ?_)
 refine Len.map<|Ask.o h λp14 h=>Elem.o (by first | omega | (simp [Ap] at * <;> omega))<|CallQ.o (slr true 1 Af) (by rfl) h (λr h=>Pp h) (λr15 h=> ?_)
 cases h;exact ⟨(by rfl),(by rfl)⟩
noncomputable def Cp (code0:(List Int)):Option (SAlgebra×(List Int)×(List Int)):=
 (Fo ({ code:=code0,at_:=(0:Int),seed:=(0:Int) })).bind λ(r1,u2)=>
 (Hw (u2) (r1)).bind λ(r3,u4)=>
 (Dx (u4) (r1)).bind λ(r5,_u6)=>
 some (r1,r3,r5)
theorem S0 {code0:(List Int)} {v:(SAlgebra×(List Int)×(List Int))} (h:Cp code0=some v):Ret Tryz.prog Fp [(slr false 1 (V.int IntKind.u8)) code0] ((λr=>V.tup [(Ag false) r.1,(slr false 1 Af) r.2.1,(slr false 1 Af) r.2.2]) v):=by
 refine Adw Ss (Nat.le_of_ble_eq_true rfl) ?_;unfold Cp at h;conv=>whnf
 refine CallQ.io (Ag true) (rP true (Al false)) (by rfl) rfl (λ_=>rfl) (λ_=>⟨rfl,rfl⟩) rfl h (λr h=>Aeg h) (λr1 u2 h=> ?_);conv=>whnf
 refine SetKids.lit rfl ?_;conv=>whnf
 refine FrzQ.d (V.ptr true (V.agg [V.int IntKind.i64 r1.Size,V.sl false (2:Nat) (List.map (Ay false) r1.Ops)])) (by first | (simp only [V.fzAt,Qs];done) | exact Eq.trans (b:=V.ptr true (V.agg [V.int IntKind.i64 r1.Size,(V.sl true (2:Nat) (List.map (Ay true) r1.Ops)).fz])) rfl (by simp only [Ac])) ?_;conv=>whnf
 refine Cells.lit rfl rfl ?_;conv=>whnf
 refine Cells.lit rfl rfl ?_;conv=>whnf
 refine Cells.lit rfl rfl ?_;conv=>whnf
 refine Cells.lit rfl rfl ?_;conv=>whnf
 refine SameQ.mk ⟨rfl,?_⟩;conv=>whnf
 refine SameQ.mk ⟨rfl,?_⟩;conv=>whnf
 refine Cells.lit rfl rfl ?_;conv=>whnf
 refine SameQ.mk ⟨rfl,?_⟩;conv=>whnf
 refine SameQ.mk ⟨rfl,?_⟩;conv=>whnf
 refine Cells.lit rfl rfl ?_;conv=>whnf
 refine SameQ.mk ⟨rfl,?_⟩;conv=>whnf
 refine CallQ.io (slr false 1 Af) (rP true (Al false)) (by rfl) rfl (λ_=>rfl) (λ_=>⟨rfl,rfl⟩) rfl h (λr h=>Aka h) (λr3 u4 h=> ?_);conv=>whnf
 refine Cells.lit rfl rfl ?_;conv=>whnf
 refine SameQ.mk ⟨rfl,?_⟩;conv=>whnf
 refine SameQ.mk ⟨rfl,?_⟩;conv=>whnf
 refine Cells.lit rfl rfl ?_;conv=>whnf
 refine SameQ.mk ⟨rfl,?_⟩;conv=>whnf
 refine CallQ.io (slr true 1 Af) (rP true (Al false)) (by rfl) rfl (λ_=>rfl) (λ_=>⟨rfl,rfl⟩) rfl h (λr h=>Yd h) (λr5 u6 h=> ?_);conv=>whnf
 refine Cells.lit rfl rfl ?_;conv=>whnf
 refine SameQ.mk ⟨rfl,?_⟩;conv=>whnf
 refine SetKids.lit rfl ?_;conv=>whnf
 cases h;exact (by first | rfl | simp only [Ah,V.fz,fzL,V.up,upL,Ab,slr] | simp [Ah,Aa,V.fz,fzL,V.up,upL,Ab,Ac,Ad,slr])
end Go.Proofs.YtmkgjnphianalaaGreat.Ax
