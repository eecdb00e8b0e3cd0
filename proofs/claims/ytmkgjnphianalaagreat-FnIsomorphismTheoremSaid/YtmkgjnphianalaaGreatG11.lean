/-
 What the functions compute, as functions on plain data, and that the program does compute it; written by program.
-/
import Derived.Test.YtmkgjnphianalaaGreatCode
import Derived.Test.YtmkgjnphianalaaGreatG1
import Derived.Test.YtmkgjnphianalaaGreatG2
import Derived.Test.YtmkgjnphianalaaGreatG3
import Derived.Test.YtmkgjnphianalaaGreatG5
import Derived.Test.YtmkgjnphianalaaGreatG6
import Derived.Test.YtmkgjnphianalaaGreatG7
import Derived.Test.YtmkgjnphianalaaGreatG8
import Derived.Test.YtmkgjnphianalaaGreatG9
namespace Go.Proofs.YtmkgjnphianalaaGreat.Ax
open Go
set_option maxRecDepth 100000
set_option maxHeartbeats 4000000
noncomputable def Dn (a0:SAlgebra) (p0:(List Int)):Option Bool:=
 (C0 (a0)).bind λr1=>
 if (r1)=true then
 (Gd (a0) (p0)).bind λr3=>
 some r3
 else
 some false
theorem I3 {a0:SAlgebra} {p0:(List Int)} {v:Bool} (h:Dn a0 p0=some v):Ret Tryz.prog Ff [(Ag false) a0,(slr false 1 Af) p0] (V.bool v):=by
 refine A4 Ahf (Nat.le_of_ble_eq_true rfl) ?_;unfold Dn at h;refine Cells.lit rfl rfl<|CallQ.o V.bool (by rfl) h (λr h=>Gn h) (λr1 h=> ?_)
 refine Br.ob h (λp2 h=> ?_) (λp2 h=> ?_)
 ·refine Cells.lit rfl rfl<|Br.yes<|Br.yes<|CallQ.o V.bool (by rfl) h (λr h=>Ae0 h) (λr3 h=> ?_)
  refine Br.yes ?_;cases h;exact (by rfl)
 refine Br.no<|Br.no<|Br.no ?_
 cases h;exact (by rfl)
noncomputable def Hq (a0:SAlgebra) (sub0:(List Int)):Option Bool:=
 (J0 (sub0) (a0.Size)).bind λr1=>
 if (r1)=true then
 (Of (sub0)).bind λr3=>
 if (r3)=true then
 (Jj (a0) (sub0)).bind λr5=>
 some ((↑r5.length:Int)==(↑sub0.length:Int))
 else
 some false
 else
 some false
theorem Ui {a0:SAlgebra} {sub0:(List Int)} {v:Bool} (h:Hq a0 sub0=some v):Ret Tryz.prog Lz [(Ag false) a0,(slr false 1 Af) sub0] (V.bool v):=by
 refine A4 Av2 (Nat.le_of_ble_eq_true rfl) ?_;unfold Hq at h;refine Cells.lit rfl rfl<|CallQ.o V.bool (by rfl) h (λr h=>Afb h) (λr1 h=> ?_)
 refine Br.ob h (λp2 h=> ?_) (λp2 h=> ?_)
 ·refine Br.yes<|CallQ.o V.bool (by rfl) h (λr h=>Ayi h) (λr3 h=> ?_)
  refine Br.yes<|Br.ob h (λp4 h=> ?_) (λp4 h=> ?_)
  ·refine Cells.lit rfl rfl<|Br.yes<|Br.yes<|CallQ.o (slr true 1 Af) (by rfl) h (λr h=>Anx h) (λr5 h=> ?_)
   refine Br.yes<|Len.map<|Br.yes<|Br.yes<|Len.map<|Br.yes<|Br.yes ?_
   cases h;exact (by rfl)
  refine Br.no<|Br.no<|Br.no<|Br.no<|Br.no<|Br.no<|Br.no ?_
  cases h;exact (by rfl)
 refine Br.no<|Br.no<|Br.no<|Br.no<|Br.no<|Br.no<|Br.no<|Br.no<|Br.no<|Br.no ?_
 cases h;exact (by rfl)
noncomputable def I2 (a0:SAlgebra) (sub0:(List Int)):Option Bool:=
 ask (InI (a0.Size-(1:Int))) <|
 (Jv (sub0) ((0:Int)) (a0.Size-(1:Int))).bind λr2=>
 if (r2)=true then
 (Ln (a0) (sub0)).bind λr4=>
 (Ib (r4) (sub0)).bind λr5=>
 some r5
 else
 some false
theorem Xu {a0:SAlgebra} {sub0:(List Int)} {v:Bool} (h:I2 a0 sub0=some v):Ret Tryz.prog N4 [(Ag false) a0,(slr false 1 Af) sub0] (V.bool v):=by
 refine A4 A1y (Nat.le_of_ble_eq_true rfl) ?_;unfold I2 at h;refine Cells.lit rfl rfl<|Ask.o h λp1 h=>CallQ.o V.bool (by rfl) h (λr h=>Ang h) (λr2 h=> ?_)
 refine Br.ob h (λp3 h=> ?_) (λp3 h=> ?_)
 ·refine Cells.lit rfl rfl<|Br.yes<|Br.yes<|CallQ.o (slr true 1 Af) (by rfl) h (λr h=>Arc h) (λr4 h=> ?_)
  refine Br.yes<|Br.yes<|CallQ.rd V.bool (by first | rfl | simp only [V.fz,V.up,Ab,slr] | simp [Aa,V.fz,fzL,V.up,upL,Ab,Ac,Ad,slr]) (λ_=>rfl) h (λr h=>Yi h) (λr5 h=> ?_)
  refine Br.yes ?_;cases h;exact (by rfl)
 refine Br.no<|Br.no<|Br.no<|Br.no<|Br.no ?_
 cases h;exact (by rfl)
noncomputable def Dl:(Int×(List Int)×Sl1Cur)->Option ((Int×(List Int)×Sl1Cur) ⊕ ((List Int)×Sl1Cur)):=λ(x6,x5,x59)=>
 ((if x6>(0:Int) then
 if (↑x5.length:Int)>(1:Int) then
 some (.inl ())
 else
 some (.inr ())
 else
 some (.inr ()):Option (Unit ⊕ Unit))).bind λt=>match t with
 | (.inl _)=>((A9 (x59) ((↑x5.length:Int))).bind λ(r9,u10)=>
 (A9 (u10) ((↑x5.length:Int))).bind λ(r11,u12)=>
 (Fv (x5) (r9) (r11)).bind λr13=>
 ask (InI (x6-(1:Int))) <|
 some (.inl (x6-(1:Int),r13,u12)))
 | (.inr _)=>(some (.inr (x5,x59)))
def G4:(Int×(List Int)×Sl1Cur)->St:=λs=>[(6,A.val (Af s.1)),(5,A.val ((slr true 1 Af) s.2.1)),(0,A.ref 59 []),(59,A.val ((rP true (Al false)) s.2.2))]
def Lu:((List Int)×Sl1Cur)->Tgt
 | s=>((Ex.exit 0),[5,0,59],[(5,A.val ((slr true 1 Af) s.1)),(0,A.ref 59 []),(59,A.val ((rP true (Al false)) s.2))])
theorem Wg (s:(Int×(List Int)×Sl1Cur)) (o:(Int×(List Int)×Sl1Cur) ⊕ ((List Int)×Sl1Cur)) (h:Dl s=some o):vc Tryz.prog Ll (Cd [6,5,0,59] (G4) (Lu) o) (G4 s):=by
 obtain ⟨x6,x5,x59⟩:=s;unfold Dl at h;try dsimp only at h
 refine CutQ.o (λt:(Unit ⊕ Unit)=>match t with | (.inl s)=>(Ex.normal,[6,5,0,59],[(6,A.val (Af (x6))),(5,A.val ((slr true 1 Af) (x5))),(0,A.ref 59 []),(59,A.val ((rP true (Al false)) (x59)))]) | (.inr s)=>((Ex.exit 0),[5,0,59],[(5,A.val ((slr true 1 Af) (x5))),(0,A.ref 59 []),(59,A.val ((rP true (Al false)) (x59)))])) h ?_ ?_
 ·intro t h;refine Br.od h (λp6 h=> ?_) (λp6 h=> ?_)
  ·refine Br.yes<|Len.map<|Br.yes<|Br.yes<|Br.od h (λp7 h=> ?_) (λp7 h=> ?_)
   ·cases h;exact ⟨rfl,rfl⟩
   cases h;exact ⟨rfl,rfl⟩
  refine Br.no<|Br.no<|Br.no<|Br.no ?_
  cases h;exact ⟨rfl,rfl⟩
 rintro (⟨⟩ | ⟨⟩) h
 ·try dsimp only at h
  refine Len.map<|CallQ.io Af (rP true (Al false)) (by rfl) rfl (λ_=>rfl) (λ_=>⟨rfl,rfl⟩) rfl h (λr h=>Bd h) (λr9 u10 h=> ?_)
  refine Len.map<|CallQ.io Af (rP true (Al false)) (by rfl) rfl (λ_=>rfl) (λ_=>⟨rfl,rfl⟩) rfl h (λr h=>Bd h) (λr11 u12 h=> ?_)
  refine CallQ.rd (slr true 1 Af) (by first | rfl | simp only [V.fz,Ab,slr] | simp [Aa,V.fz,fzL,V.up,upL,Ab,Ac,Ad,slr]) (λ_=>by simp [V.noFz,Ba]) h (λr h=>Pm h) (λr13 h=> ?_);refine Ask.o h λp14 h=> ?_
  cases h;exact ⟨rfl,rfl⟩
 try dsimp only at h
 cases h;exact ⟨rfl,rfl⟩
noncomputable def Dc (c0:Sl1Cur) (n0:Int):Option ((List Int)×Sl1Cur):=
 (J4 (n0) ((0:Int))).bind λr1=>
 (Fu (r1) ((9:Int))).bind λr2=>
 (Dv (r2)).bind λr3=>
 (A9 (c0) ((4:Int))).bind λ(r4,u5)=>
 (Ak (Dl) (r4,r3,u5)).bind λ(q15_5,q15_59)=>
 (A9 (q15_59) ((24:Int))).bind λ(r16,u17)=>
 if r16=(0:Int) then
 ask ((q15_5).length+([(0:Int)]).length<=LIM) <|
 some (q15_5++[(0:Int)],u17)
 else
 if r16=(1:Int) then
 if (↑q15_5.length:Int)>(0:Int) then
 (A9 (u17) ((↑q15_5.length:Int))).bind λ(r21,u22)=>
 ask (InI ((↑q15_5.length:Int)-(1:Int))) <|
 (Bv (u22) ([(-1:Int),(↑q15_5.length:Int),(↑q15_5.length:Int)-(1:Int),(0:Int)])).bind λ(r24,u25)=>
 ask ((0:Int)<=r21/\r21<(↑q15_5.length:Int)) <|
 some (q15_5.set r21.toNat r24,u25)
 else
 some (q15_5,u17)
 else
 some (q15_5,u17)
theorem N5 {c0:Sl1Cur} {n0:Int} {v:((List Int)×Sl1Cur)} (h:Dc c0 n0=some v):J7 Tryz.prog Iy [(rP true (Al false)) c0,Af n0] ((slr true 1 Af) v.1) 0 ((rP true (Al false)) v.2):=by
 refine Ij Zt (Nat.le_of_ble_eq_true rfl) ?_;unfold Dc at h;refine CallQ.o Af (by rfl) h (λr h=>Afm h) (λr1 h=> ?_);refine CallQ.o Af (by rfl) h (λr h=>Ade h) (λr2 h=> ?_);refine CallQ.o (slr true 1 Af) (by rfl) h (λr h=>Km h) (λr3 h=> ?_);refine CallQ.io Af (rP true (Al false)) (by rfl) rfl (λ_=>rfl) (λ_=>⟨rfl,rfl⟩) rfl h (λr h=>Bd h) (λr4 u5 h=> ?_);refine LoopQ.o [6,5,0,59] (G4) (Lu) h (λs o h=>Wg s o h) (by rfl) (λ_=>rfl) ?_;rintro ⟨q15_5,q15_59⟩ h;try dsimp only at h
 refine CallQ.io Af (rP true (Al false)) (by rfl) rfl (λ_=>rfl) (λ_=>⟨rfl,rfl⟩) rfl h (λr h=>Bd h) (λr16 u17 h=> ?_);refine Br.oe h (λp18 h=> ?_) (λp18 h=> ?_)
 ·refine BslQ.o Af ([(0:Int)]) (by exact λ_=>⟨rfl,rfl⟩) (by first | rfl | (simp only [Aa,V.fz,fzL,V.up,upL,Ab,Ac,Ad,slr,List.cons_append,List.nil_append];done) | simp [Aa,V.fz,fzL,V.up,upL,Ab,Ac,Ad,slr])<|NoOwn.o (λ_=>rfl)<|AppQ.o (m:=1) Af (by exact λ_=>⟨rfl,rfl⟩) (q15_5) ([(0:Int)]) (by rfl) (by rfl) h λh=> ?_
  cases h;exact ⟨(by rfl),(by rfl)⟩
 refine Br.oe h (λp19 h=> ?_) (λp19 h=> ?_)
 ·refine Len.map<|Br.od h (λp20 h=> ?_) (λp20 h=> ?_)
  ·refine Len.map<|CallQ.io Af (rP true (Al false)) (by rfl) rfl (λ_=>rfl) (λ_=>⟨rfl,rfl⟩) rfl h (λr h=>Bd h) (λr21 u22 h=> ?_)
   refine Len.map<|Len.map<|Ask.o h λp23 h=>BslQ.o Af ([(-1:Int),(↑q15_5.length:Int),(↑q15_5.length:Int)-(1:Int),(0:Int)]) (by exact λ_=>⟨rfl,rfl⟩) (by first | rfl | (simp only [Aa,V.fz,fzL,V.up,upL,Ab,Ac,Ad,slr,List.cons_append,List.nil_append];done) | simp [Aa,V.fz,fzL,V.up,upL,Ab,Ac,Ad,slr])<|CallQ.io Af (rP true (Al false)) (by first | rfl | (simp only [Aa,Av,V.fz,fzL,Ab,Ac,slr];done) | simp [Aa,Av,V.fz,fzL,V.up,upL,Ab,Ac,Ad,slr]) rfl (λ_=>rfl) (λ_=>⟨rfl,rfl⟩) rfl h (λr h=>Cf h) (λr24 u25 h=> ?_)
   refine Len.map<|Ask.o h λp26 h=>SetKids.one (λ_=>⟨rfl,rfl⟩) (r24) (by rfl) (by first | omega | (simp [Ap] at * <;> omega)) ?_
   cases h;exact ⟨(by rfl),(by rfl)⟩
  cases h;exact ⟨(by rfl),(by rfl)⟩
 cases h;exact ⟨(by rfl),(by rfl)⟩
noncomputable def R6 (a0:SAlgebra) (p0:(List Int)):Option Bool:=
 (Ha (a0.Size) (p0)).bind λr1=>
 if (r1)=true then
 (Fj (a0) (p0)).bind λr3=>
 (Ib (r3) (p0)).bind λr4=>
 some r4
 else
 some false
theorem A10 {a0:SAlgebra} {p0:(List Int)} {v:Bool} (h:R6 a0 p0=some v):Ret Tryz.prog Add [(Ag false) a0,(slr false 1 Af) p0] (V.bool v):=by
 refine A4 Azu (Nat.le_of_ble_eq_true rfl) ?_;unfold R6 at h;refine Cells.lit rfl rfl<|CallQ.o V.bool (by rfl) h (λr h=>Agc h) (λr1 h=> ?_)
 refine Br.ob h (λp2 h=> ?_) (λp2 h=> ?_)
 ·refine Cells.lit rfl rfl<|Br.yes<|Br.yes<|CallQ.o (slr true 1 Af) (by rfl) h (λr h=>Afl h) (λr3 h=> ?_)
  refine Br.yes<|Br.yes<|CallQ.rd V.bool (by first | rfl | simp only [V.fz,V.up,Ab,slr] | simp [Aa,V.fz,fzL,V.up,upL,Ab,Ac,Ad,slr]) (λ_=>rfl) h (λr h=>Yi h) (λr4 h=> ?_)
  refine Br.yes ?_;cases h;exact (by rfl)
 refine Br.no<|Br.no<|Br.no<|Br.no<|Br.no ?_
 cases h;exact (by rfl)
noncomputable def M1 (a0:SAlgebra) (b0:SAlgebra):Option (Bool×Bool):=
 (C0 (a0)).bind λr1=>
 if (r1)=true then
 (C0 (b0)).bind λr3=>
 if (r3)=true then
 (Jz (a0)).bind λr5=>
 (Jz (b0)).bind λr6=>
 (Jp (r5) (r6)).bind λr7=>
 some (r7,true)
 else
 some (false,false)
 else
 some (false,false)
theorem Am4 {a0:SAlgebra} {b0:SAlgebra} {v:(Bool×Bool)} (h:M1 a0 b0=some v):Ret Tryz.prog To [(Ag false) a0,(Ag false) b0] ((λr=>V.tup [V.bool r.1,V.bool r.2]) v):=by
 refine A4 Anz (Nat.le_of_ble_eq_true rfl) ?_;unfold M1 at h;refine Cells.lit rfl rfl<|CallQ.o V.bool (by rfl) h (λr h=>Gn h) (λr1 h=> ?_)
 refine Br.flip<|Br.ob h (λp2 h=> ?_) (λp2 h=> ?_)
 ·refine Cells.lit rfl rfl<|Br.no<|CallQ.o V.bool (by rfl) h (λr h=>Gn h) (λr3 h=> ?_)
  refine Br.no<|Br.no<|Br.flip<|Br.ob h (λp4 h=> ?_) (λp4 h=> ?_)
  ·refine Cells.lit rfl rfl<|CallP.o (slr true 1 Af) (by rfl) h (λr h=>Afg h) (λr5 h=> ?_)
   refine Cells.lit rfl rfl<|CallQ.o (slr true 1 Af) (by rfl) h (λr h=>Afg h) (λr6 h=> ?_)
   refine CallQ.rd V.bool (by first | rfl | simp only [V.fz,Ab,slr] | simp [Aa,V.fz,fzL,V.up,upL,Ab,Ac,Ad,slr]) (λ_=>rfl) h (λr h=>Anp h) (λr7 h=> ?_);cases h;exact (by rfl)
  cases h;exact (by rfl)
 refine Br.yes<|Br.yes<|Br.yes<|Br.yes ?_
 cases h;exact (by rfl)
noncomputable def Gx (w_0:(List Int)) (x:(((List (List Int))) ⊕ ((Unit)×(Option (List Int))))):Option (Bool×(((List (List Int))) ⊕ ((Unit)×(Option (List Int))))):=match x with
 | (.inl x)=>(Pf w_0 x).bind λr=>some (r.1,(.inl (r.2)))
 | (.inr x)=>(Kf w_0 x.1 x.2).bind λr=>some (r.1,(.inr (x.1,r.2)))
theorem Ag3 {w_0:(List Int)} {x:(((List (List Int))) ⊕ ((Unit)×(Option (List Int))))} {v} {gv:Value} (h:Gx w_0 x=some v):Bff Tryz.prog [(slr false 1 Af) w_0] (Cg gv x) (V.bool v.1) (Cg gv v.2) /\ ∀tv f cs,Cg gv x = .clov tv f cs->cs.length<=9:=by
 rcases x with x | x
 ·obtain ⟨r,h1,h2⟩:=Option.bind_eq_some_iff.1 h;cases h2;exact ⟨⟨gv,Ke,[],[],(rP true (slr true 1 (slr true 1 Af))) x,(rP true (slr true 1 (slr true 1 Af))) r.2,rfl,rfl,rfl,rfl,⟨by first | rfl | simp [V.hasOwn],rfl⟩,⟨rfl,by first | rfl | (cases r.2<;>first | rfl | simp [V.noFz,Bo,Ba]) | simp [V.noFz,Bo,Ba,NoFz.eq]⟩,J7.cast (by rfl) (Aie h1)⟩,by rintro _ _ _ e;cases e;exact Nat.le_of_ble_eq_true rfl⟩
 obtain ⟨r,h1,h2⟩:=Option.bind_eq_some_iff.1 h;cases h2;exact ⟨⟨gv,Hm,[(rP false Ep) x.1],[],(rP true (rOw 1 Af)) x.2,(rP true (rOw 1 Af)) r.2,rfl,rfl,rfl,rfl,⟨by first | rfl | simp [V.hasOwn],rfl⟩,⟨rfl,by first | rfl | (cases r.2<;>first | rfl | simp [V.noFz,Ba]) | simp [V.noFz,Bo,Ba,NoFz.eq]⟩,J7.cast (by rfl) (Aiz h1)⟩,by rintro _ _ _ e;cases e;exact Nat.le_of_ble_eq_true rfl⟩
noncomputable def B7 (_s0:ShomSearch) (f0:List Int):Int->Option (Int ⊕ Int):=λx5=>
 if x5<(↑f0.length:Int) then
 ask ((0:Int)<=x5/\x5<(↑f0.length:Int)) <|
 if nth f0 x5.toNat>=(0:Int) then
 ask (InI (x5+(1:Int))) <|
 some (.inl (x5+(1:Int)))
 else
 some (.inr x5)
 else
 some (.inr x5)
def G2 (gv:Value) (s0:ShomSearch) (f0:List Int):Int->St:=λs=>[(5,A.val (Af s)),(0,A.ref 67 []),(67,A.val ((rP true (Bj gv)) (s0))),(1,A.val ((slr false 1 Af) (f0)))]
def Lh (gv:Value) (s0:ShomSearch) (f0:List Int):Int->Tgt
 | s=>((Ex.exit 0),[5,0,67,1],[(5,A.val (Af s)),(0,A.ref 67 []),(67,A.val ((rP true (Bj gv)) (s0))),(1,A.val ((slr false 1 Af) (f0)))])
theorem U5 {gv:Value} {s0:ShomSearch} {f0:List Int} (x5:Int) (o:Int ⊕ Int) (h:B7 s0 f0 x5=some o):vc Tryz.prog Lq (Cd [5,0,67,1] (G2 gv s0 f0) (Lh gv s0 f0) o) (G2 gv s0 f0 x5):=by
 unfold B7 at h;try dsimp only at h
 refine Len.map<|Br.od h (λp1 h=> ?_) (λp1 h=> ?_)
 ·refine Br.yes<|Br.yes<|Len.map<|Ask.o h λp2 h=>Elem.o (by first | omega | (simp [Ap] at * <;> omega))<|Br.yes<|Br.yes<|Br.yes<|Br.od h (λp3 h=> ?_) (λp3 h=> ?_)
  ·refine Ask.o h λp4 h=> ?_
   cases h;exact ⟨rfl,rfl⟩
  cases h;exact ⟨rfl,rfl⟩
 refine Br.no<|Br.no<|Br.no<|Br.no<|Br.no<|Br.no ?_
 cases h;exact ⟨rfl,rfl⟩
noncomputable def Be (self:ShomSearch->List Int->Option (Bool×ShomSearch)) (f0:List Int) (q5_5:Int):(Int×ShomSearch)->Option ((Int×ShomSearch) ⊕ (ShomSearch ⊕ ShomSearch)):=λ(x6,x67)=>
 if x6<x67.b.Size then
 ask (InI (x67.tries+(1:Int))) <|
 if x67.tries+(1:Int)>(5000:Int) then
 some (.inr (.inl ({ a:=x67.a,b:=x67.b,embed:=x67.embed,tries:=x67.tries+(1:Int),found:=x67.found })))
 else
 (Fh (f0)).bind λr12=>
 ask ((0:Int)<=q5_5/\q5_5<(↑r12.length:Int)) <|
 (Bq ({ a:=x67.a,b:=x67.b,embed:=x67.embed,tries:=x67.tries+(1:Int),found:=x67.found }) (r12.set q5_5.toNat x6)).bind λ(r14,u15)=>
 if (r14)=true then
 (self ({ a:=x67.a,b:=x67.b,embed:=x67.embed,tries:=x67.tries+(1:Int),found:=x67.found }) (u15)).bind λ(r17,u18)=>
 if (r17)=true then
 ask (InI (x6+(1:Int))) <|
 some (.inl (x6+(1:Int),u18))
 else
 some (.inr (.inl u18))
 else
 ask (InI (x6+(1:Int))) <|
 some (.inl (x6+(1:Int),{ a:=x67.a,b:=x67.b,embed:=x67.embed,tries:=x67.tries+(1:Int),found:=x67.found }))
 else
 some (.inr (.inr x67))
def G6 (gv:Value) (f0:List Int) (q5_5:Int):(Int×ShomSearch)->St:=λs=>[(6,A.val (Af s.1)),(5,A.val (Af (q5_5))),(0,A.ref 67 []),(67,A.val ((rP true (Bj gv)) s.2)),(1,A.val ((slr false 1 Af) (f0)))]
def K4 (gv:Value) (_f0:List Int) (_q5_5:Int):(ShomSearch ⊕ ShomSearch)->Tgt
 | (.inl s)=>(Ex.ret,[4,67],[(4,A.val (V.bool (false))),(67,A.val ((rP true (Bj gv)) s))])
 | (.inr s)=>((Ex.exit 2),[67],[(67,A.val ((rP true (Bj gv)) s))])
theorem Wf {gv:Value} {self:ShomSearch->List Int->Option (Bool×ShomSearch)} {f0:List Int} {q5_5:Int} (hself : ∀ {w_0 w_1 v},self w_0 w_1=some v->J7 Tryz.prog B8 [(rP true (Bj gv)) w_0,(slr false 1 Af) w_1] (V.bool v.1) 0 ((rP true (Bj gv)) v.2)) (s:(Int×ShomSearch)) (o:(Int×ShomSearch) ⊕ (ShomSearch ⊕ ShomSearch)) (h:Be self f0 q5_5 s=some o):vc Tryz.prog K2 (Cd [6,5,0,67,1] (G6 gv f0 q5_5) (K4 gv f0 q5_5) o) (G6 gv f0 q5_5 s):=by
 obtain ⟨x6,x67⟩:=s;unfold Be at h;try dsimp only at h
 refine Cells.lit rfl rfl<|Br.od h (λp9 h=> ?_) (λp9 h=> ?_)
 ·refine Cells.lit rfl rfl<|Ask.o h λp10 h=>SetKids.lit rfl<|Cells.lit rfl rfl<|Br.od h (λp11 h=> ?_) (λp11 h=> ?_)
  ·cases h;exact ⟨rfl,rfl⟩
  refine CallQ.o (slr true 1 Af) (by rfl) h (λr h=>Oi h) (λr12 h=> ?_);refine Len.map<|Ask.o h λp13 h=>SetKids.one (λ_=>⟨rfl,rfl⟩) (x6) (by rfl) (by first | omega | (simp [Ap] at * <;> omega))<|CallQ.io V.bool (slr true 1 Af) (by first | rfl | (simp only [Aa,V.fz,fzL,Ab,Ac,slr];rfl) | simp [Aa,V.fz,fzL,V.up,upL,Ab,Ac,Ad,slr]) rfl (λ_=>rfl) (λ_=>⟨by first | rfl | simp [Db,V.noFz,Ba],rfl⟩) rfl h (λr h=>Kc h) (λr14 u15 h=> ?_)
  refine Br.ob h (λp16 h=> ?_) (λp16 h=> ?_)
  ·refine Br.yes<|Br.yes<|CallQ.io V.bool (rP true (Bj gv)) (by first | rfl | (simp only [V.fz,Ab,slr];rfl) | simp [Aa,V.fz,fzL,V.up,upL,Ab,Ac,Ad,slr]) rfl (λ_=>rfl) (λ_=>⟨rfl,rfl⟩) rfl h (λr h=>hself h) (λr17 u18 h=> ?_)
   refine Br.yes<|Br.yes<|Br.flip<|Br.ob h (λp19 h=> ?_) (λp19 h=> ?_)
   ·refine Ask.o h λp20 h=> ?_
    cases h;exact ⟨rfl,rfl⟩
   cases h;exact ⟨rfl,rfl⟩
  refine Br.no<|Br.no<|Br.no<|Br.no<|Br.no<|Ask.o h λp21 h=> ?_
  cases h;exact ⟨rfl,rfl⟩
 cases h;exact ⟨rfl,rfl⟩
noncomputable def Bw (self:ShomSearch->(List Int)->Option (Bool×ShomSearch)) (s0:ShomSearch) (f0:(List Int)):Option (Bool×ShomSearch):=
 (Ak (B7 s0 f0) (0:Int)).bind λq5_5=>
 if q5_5=(↑f0.length:Int) then
 (Gx (f0) (s0.found)).bind λ(r7,u8)=>
 some (r7,{ a:=s0.a,b:=s0.b,embed:=s0.embed,tries:=s0.tries,found:=u8 })
 else
 (Ak (Be self f0 q5_5) ((0:Int),s0)).bind λt=>match t with
 | (.inl q22_67)=>(some (false,q22_67))
 | (.inr q22_67)=>(some (true,q22_67))
noncomputable def A6:Nat->ShomSearch->(List Int)->Option (Bool×ShomSearch)
 | 0=>λ_ _=>none
 | n+1=>Bw (A6 n)
theorem Wu {gv:Value} {self:ShomSearch->(List Int)->Option (Bool×ShomSearch)} (hself : ∀ {w_0 w_1 v},self w_0 w_1=some v->J7 Tryz.prog B8 [(rP true (Bj gv)) w_0,(slr false 1 Af) w_1] (V.bool v.1) 0 ((rP true (Bj gv)) v.2)) {s0:ShomSearch} {f0:(List Int)} {v:(Bool×ShomSearch)} (h:Bw self s0 f0=some v):J7 Tryz.prog B8 [(rP true (Bj gv)) s0,(slr false 1 Af) f0] (V.bool v.1) 0 ((rP true (Bj gv)) v.2):=by
 refine Ij Zk (Nat.le_of_ble_eq_true rfl) ?_;unfold Bw at h;refine LoopQ.o [5,0,67,1] (G2 gv s0 f0) (Lh gv s0 f0) h (λs o h=>U5 s o h) (by rfl) (λ_=>rfl) ?_;rintro q5_5 h;try dsimp only at h
 refine Len.map<|Br.oe h (λp6 h=> ?_) (λp6 h=> ?_)
 ·refine Cells.lit rfl rfl<|A15 (Ae2 _ _)<|Kid.lit rfl rfl<|CloN.o V.bool (Cg gv) (by rfl) rfl rfl (by decide) rfl (λ_=>rfl) rfl rfl h (λr h=>Ag3 h) (λr7 u8 h=> ?_)
  refine Kid.lit rfl rfl<|SetKids.lit rfl ?_
  cases h;exact ⟨(by rfl),(by rfl)⟩
 refine LoopQ.o [6,5,0,67,1] (G6 gv f0 q5_5) (K4 gv f0 q5_5) h (λs o h=>Wf hself s o h) (by rfl) (by rintro (_ | _)<;>rfl) ?_;rintro (q22_67 | q22_67) h
 ·try dsimp only at h
  cases h;exact ⟨(by rfl),(by rfl)⟩
 try dsimp only at h
 cases h;exact ⟨(by rfl),(by rfl)⟩
theorem L2 {gv:Value} : ∀(n:Nat) {s0:ShomSearch} {f0:(List Int)} {v:(Bool×ShomSearch)},A6 n s0 f0=some v->J7 Tryz.prog B8 [(rP true (Bj gv)) s0,(slr false 1 Af) f0] (V.bool v.1) 0 ((rP true (Bj gv)) v.2)
 | 0,_,_,_,h=>by cases h
 | n+1,_,_,_,h=>Wu (λh=>L2 n h) h
theorem N9 {gv:Value} {s0:ShomSearch} {f0:(List Int)} {v:(Bool×ShomSearch)} (h:(Azw λn=>A6 n s0 f0)=some v):J7 Tryz.prog B8 [(rP true (Bj gv)) s0,(slr false 1 Af) f0] (V.bool v.1) 0 ((rP true (Bj gv)) v.2):=by obtain ⟨n,hn⟩:=A7h h;exact L2 n hn
noncomputable def Fw (a0:SAlgebra):(Int×(List Int))->Option ((Int×(List Int)) ⊕ (List Int)):=λ(x5,x1)=>
 if x5<a0.Size then
 (Fj (a0) (x1)).bind λr2=>
 ask (InI (x5+(1:Int))) <|
 some (.inl (x5+(1:Int),r2))
 else
 some (.inr x1)
def Pj (a0:SAlgebra):(Int×(List Int))->St:=λs=>[(5,A.val (Af s.1)),(2,A.val ((rP true (Ag false)) (a0))),(1,A.val ((slr false 1 Af) s.2))]
def W5 (_a0:SAlgebra):(List Int)->Tgt
 | s=>((Ex.exit 0),[1],[(1,A.val ((slr false 1 Af) s))])
theorem Aia {a0:SAlgebra} (s:(Int×(List Int))) (o:(Int×(List Int)) ⊕ (List Int)) (h:Fw a0 s=some o):vc Tryz.prog Xn (Cd [5,2,1] (Pj a0) (W5 a0) o) (Pj a0 s):=by
 obtain ⟨x5,x1⟩:=s;unfold Fw at h;try dsimp only at h
 refine Cells.lit rfl rfl<|Br.od h (λp1 h=> ?_) (λp1 h=> ?_)
 ·refine Cells.lit rfl rfl<|CallQ.o (slr true 1 Af) (by rfl) h (λr h=>Afl h) (λr2 h=> ?_)
  refine FrzQ.d (V.sl false (1:Nat) (List.map Af r2)) (by first | (simp only [slr];done) | (simp [Av,V.fz,Ab,slr];done) | (simp [Av,V.fz,fzL,Ab,slr];done))<|Ask.o h λp3 h=> ?_
  cases h;exact ⟨rfl,rfl⟩
 cases h;exact ⟨rfl,rfl⟩
noncomputable def Ku (a0:SAlgebra) (p0:(List Int)):Option (List Int):=
 (Ak (Fw a0) ((0:Int),p0)).bind λq4_1=>
 some q4_1
theorem Aq1 {a0:SAlgebra} {p0:(List Int)} {v:(List Int)} (h:Ku a0 p0=some v):Ret Tryz.prog Vz [(Ag false) a0,(slr false 1 Af) p0] ((slr false 1 Af) v):=by
 refine A4 Ar0 (Nat.le_of_ble_eq_true rfl) ?_;unfold Ku at h;refine LoopQ.o [5,2,1] (Pj a0) (W5 a0) h (λs o h=>Aia s o h) (by rfl) (λ_=>rfl) ?_;rintro q4_1 h;try dsimp only at h
 cases h;exact (by rfl)
end Go.Proofs.YtmkgjnphianalaaGreat.Ax
