/-
 What the functions compute, as functions on plain data, and that the program does compute it; written by program.
-/
import Derived.Test.YtmkgjnphianalaaGreatCode
import Derived.Test.YtmkgjnphianalaaGreatG1
import Derived.Test.YtmkgjnphianalaaGreatG2
import Derived.Test.YtmkgjnphianalaaGreatG3
import Derived.Test.YtmkgjnphianalaaGreatG6
import Derived.Test.YtmkgjnphianalaaGreatG7
import Derived.Test.YtmkgjnphianalaaGreatG8
namespace Go.Proofs.YtmkgjnphianalaaGreat.Ax
open Go
set_option maxRecDepth 100000
set_option maxHeartbeats 4000000
noncomputable def Gd (a0:SAlgebra) (p0:(List Int)):Option Bool:=
 (G7 (a0.Size) (p0)).bind λr1=>
 if (r1)=true then
 (Fh (p0)).bind λr3=>
 (E4 (a0) (r3)).bind λ(r4,_u5)=>
 some !r4
 else
 some false
theorem Ae0 {a0:SAlgebra} {p0:(List Int)} {v:Bool} (h:Gd a0 p0=some v):Ret Tryz.prog L8 [(Ag false) a0,(slr false 1 Af) p0] (V.bool v):=by
 refine A4 Ae6 (Nat.le_of_ble_eq_true rfl) ?_;unfold Gd at h;refine Cells.lit rfl rfl<|CallP.o V.bool (by rfl) h (λr h=>Af1 h) (λr1 h=> ?_)
 refine Br.ob h (λp2 h=> ?_) (λp2 h=> ?_)
 ·refine Cells.lit rfl rfl<|Br.yes<|Br.yes<|CallP.o (slr true 1 Af) (by rfl) h (λr h=>Oi h) (λr3 h=> ?_)
  refine Br.yes<|CallQ.io V.bool (slr true 1 Af) (by rfl) rfl (λ_=>rfl) (λ_=>⟨rfl,rfl⟩) rfl h (λr h=>Aco h) (λr4 u5 h=> ?_)
  refine Br.yes<|Br.yes ?_
  cases h;exact (by rfl)
 refine Br.no<|Br.no<|Br.no<|Br.no<|Br.no ?_
 cases h;exact (by rfl)
noncomputable def Jj (a0:SAlgebra) (some0:(List Int)):Option (List Int):=
 (I5 (some0) (a0.Size)).bind λr1=>
 (Ho (a0) (r1)).bind λr2=>
 (J1 (r2)).bind λr3=>
 some r3
theorem Anx {a0:SAlgebra} {some0:(List Int)} {v:(List Int)} (h:Jj a0 some0=some v):Ret Tryz.prog T3 [(Ag false) a0,(slr false 1 Af) some0] ((slr true 1 Af) v):=by
 refine A4 Aoc (Nat.le_of_ble_eq_true rfl) ?_;unfold Jj at h;refine Cells.lit rfl rfl<|Cells.lit rfl rfl<|CallP.o (slr true 1 V.bool) (by rfl) h (λr h=>Aa2 h) (λr1 h=> ?_)
 refine CallQ.give (slr true 1 V.bool) (by rfl) rfl (λ_=>rfl) rfl h (λr h=>Ai6 h) (λr2 h=> ?_);refine CallQ.rd (slr true 1 Af) (by first | rfl | simp only [V.fz,Ab,slr] | simp [Aa,V.fz,fzL,V.up,upL,Ab,Ac,Ad,slr]) (λ_=>by simp [V.noFz,Ba]) h (λr h=>Afq h) (λr3 h=> ?_);cases h;exact (by rfl)
noncomputable def Hz (a0:SAlgebra):(Int×(List Bool))->Option ((Int×(List Bool)) ⊕ (List Bool)):=λ(x6,x5)=>
 if x6<=a0.Size then
 (Md (a0) (x5)).bind λr3=>
 ask (InI (x6+(1:Int))) <|
 some (.inl (x6+(1:Int),r3))
 else
 some (.inr x5)
def Oy (a0:SAlgebra):(Int×(List Bool))->St:=λs=>[(6,A.val (Af s.1)),(5,A.val ((slr true 1 V.bool) s.2)),(2,A.val ((rP true (Ag false)) (a0)))]
def Xj (_a0:SAlgebra):(List Bool)->Tgt
 | s=>((Ex.exit 0),[5],[(5,A.val ((slr true 1 V.bool) s))])
theorem Ahy {a0:SAlgebra} (s:(Int×(List Bool))) (o:(Int×(List Bool)) ⊕ (List Bool)) (h:Hz a0 s=some o):vc Tryz.prog W4 (Cd [6,5,2] (Oy a0) (Xj a0) o) (Oy a0 s):=by
 obtain ⟨x6,x5⟩:=s;unfold Hz at h;try dsimp only at h
 refine Cells.lit rfl rfl<|Br.od h (λp2 h=> ?_) (λp2 h=> ?_)
 ·refine Cells.lit rfl rfl<|CallQ.rd (slr true 1 V.bool) (by first | rfl | simp only [V.fz,fzL,Ab,slr] | simp [Aa,V.fz,fzL,V.up,upL,Ab,Ac,Ad,slr]) (λ_=>by simp [V.noFz,Ba]) h (λr h=>Aun h) (λr3 h=> ?_)
  refine Ask.o h λp4 h=> ?_
  cases h;exact ⟨rfl,rfl⟩
 cases h;exact ⟨rfl,rfl⟩
noncomputable def Ln (a0:SAlgebra) (some0:(List Int)):Option (List Int):=
 (Sj (a0.Size) (some0)).bind λr1=>
 (Ak (Hz a0) ((0:Int),r1)).bind λq5_5=>
 (Mt (q5_5)).bind λr6=>
 some r6
theorem Arc {a0:SAlgebra} {some0:(List Int)} {v:(List Int)} (h:Ln a0 some0=some v):Ret Tryz.prog V3 [(Ag false) a0,(slr false 1 Af) some0] ((slr true 1 Af) v):=by
 refine A4 App (Nat.le_of_ble_eq_true rfl) ?_;unfold Ln at h;refine Cells.lit rfl rfl<|CallQ.o (slr true 1 V.bool) (by rfl) h (λr h=>Azb h) (λr1 h=> ?_)
 refine LoopQ.o [6,5,2] (Oy a0) (Xj a0) h (λs o h=>Ahy s o h) (by rfl) (λ_=>rfl) ?_;rintro q5_5 h;try dsimp only at h
 refine CallQ.rd (slr true 1 Af) (by first | rfl | simp only [V.fz,Ab,slr] | simp [Aa,V.fz,fzL,V.up,upL,Ab,Ac,Ad,slr]) (λ_=>by simp [V.noFz,Ba]) h (λr h=>Atx h) (λr6 h=> ?_);cases h;exact (by rfl)
noncomputable def B5 (u2:List Int):(Int×(List Bool))->Option ((Int×(List Bool)) ⊕ (Unit ⊕ Unit)):=λ(x32,x5)=>
 if x32<(↑u2.length:Int) then
 ask ((0:Int)<=x32/\x32<(↑u2.length:Int)) <|
 if nth u2 x32.toNat>=(0:Int) then
 ask ((0:Int)<=nth u2 x32.toNat/\nth u2 x32.toNat<(↑x5.length:Int)) <|
 if (nth x5 (nth u2 x32.toNat).toNat)=true then
 some (.inr (.inl ()))
 else
 if nth u2 x32.toNat>=(0:Int) then
 ask ((0:Int)<=nth u2 x32.toNat/\nth u2 x32.toNat<(↑x5.length:Int)) <|
 ask (InI (x32+(1:Int))) <|
 some (.inl (x32+(1:Int),x5.set (nth u2 x32.toNat).toNat true))
 else
 ask (InI (x32+(1:Int))) <|
 some (.inl (x32+(1:Int),x5))
 else
 if nth u2 x32.toNat>=(0:Int) then
 ask ((0:Int)<=nth u2 x32.toNat/\nth u2 x32.toNat<(↑x5.length:Int)) <|
 ask (InI (x32+(1:Int))) <|
 some (.inl (x32+(1:Int),x5.set (nth u2 x32.toNat).toNat true))
 else
 ask (InI (x32+(1:Int))) <|
 some (.inl (x32+(1:Int),x5))
 else
 some (.inr (.inr ()))
def H6 (u2:List Int):(Int×(List Bool))->St:=λs=>[(32,A.val (Af s.1)),(31,A.val (Af ((↑u2.length:Int)))),(30,A.ref 51 []),(5,A.val ((slr true 1 V.bool) s.2)),(51,A.val ((slr true 1 Af) (u2)))]
def Mj (u2:List Int):(Unit ⊕ Unit)->Tgt
 | (.inl _s)=>(Ex.ret,[4,51],[(4,A.val (V.bool (false))),(51,A.val ((slr true 1 Af) (u2)))])
 | (.inr _s)=>((Ex.exit 0),[51],[(51,A.val ((slr true 1 Af) (u2)))])
theorem Yk {u2:List Int} (s:(Int×(List Bool))) (o:(Int×(List Bool)) ⊕ (Unit ⊕ Unit)) (h:B5 u2 s=some o):vc Tryz.prog Me (Cd [32,31,30,5,51] (H6 u2) (Mj u2) o) (H6 u2 s):=by
 obtain ⟨x32,x5⟩:=s;unfold B5 at h;try dsimp only at h
 refine Br.od h (λp6 h=> ?_) (λp6 h=> ?_)
 ·refine Len.map<|Ask.o h λp7 h=>Cells.one (λ_=>⟨rfl,rfl⟩) (by first | omega | (simp [Ap] at * <;> omega))<|Br.od h (λp8 h=> ?_) (λp8 h=> ?_)
  ·refine Br.yes<|Br.yes<|Len.map<|Ask.o h λp9 h=>Br.yes<|Cells.one (λ_=>⟨rfl,rfl⟩) (by first | omega | (simp [Ap] at * <;> omega))<|Br.yes<|Br.ob h (λp10 h=> ?_) (λp10 h=> ?_)
   ·cases h;exact ⟨rfl,rfl⟩
   refine Br.od h (λp11 h=> ?_) (λp11 h=> ?_)
   ·refine Len.map<|Ask.o h λp12 h=>SetKids.one (λ_=>⟨rfl,rfl⟩) (true) (by rfl) (by first | omega | (simp [Ap] at * <;> omega))<|Ask.o h λp13 h=> ?_
    cases h;exact ⟨rfl,rfl⟩
   refine Ask.o h λp14 h=> ?_
   cases h;exact ⟨rfl,rfl⟩
  refine Br.no<|Br.no<|Br.no<|Br.no<|Br.no<|Br.od h (λp15 h=> ?_) (λp15 h=> ?_)
  ·refine Len.map<|Ask.o h λp16 h=>SetKids.one (λ_=>⟨rfl,rfl⟩) (true) (by rfl) (by first | omega | (simp [Ap] at * <;> omega))<|Ask.o h λp17 h=> ?_
   cases h;exact ⟨rfl,rfl⟩
  refine Ask.o h λp18 h=> ?_
  cases h;exact ⟨rfl,rfl⟩
 cases h;exact ⟨rfl,rfl⟩
noncomputable def Bq (s0:ShomSearch) (f0:(List Int)):Option (Bool×(List Int)):=
 (Hl (s0.a) (s0.b) (f0)).bind λ(r1,u2)=>
 if (r1)=true then
 if (s0.embed)=true then
 ask ((0:Int)<=s0.b.Size/\s0.b.Size<=(↑LIM:Int)) <|
 (Ak (B5 u2) ((0:Int),List.replicate s0.b.Size.toNat false)).bind λt=>match t with
 | (.inl _)=>(some (false,u2))
 | (.inr _)=>(some (true,u2))
 else
 some (true,u2)
 else
 some (false,u2)
theorem Kc {s0:ShomSearch} {f0:(List Int)} {v:(Bool×(List Int))} (h:Bq s0 f0=some v):J7 Tryz.prog Hb [(rP false (Gi false)) s0,(slr true 1 Af) f0] (V.bool v.1) 1 ((slr true 1 Af) v.2):=by
 refine Ij Ack (Nat.le_of_ble_eq_true rfl) ?_;unfold Bq at h;refine CallQ.io V.bool (slr true 1 Af) (by rfl) rfl (λ_=>rfl) (λ_=>⟨rfl,rfl⟩) rfl h (λr h=>Aot h) (λr1 u2 h=> ?_);refine Br.flip<|Br.ob h (λp3 h=> ?_) (λp3 h=> ?_)
 ·refine Br.flip<|Br.ob h (λp4 h=> ?_) (λp4 h=> ?_)
  ·refine Ask.o h λp5 h=>MkQ.o V.bool (false) rfl<|Len.map<|LoopQ.o [32,31,30,5,51] (H6 u2) (Mj u2) h (λs o h=>Yk s o h) (by rfl) (by rintro (_ | _)<;>rfl) ?_
   rintro (⟨⟩ | ⟨⟩) h
   ·try dsimp only at h
    cases h;exact ⟨(by rfl),(by rfl)⟩
   try dsimp only at h
   cases h;exact ⟨(by rfl),(by rfl)⟩
  cases h;exact ⟨(by rfl),(by rfl)⟩
 cases h;exact ⟨(by rfl),(by rfl)⟩
noncomputable def Gs (q0:List Int):(Int×(List Int))->Option ((Int×(List Int)) ⊕ (List Int)):=λ(x6,x5)=>
 if x6<(↑q0.length:Int) then
 ask ((0:Int)<=x6/\x6<(↑q0.length:Int)) <|
 (Fv (x5) (x6) (nth q0 x6.toNat)).bind λr4=>
 ask (InI (x6+(1:Int))) <|
 some (.inl (x6+(1:Int),r4))
 else
 some (.inr x5)
def Qx (q0:List Int):(Int×(List Int))->St:=λs=>[(6,A.val (Af s.1)),(5,A.val ((slr true 1 Af) s.2)),(1,A.val ((slr false 1 Af) (q0)))]
def Z1 (_q0:List Int):(List Int)->Tgt
 | s=>((Ex.exit 0),[5],[(5,A.val ((slr true 1 Af) s))])
theorem Ak6 {q0:List Int} (s:(Int×(List Int))) (o:(Int×(List Int)) ⊕ (List Int)) (h:Gs q0 s=some o):vc Tryz.prog Yp (Cd [6,5,1] (Qx q0) (Z1 q0) o) (Qx q0 s):=by
 obtain ⟨x6,x5⟩:=s;unfold Gs at h;try dsimp only at h
 refine Len.map<|Br.od h (λp2 h=> ?_) (λp2 h=> ?_)
 ·refine Len.map<|Ask.o h λp3 h=>Elem.o (by first | omega | (simp [Ap] at * <;> omega))<|CallQ.rd (slr true 1 Af) (by first | rfl | simp only [V.fz,V.up,Ab,Ad,slr] | simp [Aa,V.fz,fzL,V.up,upL,Ab,Ac,Ad,slr]) (λ_=>by simp [V.noFz,Ba]) h (λr h=>Pm h) (λr4 h=> ?_)
  refine Ask.o h λp5 h=> ?_
  cases h;exact ⟨rfl,rfl⟩
 cases h;exact ⟨rfl,rfl⟩
noncomputable def Mo (p0:(List Int)) (q0:(List Int)):Option (List Int):=
 (Em (p0)).bind λr1=>
 (Ak (Gs q0) ((0:Int),r1)).bind λq6_5=>
 some q6_5
theorem Auc {p0:(List Int)} {q0:(List Int)} {v:(List Int)} (h:Mo p0 q0=some v):Ret Tryz.prog X9 [(slr false 1 Af) p0,(slr false 1 Af) q0] ((slr true 1 Af) v):=by
 refine A4 Atd (Nat.le_of_ble_eq_true rfl) ?_;unfold Mo at h;refine CallQ.o (slr true 1 Af) (by rfl) h (λr h=>Pp h) (λr1 h=> ?_);refine LoopQ.o [6,5,1] (Qx q0) (Z1 q0) h (λs o h=>Ak6 s o h) (by rfl) (λ_=>rfl) ?_;rintro q6_5 h;try dsimp only at h
 cases h;exact (by rfl)
noncomputable def Cx (a0:SAlgebra) (p0:List Int) (x6:Int) (x7:Int) (r6:List Int):(Int×(List Int))->Option ((Int×(List Int)) ⊕ (List Int)):=λ(x9,x5'')=>
 if x9<(↑r6.length:Int) then
 (Em (r6)).bind λr8=>
 ask ((0:Int)<=x9/\x9<(↑r6.length:Int)) <|
 ask ((0:Int)<=nth r6 x9.toNat/\nth r6 x9.toNat<(↑p0.length:Int)) <|
 ask ((0:Int)<=x9/\x9<(↑r8.length:Int)) <|
 ask ((0:Int)<=x6/\x6<(↑a0.Ops.length:Int)) <|
 ask ((0:Int)<=x7/\x7<(↑(nth a0.Ops x6.toNat).Table.length:Int)) <|
 (Kx (a0) (x6) (r8.set x9.toNat (nth p0 (nth r6 x9.toNat).toNat))).bind λr14=>
 (Fv (x5'') (nth (nth a0.Ops x6.toNat).Table x7.toNat) (r14)).bind λr15=>
 ask (InI (x9+(1:Int))) <|
 some (.inl (x9+(1:Int),r15))
 else
 some (.inr x5'')
def Qy (a0:SAlgebra) (p0:List Int) (x6:Int) (x7:Int) (r6:List Int):(Int×(List Int))->St:=λs=>[(9,A.val (Af s.1)),(8,A.val ((slr true 1 Af) (r6))),(7,A.val (Af (x7))),(6,A.val (Af (x6))),(5,A.val ((slr true 1 Af) s.2)),(2,A.val ((rP true (Ag false)) (a0))),(1,A.val ((slr false 1 Af) (p0)))]
def Zr (a0:SAlgebra) (p0:List Int) (x6:Int) (x7:Int) (_r6:List Int):(List Int)->Tgt
 | s=>((Ex.exit 4),[7,6,5,2,1],[(7,A.val (Af (x7))),(6,A.val (Af (x6))),(5,A.val ((slr true 1 Af) s)),(2,A.val ((rP true (Ag false)) (a0))),(1,A.val ((slr false 1 Af) (p0)))])
theorem Al3 {a0:SAlgebra} {p0:List Int} {x6:Int} {x7:Int} {r6:List Int} (s:(Int×(List Int))) (o:(Int×(List Int)) ⊕ (List Int)) (h:Cx a0 p0 x6 x7 r6 s=some o):vc Tryz.prog Aae (Cd [9,8,7,6,5,2,1] (Qy a0 p0 x6 x7 r6) (Zr a0 p0 x6 x7 r6) o) (Qy a0 p0 x6 x7 r6 s):=by
 obtain ⟨x9,x5''⟩:=s;unfold Cx at h;try dsimp only at h
 refine Len.map<|Br.od h (λp7 h=> ?_) (λp7 h=> ?_)
 ·refine CallQ.rd (slr true 1 Af) (by first | rfl | simp only [V.fz,Ab,slr] | simp [Aa,V.fz,fzL,V.up,upL,Ab,Ac,Ad,slr]) (λ_=>by simp [V.noFz,Ba]) h (λr h=>Pp h) (λr8 h=> ?_);refine Len.map<|Ask.o h λp9 h=>Cells.one (λ_=>⟨rfl,rfl⟩) (by first | omega | (simp [Ap] at * <;> omega))<|Len.map<|Ask.o h λp10 h=>Elem.o (by first | omega | (simp [Ap] at * <;> omega))<|Len.map<|Ask.o h λp11 h=>SetKids.one (λ_=>⟨rfl,rfl⟩) (nth p0 (nth r6 x9.toNat).toNat) (by rfl) (by first | omega | (simp [Ap] at * <;> omega))<|Cells.lit rfl rfl<|Len.map<|Ask.o h λp12 h=>Elem.o (by first | omega | (simp [Ap] at * <;> omega))<|Len.map<|Ask.o h λp13 h=>Elem.o (by first | omega | (simp [Ap] at * <;> omega))<|Cells.lit rfl rfl<|CallP.rd Af (by first | rfl | simp only [Aa,V.fz,fzL,V.up,Ab,Ad,slr] | simp [Aa,V.fz,fzL,V.up,upL,Ab,Ac,Ad,slr]) (λ_=>rfl) h (λr h=>Ar5 h) (λr14 h=> ?_)
  refine CallQ.rd (slr true 1 Af) (by first | rfl | simp only [V.fz,Ab,slr] | simp [Aa,V.fz,fzL,V.up,upL,Ab,Ac,Ad,slr]) (λ_=>by simp [V.noFz,Ba]) h (λr h=>Pm h) (λr15 h=> ?_);refine Ask.o h λp16 h=> ?_
  cases h;exact ⟨rfl,rfl⟩
 cases h;exact ⟨rfl,rfl⟩
noncomputable def Cy (a0:SAlgebra) (p0:List Int) (x6:Int):(Int×(List Int))->Option ((Int×(List Int)) ⊕ (List Int)):=λ(x7,x5')=>
 ask ((0:Int)<=x6/\x6<(↑a0.Ops.length:Int)) <|
 if x7<(↑(nth a0.Ops x6.toNat).Table.length:Int) then
 ask ((0:Int)<=x6/\x6<(↑a0.Ops.length:Int)) <|
 (H9 (a0.Size) ((nth a0.Ops x6.toNat).Arity) (x7)).bind λr6=>
 (Ak (Cx a0 p0 x6 x7 r6) ((0:Int),x5')).bind λq17_5=>
 ask (InI (x7+(1:Int))) <|
 some (.inl (x7+(1:Int),q17_5))
 else
 some (.inr x5')
def Qd (a0:SAlgebra) (p0:List Int) (x6:Int):(Int×(List Int))->St:=λs=>[(7,A.val (Af s.1)),(6,A.val (Af (x6))),(5,A.val ((slr true 1 Af) s.2)),(2,A.val ((rP true (Ag false)) (a0))),(1,A.val ((slr false 1 Af) (p0)))]
def Z5 (a0:SAlgebra) (p0:List Int) (x6:Int):(List Int)->Tgt
 | s=>((Ex.exit 2),[6,5,2,1],[(6,A.val (Af (x6))),(5,A.val ((slr true 1 Af) s)),(2,A.val ((rP true (Ag false)) (a0))),(1,A.val ((slr false 1 Af) (p0)))])
theorem Alv {a0:SAlgebra} {p0:List Int} {x6:Int} (s:(Int×(List Int))) (o:(Int×(List Int)) ⊕ (List Int)) (h:Cy a0 p0 x6 s=some o):vc Tryz.prog Zl (Cd [7,6,5,2,1] (Qd a0 p0 x6) (Z5 a0 p0 x6) o) (Qd a0 p0 x6 s):=by
 obtain ⟨x7,x5'⟩:=s;unfold Cy at h;try dsimp only at h
 refine Cells.lit rfl rfl<|Len.map<|Ask.o h λp3 h=>Elem.o (by first | omega | (simp [Ap] at * <;> omega))<|Len.map<|Br.od h (λp4 h=> ?_) (λp4 h=> ?_)
 ·refine Cells.lit rfl rfl<|Cells.lit rfl rfl<|Len.map<|Ask.o h λp5 h=>Elem.o (by first | omega | (simp [Ap] at * <;> omega))<|CallQ.o (slr true 1 Af) (by rfl) h (λr h=>Afj h) (λr6 h=> ?_)
  refine LoopQ.o [9,8,7,6,5,2,1] (Qy a0 p0 x6 x7 r6) (Zr a0 p0 x6 x7 r6) h (λs o h=>Al3 s o h) (by rfl) (λ_=>rfl) ?_;rintro q17_5 h;try dsimp only at h
  refine Ask.o h λp18 h=> ?_
  cases h;exact ⟨rfl,rfl⟩
 cases h;exact ⟨rfl,rfl⟩
noncomputable def Dr (a0:SAlgebra) (p0:List Int):(Int×(List Int))->Option ((Int×(List Int)) ⊕ (List Int)):=λ(x6,x5)=>
 if x6<(↑a0.Ops.length:Int) then
 (Ak (Cy a0 p0 x6) ((0:Int),x5)).bind λq19_5=>
 ask (InI (x6+(1:Int))) <|
 some (.inl (x6+(1:Int),q19_5))
 else
 some (.inr x5)
def Qf (a0:SAlgebra) (p0:List Int):(Int×(List Int))->St:=λs=>[(6,A.val (Af s.1)),(5,A.val ((slr true 1 Af) s.2)),(2,A.val ((rP true (Ag false)) (a0))),(1,A.val ((slr false 1 Af) (p0)))]
def Aac (_a0:SAlgebra) (_p0:List Int):(List Int)->Tgt
 | s=>((Ex.exit 0),[5],[(5,A.val ((slr true 1 Af) s))])
theorem Al5 {a0:SAlgebra} {p0:List Int} (s:(Int×(List Int))) (o:(Int×(List Int)) ⊕ (List Int)) (h:Dr a0 p0 s=some o):vc Tryz.prog Zv (Cd [6,5,2,1] (Qf a0 p0) (Aac a0 p0) o) (Qf a0 p0 s):=by
 obtain ⟨x6,x5⟩:=s;unfold Dr at h;try dsimp only at h
 refine Cells.lit rfl rfl<|Len.map<|Br.od h (λp2 h=> ?_) (λp2 h=> ?_)
 ·refine LoopQ.o [7,6,5,2,1] (Qd a0 p0 x6) (Z5 a0 p0 x6) h (λs o h=>Alv s o h) (by rfl) (λ_=>rfl) ?_;rintro q19_5 h;try dsimp only at h
  refine Ask.o h λp20 h=> ?_
  cases h;exact ⟨rfl,rfl⟩
 cases h;exact ⟨rfl,rfl⟩
noncomputable def Fj (a0:SAlgebra) (p0:(List Int)):Option (List Int):=
 (Em (p0)).bind λr1=>
 (Ak (Dr a0 p0) ((0:Int),r1)).bind λq21_5=>
 some q21_5
theorem Afl {a0:SAlgebra} {p0:(List Int)} {v:(List Int)} (h:Fj a0 p0=some v):Ret Tryz.prog Rk [(Ag false) a0,(slr false 1 Af) p0] ((slr true 1 Af) v):=by
 refine A4 As3 (Nat.le_of_ble_eq_true rfl) ?_;unfold Fj at h;refine CallQ.o (slr true 1 Af) (by rfl) h (λr h=>Pp h) (λr1 h=> ?_);refine LoopQ.o [6,5,2,1] (Qf a0 p0) (Aac a0 p0) h (λs o h=>Al5 s o h) (by rfl) (λ_=>rfl) ?_;rintro q21_5 h;try dsimp only at h
 cases h;exact (by rfl)
noncomputable def Ju (a0:SAlgebra) (b0:SAlgebra):Option Bool:=
 if a0.Size=b0.Size then
 (R1 (a0.Ops) (b0.Ops)).bind λr2=>
 some r2
 else
 some false
theorem Aof {a0:SAlgebra} {b0:SAlgebra} {v:Bool} (h:Ju a0 b0=some v):Ret Tryz.prog Ti [(Ag false) a0,(Ag false) b0] (V.bool v):=by
 refine A4 An3 (Nat.le_of_ble_eq_true rfl) ?_;unfold Ju at h;refine Cells.lit rfl rfl<|Cells.lit rfl rfl<|Br.oe h (λp1 h=> ?_) (λp1 h=> ?_)
 ·refine Br.yes<|Cells.lit rfl rfl<|Br.yes<|Br.yes<|Cells.lit rfl rfl<|Br.yes<|CallQ.o V.bool (by rfl) h (λr h=>A0j h) (λr2 h=> ?_)
  refine Br.yes ?_;cases h;exact (by rfl)
 refine Br.no<|Br.no<|Br.no<|Br.no<|Br.no ?_
 cases h;exact (by rfl)
end Go.Proofs.YtmkgjnphianalaaGreat.Ax
