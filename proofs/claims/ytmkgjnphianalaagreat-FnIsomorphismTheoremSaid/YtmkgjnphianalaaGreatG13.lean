/-
 What the functions compute, as functions on plain data, and that the program does compute it; written by program.
-/
import Derived.Test.YtmkgjnphianalaaGreatCode
import Derived.Test.YtmkgjnphianalaaGreatG1
import Derived.Test.YtmkgjnphianalaaGreatG2
import Derived.Test.YtmkgjnphianalaaGreatG5
import Derived.Test.YtmkgjnphianalaaGreatG8
import Derived.Test.YtmkgjnphianalaaGreatG11
import Derived.Test.YtmkgjnphianalaaGreatG12
namespace Go.Proofs.YtmkgjnphianalaaGreat.Ax
open Go
set_option maxRecDepth 100000
set_option maxHeartbeats 4000000
noncomputable def Bt (sub0:List Int) (p0:List Int):(Int×(List Int))->Option ((Int×(List Int)) ⊕ (List Int)):=λ(x9,x8)=>
 if x9<(↑sub0.length:Int) then
 ask ((0:Int)<=x9/\x9<(↑sub0.length:Int)) <|
 ask ((0:Int)<=nth sub0 x9.toNat/\nth sub0 x9.toNat<(↑p0.length:Int)) <|
 ask ((x8).length+([nth p0 (nth sub0 x9.toNat).toNat]).length<=LIM) <|
 ask (InI (x9+(1:Int))) <|
 some (.inl (x9+(1:Int),x8++[nth p0 (nth sub0 x9.toNat).toNat]))
 else
 some (.inr x8)
def F8 (sub0:List Int) (p0:List Int):(Int×(List Int))->St:=λs=>[(9,A.val (Af s.1)),(8,A.val ((slr true 1 Af) s.2)),(1,A.val ((slr false 1 Af) (sub0))),(2,A.val ((slr false 1 Af) (p0)))]
def Jl (_sub0:List Int) (_p0:List Int):(List Int)->Tgt
 | s=>((Ex.exit 0),[8],[(8,A.val ((slr true 1 Af) s))])
theorem Tc {sub0:List Int} {p0:List Int} (s:(Int×(List Int))) (o:(Int×(List Int)) ⊕ (List Int)) (h:Bt sub0 p0 s=some o):vc Tryz.prog Jr (Cd [9,8,1,2] (F8 sub0 p0) (Jl sub0 p0) o) (F8 sub0 p0 s):=by
 obtain ⟨x9,x8⟩:=s;unfold Bt at h;try dsimp only at h
 refine Len.map<|Br.od h (λp7 h=> ?_) (λp7 h=> ?_)
 ·refine Len.map<|Ask.o h λp8 h=>Elem.o (by first | omega | (simp [Ap] at * <;> omega))<|Len.map<|Ask.o h λp9 h=>Elem.o (by first | omega | (simp [Ap] at * <;> omega))<|BslQ.o Af ([nth p0 (nth sub0 x9.toNat).toNat]) (by exact λ_=>⟨rfl,rfl⟩) (by first | rfl | (simp only [Aa,V.fz,fzL,V.up,upL,Ab,Ac,Ad,slr,List.cons_append,List.nil_append];done) | simp [Aa,V.fz,fzL,V.up,upL,Ab,Ac,Ad,slr])<|NoOwn.o (λ_=>rfl)<|AppQ.o (m:=1) Af (by exact λ_=>⟨rfl,rfl⟩) (x8) ([nth p0 (nth sub0 x9.toNat).toNat]) (by rfl) (by rfl) h λh=>Ask.o h λp10 h=> ?_
  cases h;exact ⟨rfl,rfl⟩
 cases h;exact ⟨rfl,rfl⟩
noncomputable def Dt (a0:SAlgebra) (sub0:(List Int)) (p0:(List Int)):Option ((List Int)×Bool):=
 (((Gy (a0) (p0)).bind λr1=>
 if (r1)=true then
 if (↑sub0.length:Int)=(0:Int) then
 some (.inl ())
 else
 (I2 (a0) (sub0)).bind λr4=>
 if (r4)=true then
 some (.inr ())
 else
 some (.inl ())
 else
 some (.inl ()):Option (Unit ⊕ Unit))).bind λt=>match t with
 | (.inl _)=>(some (Aw Int,false))
 | (.inr _)=>((Ak (Bt sub0 p0) ((0:Int),Aw Int)).bind λq11_8=>
 (Jk (q11_8)).bind λr12=>
 some (r12,true))
theorem Wv {a0:SAlgebra} {sub0:(List Int)} {p0:(List Int)} {v:((List Int)×Bool)} (h:Dt a0 sub0 p0=some v):Ret Tryz.prog He [(Ag false) a0,(slr false 1 Af) sub0,(slr false 1 Af) p0] ((λr=>V.tup [(slr true 1 Af) r.1,V.bool r.2]) v):=by
 refine A4 Wt (Nat.le_of_ble_eq_true rfl) ?_;unfold Dt at h;refine CutQ.o (λt:(Unit ⊕ Unit)=>match t with | (.inl s)=>(Ex.ret,[7,6],[(7,A.val (V.bool (false))),(6,A.val ((slr true 1 Af) (Aw Int)))]) | (.inr s)=>(Ex.normal,[1,2],[(1,A.val ((slr false 1 Af) (sub0))),(2,A.val ((slr false 1 Af) (p0)))])) h ?_ ?_
 ·intro t h;refine Cells.lit rfl rfl<|CallQ.o V.bool (by rfl) h (λr h=>Wk h) (λr1 h=> ?_)
  refine Br.flip<|Br.ob h (λp2 h=> ?_) (λp2 h=> ?_)
  ·refine Br.no<|Len.map<|Br.no<|Br.no<|Br.oe h (λp3 h=> ?_) (λp3 h=> ?_)
   ·refine Br.yes<|Br.yes<|Br.yes<|Br.yes<|Br.yes<|BslQ.o Af (Aw Int) (by exact λ_=>⟨rfl,rfl⟩) (by first | rfl | (simp only [Aa,V.fz,fzL,V.up,upL,Ab,Ac,Ad,slr,List.cons_append,List.nil_append];done) | simp [Aa,V.fz,fzL,V.up,upL,Ab,Ac,Ad,slr]) ?_
    cases h;exact ⟨rfl,rfl⟩
   refine Cells.lit rfl rfl<|Br.no<|Br.no<|CallQ.o V.bool (by rfl) h (λr h=>Xu h) (λr4 h=> ?_)
   refine Br.no<|Br.no<|Br.flip<|Br.ob h (λp5 h=> ?_) (λp5 h=> ?_)
   ·cases h;exact ⟨rfl,rfl⟩
   refine BslQ.o Af (Aw Int) (by exact λ_=>⟨rfl,rfl⟩) (by first | rfl | (simp only [Aa,V.fz,fzL,V.up,upL,Ab,Ac,Ad,slr,List.cons_append,List.nil_append];done) | simp [Aa,V.fz,fzL,V.up,upL,Ab,Ac,Ad,slr]) ?_;cases h;exact ⟨rfl,rfl⟩
  refine Br.yes<|Br.yes<|Br.yes<|Br.yes<|Br.yes<|Br.yes<|Br.yes<|Br.yes<|Br.yes<|BslQ.o Af (Aw Int) (by exact λ_=>⟨rfl,rfl⟩) (by first | rfl | (simp only [Aa,V.fz,fzL,V.up,upL,Ab,Ac,Ad,slr,List.cons_append,List.nil_append];done) | simp [Aa,V.fz,fzL,V.up,upL,Ab,Ac,Ad,slr]) ?_
  cases h;exact ⟨rfl,rfl⟩
 rintro (⟨⟩ | ⟨⟩) h
 ·try dsimp only at h
  cases h;exact (by rfl)
 try dsimp only at h
 refine BslQ.o Af (Aw Int) (by exact λ_=>⟨rfl,rfl⟩) (by first | rfl | (simp only [Aa,V.fz,fzL,V.up,upL,Ab,Ac,Ad,slr,List.cons_append,List.nil_append];done) | simp [Aa,V.fz,fzL,V.up,upL,Ab,Ac,Ad,slr])<|LoopQ.o [9,8,1,2] (F8 sub0 p0) (Jl sub0 p0) h (λs o h=>Tc s o h) (by rfl) (λ_=>rfl) ?_
 rintro q11_8 h;try dsimp only at h
 refine CallQ.rd (slr true 1 Af) (by first | rfl | simp only [V.fz,Ab,slr] | simp [Aa,V.fz,fzL,V.up,upL,Ab,Ac,Ad,slr]) (λ_=>by simp [V.noFz,Ba]) h (λr h=>Ao9 h) (λr12 h=> ?_);cases h;exact (by rfl)
noncomputable def C3 (_a0:SAlgebra) (sub0:List Int) (p0:List Int) (x9:Int) (_x8:List Int):(Int×Bool)->Option ((Int×Bool) ⊕ Bool):=λ(x11,x10)=>
 if x11<(↑sub0.length:Int) then
 if (x10)=true then
 ask (InI (x11+(1:Int))) <|
 some (.inl (x11+(1:Int),true))
 else
 ask ((0:Int)<=x11/\x11<(↑sub0.length:Int)) <|
 ask ((0:Int)<=nth sub0 x11.toNat/\nth sub0 x11.toNat<(↑p0.length:Int)) <|
 ask ((0:Int)<=x9/\x9<(↑p0.length:Int)) <|
 ask (InI (x11+(1:Int))) <|
 some (.inl (x11+(1:Int),nth p0 (nth sub0 x11.toNat).toNat==nth p0 x9.toNat))
 else
 some (.inr x10)
def Kd (a0:SAlgebra) (sub0:List Int) (p0:List Int) (x9:Int) (x8:List Int):(Int×Bool)->St:=λs=>[(11,A.val (Af s.1)),(10,A.val (V.bool s.2)),(9,A.val (Af (x9))),(8,A.val ((slr true 1 Af) (x8))),(3,A.val ((rP true (Ag false)) (a0))),(1,A.val ((slr false 1 Af) (sub0))),(2,A.val ((slr false 1 Af) (p0)))]
def Pz (a0:SAlgebra) (sub0:List Int) (p0:List Int) (x9:Int) (x8:List Int):Bool->Tgt
 | s=>((Ex.exit 2),[10,9,8,3,1,2],[(10,A.val (V.bool s)),(9,A.val (Af (x9))),(8,A.val ((slr true 1 Af) (x8))),(3,A.val ((rP true (Ag false)) (a0))),(1,A.val ((slr false 1 Af) (sub0))),(2,A.val ((slr false 1 Af) (p0)))])
theorem Aci {a0:SAlgebra} {sub0:List Int} {p0:List Int} {x9:Int} {x8:List Int} (s:(Int×Bool)) (o:(Int×Bool) ⊕ Bool) (h:C3 a0 sub0 p0 x9 x8 s=some o):vc Tryz.prog P8 (Cd [11,10,9,8,3,1,2] (Kd a0 sub0 p0 x9 x8) (Pz a0 sub0 p0 x9 x8) o) (Kd a0 sub0 p0 x9 x8 s):=by
 obtain ⟨x11,x10⟩:=s;unfold C3 at h;try dsimp only at h
 refine Len.map<|Br.od h (λp7 h=> ?_) (λp7 h=> ?_)
 ·refine Br.ob h (λp8 h=> ?_) (λp8 h=> ?_)
  ·refine Br.yes<|Br.yes<|Br.yes<|Br.yes<|Br.yes<|Br.yes<|Br.yes<|Br.yes<|Br.yes<|Br.yes<|Br.yes<|Br.yes<|Ask.o h λp9 h=> ?_
   cases h;exact ⟨rfl,rfl⟩
  refine Br.no<|Br.no<|Br.no<|Len.map<|Ask.o h λp10 h=>Elem.o (by first | omega | (simp [Ap] at * <;> omega))<|Br.no<|Br.no<|Len.map<|Ask.o h λp11 h=>Elem.o (by first | omega | (simp [Ap] at * <;> omega))<|Br.no<|Br.no<|Br.no<|Br.no<|Len.map<|Ask.o h λp12 h=>Elem.o (by first | omega | (simp [Ap] at * <;> omega))<|Br.no<|Br.no<|Br.no<|Ask.o h λp13 h=> ?_
  cases h;exact ⟨rfl,rfl⟩
 cases h;exact ⟨rfl,rfl⟩
noncomputable def E5 (a0:SAlgebra) (sub0:List Int) (p0:List Int):(Int×(List Int))->Option ((Int×(List Int)) ⊕ (List Int)):=λ(x9,x8)=>
 if x9<a0.Size then
 (Ak (C3 a0 sub0 p0 x9 x8) ((0:Int),false)).bind λq14_10=>
 if (q14_10)=true then
 ask ((x8).length+([x9]).length<=LIM) <|
 ask (InI (x9+(1:Int))) <|
 some (.inl (x9+(1:Int),x8++[x9]))
 else
 ask (InI (x9+(1:Int))) <|
 some (.inl (x9+(1:Int),x8))
 else
 some (.inr x8)
def J6 (a0:SAlgebra) (sub0:List Int) (p0:List Int):(Int×(List Int))->St:=λs=>[(9,A.val (Af s.1)),(8,A.val ((slr true 1 Af) s.2)),(3,A.val ((rP true (Ag false)) (a0))),(1,A.val ((slr false 1 Af) (sub0))),(2,A.val ((slr false 1 Af) (p0)))]
def Px (_a0:SAlgebra) (_sub0:List Int) (_p0:List Int):(List Int)->Tgt
 | s=>((Ex.exit 0),[8],[(8,A.val ((slr true 1 Af) s))])
theorem Acm {a0:SAlgebra} {sub0:List Int} {p0:List Int} (s:(Int×(List Int))) (o:(Int×(List Int)) ⊕ (List Int)) (h:E5 a0 sub0 p0 s=some o):vc Tryz.prog P9 (Cd [9,8,3,1,2] (J6 a0 sub0 p0) (Px a0 sub0 p0) o) (J6 a0 sub0 p0 s):=by
 obtain ⟨x9,x8⟩:=s;unfold E5 at h;try dsimp only at h
 refine Cells.lit rfl rfl<|Br.od h (λp6 h=> ?_) (λp6 h=> ?_)
 ·refine LoopQ.o [11,10,9,8,3,1,2] (Kd a0 sub0 p0 x9 x8) (Pz a0 sub0 p0 x9 x8) h (λs o h=>Aci s o h) (by rfl) (λ_=>rfl) ?_;rintro q14_10 h;try dsimp only at h
  refine Br.ob h (λp15 h=> ?_) (λp15 h=> ?_)
  ·refine BslQ.o Af [x9] (by exact λ_=>⟨rfl,rfl⟩) (by first | rfl | (simp only [Aa,V.fz,fzL,V.up,upL,Ab,Ac,Ad,slr,List.cons_append,List.nil_append];done) | simp [Aa,V.fz,fzL,V.up,upL,Ab,Ac,Ad,slr])<|NoOwn.o (λ_=>rfl)<|AppQ.o (m:=1) Af (by exact λ_=>⟨rfl,rfl⟩) (x8) ([x9]) (by rfl) (by rfl) h λh=>Ask.o h λp16 h=> ?_
   cases h;exact ⟨rfl,rfl⟩
  refine Ask.o h λp17 h=> ?_
  cases h;exact ⟨rfl,rfl⟩
 cases h;exact ⟨rfl,rfl⟩
noncomputable def Gw (a0:SAlgebra) (sub0:(List Int)) (p0:(List Int)):Option ((List Int)×Bool):=
 (((Gy (a0) (p0)).bind λr1=>
 if (r1)=true then
 (I2 (a0) (sub0)).bind λr3=>
 if (r3)=true then
 some (.inl ())
 else
 some (.inr ())
 else
 some (.inr ()):Option (Unit ⊕ Unit))).bind λt=>match t with
 | (.inl _)=>((Ak (E5 a0 sub0 p0) ((0:Int),Aw Int)).bind λq18_8=>
 some (q18_8,true))
 | (.inr _)=>(some (Aw Int,false))
theorem Afy {a0:SAlgebra} {sub0:(List Int)} {p0:(List Int)} {v:((List Int)×Bool)} (h:Gw a0 sub0 p0=some v):Ret Tryz.prog Nk [(Ag false) a0,(slr false 1 Af) sub0,(slr false 1 Af) p0] ((λr=>V.tup [(slr true 1 Af) r.1,V.bool r.2]) v):=by
 refine A4 Ag2 (Nat.le_of_ble_eq_true rfl) ?_;unfold Gw at h;refine BslQ.o Af (Aw Int) (by exact λ_=>⟨rfl,rfl⟩) (by first | rfl | (simp only [Aa,V.fz,fzL,V.up,upL,Ab,Ac,Ad,slr,List.cons_append,List.nil_append];done) | simp [Aa,V.fz,fzL,V.up,upL,Ab,Ac,Ad,slr])<|CutQ.o (λt:(Unit ⊕ Unit)=>match t with | (.inl s)=>(Ex.normal,[8,3,1,2],[(8,A.val ((slr true 1 Af) (Aw Int))),(3,A.val ((rP true (Ag false)) (a0))),(1,A.val ((slr false 1 Af) (sub0))),(2,A.val ((slr false 1 Af) (p0)))]) | (.inr s)=>(Ex.ret,[7,6],[(7,A.val (V.bool (false))),(6,A.val ((slr true 1 Af) (Aw Int)))])) h ?_ ?_
 ·intro t h;refine Cells.lit rfl rfl<|CallQ.o V.bool (by rfl) h (λr h=>Wk h) (λr1 h=> ?_)
  refine Br.flip<|Br.ob h (λp2 h=> ?_) (λp2 h=> ?_)
  ·refine Cells.lit rfl rfl<|Br.no<|Br.no<|CallQ.o V.bool (by rfl) h (λr h=>Xu h) (λr3 h=> ?_)
   refine Br.no<|Br.no<|Br.flip<|Br.ob h (λp4 h=> ?_) (λp4 h=> ?_)
   ·cases h;exact ⟨rfl,rfl⟩
   cases h;exact ⟨rfl,rfl⟩
  refine Br.yes<|Br.yes<|Br.yes<|Br.yes<|Br.yes ?_
  cases h;exact ⟨rfl,rfl⟩
 rintro (⟨⟩ | ⟨⟩) h
 ·try dsimp only at h
  refine LoopQ.o [9,8,3,1,2] (J6 a0 sub0 p0) (Px a0 sub0 p0) h (λs o h=>Acm s o h) (by rfl) (λ_=>rfl) ?_;rintro q18_8 h;try dsimp only at h
  cases h;exact (by rfl)
 try dsimp only at h
 cases h;exact (by rfl)
noncomputable def D3 (sub0:List Int) (r6:List Int):(Int×(List Int))->Option ((Int×(List Int)) ⊕ (List Int)):=λ(x10,x8)=>
 if x10<(↑sub0.length:Int) then
 ask ((0:Int)<=x10/\x10<(↑sub0.length:Int)) <|
 ask ((0:Int)<=nth sub0 x10.toNat/\nth sub0 x10.toNat<(↑r6.length:Int)) <|
 (Pg (x8) (nth r6 (nth sub0 x10.toNat).toNat)).bind λr10=>
 ask (InI (x10+(1:Int))) <|
 some (.inl (x10+(1:Int),r10))
 else
 some (.inr x8)
def Nn (sub0:List Int) (r6:List Int):(Int×(List Int))->St:=λs=>[(10,A.val (Af s.1)),(9,A.val ((slr true 1 Af) (r6))),(8,A.val ((slr false 1 Af) s.2)),(1,A.val ((slr false 1 Af) (sub0)))]
def Vm (_sub0:List Int) (_r6:List Int):(List Int)->Tgt
 | s=>((Ex.exit 0),[8],[(8,A.val ((slr false 1 Af) s))])
theorem Agy {sub0:List Int} {r6:List Int} (s:(Int×(List Int))) (o:(Int×(List Int)) ⊕ (List Int)) (h:D3 sub0 r6 s=some o):vc Tryz.prog Vd (Cd [10,9,8,1] (Nn sub0 r6) (Vm sub0 r6) o) (Nn sub0 r6 s):=by
 obtain ⟨x10,x8⟩:=s;unfold D3 at h;try dsimp only at h
 refine Len.map<|Br.od h (λp7 h=> ?_) (λp7 h=> ?_)
 ·refine Len.map<|Ask.o h λp8 h=>Elem.o (by first | omega | (simp [Ap] at * <;> omega))<|Len.map<|Ask.o h λp9 h=>Cells.one (λ_=>⟨rfl,rfl⟩) (by first | omega | (simp [Ap] at * <;> omega))<|CallQ.o (slr false 1 Af) (by rfl) h (λr h=>Aw8 h) (λr10 h=> ?_)
  refine Ask.o h λp11 h=> ?_
  cases h;exact ⟨rfl,rfl⟩
 cases h;exact ⟨rfl,rfl⟩
noncomputable def Jh (a0:SAlgebra) (sub0:(List Int)) (p0:(List Int)):Option ((List Int)×Bool):=
 (((Gy (a0) (p0)).bind λr1=>
 if (r1)=true then
 (I2 (a0) (sub0)).bind λr3=>
 if (r3)=true then
 some (.inl ())
 else
 some (.inr ())
 else
 some (.inr ()):Option (Unit ⊕ Unit))).bind λt=>match t with
 | (.inl _)=>((O4 (p0)).bind λr6=>
 (Ak (D3 sub0 r6) ((0:Int),Aw Int)).bind λq12_8=>
 some (q12_8,true))
 | (.inr _)=>(some (Aw Int,false))
theorem Anf {a0:SAlgebra} {sub0:(List Int)} {p0:(List Int)} {v:((List Int)×Bool)} (h:Jh a0 sub0 p0=some v):Ret Tryz.prog Tj [(Ag false) a0,(slr false 1 Af) sub0,(slr false 1 Af) p0] ((λr=>V.tup [(slr false 1 Af) r.1,V.bool r.2]) v):=by
 refine Adw An5 (Nat.le_of_ble_eq_true rfl) ?_;unfold Jh at h;refine BslQ.o Af (Aw Int) (by exact λ_=>⟨rfl,rfl⟩) (by first | rfl | (simp only [Aa,V.fz,fzL,V.up,upL,Ab,Ac,Ad,slr,List.cons_append,List.nil_append];done) | simp [Aa,V.fz,fzL,V.up,upL,Ab,Ac,Ad,slr])<|FrzQ.d (V.sl false (1:Nat) (List.map Af (Aw Int))) (by first | (simp only [Av,Ac];done) | (simp [Av,V.fz,Ab,Ac,slr];done) | (simp [Av,V.fz,fzL,Ab,slr];done))<|CutQ.o (λt:(Unit ⊕ Unit)=>match t with | (.inl s)=>(Ex.normal,[8,1,2],[(8,A.val ((slr false 1 Af) (Aw Int))),(1,A.val ((slr false 1 Af) (sub0))),(2,A.val ((slr false 1 Af) (p0)))]) | (.inr s)=>(Ex.ret,[7,6],[(7,A.val (V.bool (false))),(6,A.val ((slr false 1 Af) (Aw Int)))])) h ?_ ?_
 ·intro t h;refine Cells.lit rfl rfl<|CallQ.o V.bool (by rfl) h (λr h=>Wk h) (λr1 h=> ?_)
  refine Br.flip<|Br.ob h (λp2 h=> ?_) (λp2 h=> ?_)
  ·refine Cells.lit rfl rfl<|Br.no<|Br.no<|CallQ.o V.bool (by rfl) h (λr h=>Xu h) (λr3 h=> ?_)
   refine Br.no<|Br.no<|Br.flip<|Br.ob h (λp4 h=> ?_) (λp4 h=> ?_)
   ·cases h;exact ⟨rfl,rfl⟩
   cases h;exact ⟨rfl,rfl⟩
  refine Br.yes<|Br.yes<|Br.yes<|Br.yes<|Br.yes ?_
  cases h;exact ⟨rfl,rfl⟩
 rintro (⟨⟩ | ⟨⟩) h
 ·try dsimp only at h
  refine CallQ.o (slr true 1 Af) (by rfl) h (λr h=>Ayl h) (λr6 h=> ?_);refine LoopQ.o [10,9,8,1] (Nn sub0 r6) (Vm sub0 r6) h (λs o h=>Agy s o h) (by rfl) (λ_=>rfl) ?_;rintro q12_8 h;try dsimp only at h
  cases h;exact (by rfl)
 try dsimp only at h
 cases h;exact (by rfl)
noncomputable def Jt (a0:SAlgebra) (b0:SAlgebra):Option Bool:=
 (C0 (a0)).bind λr1=>
 if (r1)=true then
 (C0 (b0)).bind λr3=>
 if (r3)=true then
 (Uk (a0) (b0)).bind λr5=>
 some r5
 else
 some false
 else
 some false
theorem An7 {a0:SAlgebra} {b0:SAlgebra} {v:Bool} (h:Jt a0 b0=some v):Ret Tryz.prog Tm [(Ag false) a0,(Ag false) b0] (V.bool v):=by
 refine A4 Ao6 (Nat.le_of_ble_eq_true rfl) ?_;unfold Jt at h;refine Cells.lit rfl rfl<|CallQ.o V.bool (by rfl) h (λr h=>Gn h) (λr1 h=> ?_)
 refine Br.ob h (λp2 h=> ?_) (λp2 h=> ?_)
 ·refine Cells.lit rfl rfl<|Br.yes<|CallQ.o V.bool (by rfl) h (λr h=>Gn h) (λr3 h=> ?_)
  refine Br.yes<|Br.ob h (λp4 h=> ?_) (λp4 h=> ?_)
  ·refine Cells.lit rfl rfl<|Br.yes<|Cells.lit rfl rfl<|Br.yes<|CallQ.o V.bool (by rfl) h (λr h=>Awo h) (λr5 h=> ?_)
   refine Br.yes ?_;cases h;exact (by rfl)
  refine Br.no<|Br.no<|Br.no ?_
  cases h;exact (by rfl)
 refine Br.no<|Br.no<|Br.no<|Br.no<|Br.no<|Br.no ?_
 cases h;exact (by rfl)
noncomputable def Ji (a0:SAlgebra) (b0:SAlgebra) (embed0:Bool) (_good0:(Unit)):Option ((Option (List Int))×Bool):=
 (F2 (a0) (b0) (embed0) (Sum.inr ((),none))).bind λt=>match t with
 | (r1,(.inr (_u2_0,none)))=>(some (none,r1))
 | (r1,(.inr (_u2_0,some u2_1)))=>(some (some u2_1,r1))
 | _=>(none)
theorem An0 {a0:SAlgebra} {b0:SAlgebra} {embed0:Bool} {good0:(Unit)} {v:((Option (List Int))×Bool)} (h:Ji a0 b0 embed0 good0=some v):Ret Tryz.prog Tb [(Ag false) a0,(Ag false) b0,V.bool embed0,Ep good0] ((λr=>V.tup [(rOl 1 Af) r.1,V.bool r.2]) v):=by
 refine Adw And (Nat.le_of_ble_eq_true rfl) ?_;unfold Ji at h;conv=>whnf
 refine FrzQ.d ((rP false Ep) ()) ((Av _).trans (Eq.trans (b:=V.fz ((rP true Ep) ())) rfl (Ad (rP true Ep) _))) ?_;conv=>whnf
 refine Cells.lit rfl rfl ?_;conv=>whnf
 refine Cells.lit rfl rfl ?_;conv=>whnf
 refine LendQ.ioc (j:=1) 3 V.bool Cg (λtv=>(by rfl)) rfl rfl (λ_=>rfl) rfl h (λr h tv=>Ajz h) (λr1 u2 h=> ?_);rcases u2 with u2 | u2
 ·cases h
 rcases u2 with ⟨u2_0,(_ | u2_1)⟩
 ·try dsimp only at h
  refine ⟨_,_,λ_=>rfl,rfl,⟨by first | rfl | simp [Db,rP,slr,V.noFz,Bo,Ba,NoFz.eq],rfl⟩,?_⟩;conv=>whnf
  refine Cells.lit rfl rfl ?_;conv=>whnf
  cases h;exact (by rfl)
 try dsimp only at h
 refine ⟨_,_,λ_=>rfl,rfl,⟨by first | rfl | simp [Db,rP,slr,V.noFz,Bo,Ba,NoFz.eq],rfl⟩,?_⟩;conv=>whnf
 refine Cells.lit rfl rfl ?_;conv=>whnf
 cases h;exact (by first | rfl | simp only [Ah,V.fz,fzL,V.up,Ab] | simp [Ah,Aa,V.fz,fzL,V.up,upL,Ab,Ac,Ad,slr])
noncomputable def Hw (c0:Sl1Cur) (a0:SAlgebra):Option ((List Int)×Sl1Cur):=
 (H5 (a0)).bind λr1=>
 if (r1)=true then
 (Ph (a0)).bind λr3=>
 (A9 (c0) ((↑r3.length:Int))).bind λ(r4,u5)=>
 ask ((0:Int)<=r4/\r4<(↑r3.length:Int)) <|
 (Em (nth r3 r4.toNat)).bind λr7=>
 (A9 (u5) ((16:Int))).bind λ(r8,u9)=>
 if r8=(0:Int) then
 ask (InI (a0.Size-(1:Int))) <|
 (Bv (u9) ([(0:Int),a0.Size-(1:Int),a0.Size])).bind λ(r12,u13)=>
 ask ((r7).length+([r12]).length<=LIM) <|
 some (r7++[r12],u13)
 else
 if r8=(1:Int) then
 if (↑r7.length:Int)>(0:Int) then
 ask (0<=(1:Int)/\(1:Int)<=(↑r7.length:Int)/\(↑r7.length:Int)<=((r7.length:Nat):Int)) <|
 some (List.take ((↑r7.length:Int).toNat-Int.toNat (1:Int)) (List.drop (Int.toNat (1:Int)) r7),u9)
 else
 some (r7,u9)
 else
 some (r7,u9)
 else
 some ([(0:Int)],c0)
theorem Aka {c0:Sl1Cur} {a0:SAlgebra} {v:((List Int)×Sl1Cur)} (h:Hw c0 a0=some v):J7 Tryz.prog Pa [(rP true (Al false)) c0,(Ag false) a0] ((slr false 1 Af) v.1) 0 ((rP true (Al false)) v.2):=by
 refine A5l Ajj (Nat.le_of_ble_eq_true rfl) ?_;unfold Hw at h;refine Cells.lit rfl rfl<|CallQ.o V.bool (by rfl) h (λr h=>X3 h) (λr1 h=> ?_)
 refine Br.flip<|Br.ob h (λp2 h=> ?_) (λp2 h=> ?_)
 ·refine Cells.lit rfl rfl<|CallQ.o (slr true 1 (slr false 1 Af)) (by rfl) h (λr h=>Axb h) (λr3 h=> ?_)
  refine Len.map<|CallQ.io Af (rP true (Al false)) (by rfl) rfl (λ_=>rfl) (λ_=>⟨rfl,rfl⟩) rfl h (λr h=>Bd h) (λr4 u5 h=> ?_)
  refine Len.map<|Ask.o h λp6 h=>Cells.one (λ_=>⟨rfl,rfl⟩) (by first | omega | (simp [Ap] at * <;> omega))<|CallQ.o (slr true 1 Af) (by rfl) h (λr h=>Pp h) (λr7 h=> ?_)
  refine CallQ.io Af (rP true (Al false)) (by rfl) rfl (λ_=>rfl) (λ_=>⟨rfl,rfl⟩) rfl h (λr h=>Bd h) (λr8 u9 h=> ?_);refine Br.oe h (λp10 h=> ?_) (λp10 h=> ?_)
  ·refine Cells.lit rfl rfl<|Ask.o h λp11 h=>Cells.lit rfl rfl<|BslQ.o Af ([(0:Int),a0.Size-(1:Int),a0.Size]) (by exact λ_=>⟨rfl,rfl⟩) (by first | rfl | (simp only [Aa,V.fz,fzL,V.up,upL,Ab,Ac,Ad,slr,List.cons_append,List.nil_append];done) | simp [Aa,V.fz,fzL,V.up,upL,Ab,Ac,Ad,slr])<|CallQ.io Af (rP true (Al false)) (by first | rfl | (simp only [Aa,Av,V.fz,fzL,Ab,Ac,slr];done) | simp [Aa,Av,V.fz,fzL,V.up,upL,Ab,Ac,Ad,slr]) rfl (λ_=>rfl) (λ_=>⟨rfl,rfl⟩) rfl h (λr h=>Cf h) (λr12 u13 h=> ?_)
   refine BslQ.o Af [r12] (by exact λ_=>⟨rfl,rfl⟩) (by first | rfl | (simp only [Aa,V.fz,fzL,V.up,upL,Ab,Ac,Ad,slr,List.cons_append,List.nil_append];done) | simp [Aa,V.fz,fzL,V.up,upL,Ab,Ac,Ad,slr])<|NoOwn.o (λ_=>rfl)<|AppQ.o (m:=1) Af (by exact λ_=>⟨rfl,rfl⟩) (r7) ([r12]) (by rfl) (by rfl) h λh=> ?_
   cases h;exact ⟨(by first | rfl | simp only [Ah,Ac,slr] | simp [Ah,Aa,V.fz,fzL,V.up,upL,Ab,Ac,Ad,slr]),(by rfl)⟩
  refine Br.oe h (λp14 h=> ?_) (λp14 h=> ?_)
  ·refine Len.map<|Br.od h (λp15 h=> ?_) (λp15 h=> ?_)
   ·refine FrzQ.d (V.sl false (1:Nat) (List.map Af r7)) (by first | (simp only [slr];done) | (simp [Av,V.fz,Ab,slr];done) | (simp [Av,V.fz,fzL,Ab,slr];done))<|Len.map<|SlcQ.o Af h λh=> ?_
    cases h;exact ⟨(by rfl),(by rfl)⟩
   cases h;exact ⟨(by first | rfl | simp only [Ah,Ac,slr] | simp [Ah,Aa,V.fz,fzL,V.up,upL,Ab,Ac,Ad,slr]),(by rfl)⟩
  cases h;exact ⟨(by first | rfl | simp only [Ah,Ac,slr] | simp [Ah,Aa,V.fz,fzL,V.up,upL,Ab,Ac,Ad,slr]),(by rfl)⟩
 refine BslQ.o Af ([(0:Int)]) (by exact λ_=>⟨rfl,rfl⟩) (by first | rfl | (simp only [Aa,V.fz,fzL,V.up,upL,Ab,Ac,Ad,slr,List.cons_append,List.nil_append];done) | simp [Aa,V.fz,fzL,V.up,upL,Ab,Ac,Ad,slr]) ?_;cases h;exact ⟨(by rfl),(by rfl)⟩
end Go.Proofs.YtmkgjnphianalaaGreat.Ax
