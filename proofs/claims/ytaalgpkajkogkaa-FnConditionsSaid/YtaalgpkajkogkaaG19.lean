/-
 What the functions compute, as functions on plain data, and that the program does compute it; written by program.
-/
import Derived.Test.YtaalgpkajkogkaaCode
import Derived.Test.YtaalgpkajkogkaaG1
import Derived.Test.YtaalgpkajkogkaaG7
import Derived.Test.YtaalgpkajkogkaaG8
import Derived.Test.YtaalgpkajkogkaaG11
import Derived.Test.YtaalgpkajkogkaaG13
namespace Go.Proofs.Ytaalgpkajkogkaa.Ax
open Go
set_option maxRecDepth 100000
set_option maxHeartbeats 4000000
noncomputable def Dv (a0:SAlgebra) (_c0:SCondition) (steps0:List SCloneStep) (r5:List (List Int)):(Int×(List (List Int)))->Option ((Int×(List (List Int))) ⊕ (Unit ⊕ (List (List Int)))):=λ(x10,x9)=>
 if x10<(↑steps0.length:Int) then
 ask ((0:Int)<=x10/\x10<(↑steps0.length:Int)) <|
 (Lk (a0) (r5) (x9) (nth steps0 x10.toNat)).bind λ(r8,u9)=>
 if (r8.snd)=true then
 ask ((u9).length+([r8.fst]).length<=LIM) <|
 ask (InI (x10+(1:Int))) <|
 some (.inl (x10+(1:Int),u9++[r8.fst]))
 else
 some (.inr (.inl ()))
 else
 some (.inr (.inr x9))
def N5 (a0:SAlgebra) (c0:SCondition) (steps0:List SCloneStep) (r5:List (List Int)):(Int×(List (List Int)))->St:=λs=>[(8,A.val (slr false 1 (slr false 1 Ae) r5)),(10,A.val (Ae s.1)),(9,A.val (slr true 1 (slr false 1 Ae) s.2)),(4,A.val (rP true (Ah false) c0)),(3,A.val (rP true (Aj false) a0)),(2,A.val (slr false 2 (Af false) steps0))]
def Uv (a0:SAlgebra) (c0:SCondition) (_steps0:List SCloneStep) (_r5:List (List Int)):(Unit ⊕ (List (List Int)))->Tgt
 | (.inl _s)=>(Ex.ret,[7,6],[(7,A.val (V.bool true)),(6,A.val (V.bool false))])
 | (.inr s)=>((Ex.exit 0),[9,4,3],[(9,A.val (slr true 1 (slr false 1 Ae) s)),(4,A.val (rP true (Ah false) c0)),(3,A.val (rP true (Aj false) a0))])
theorem Ag2 {a0} {c0} {steps0} {r5} (s) o (h:Dv a0 c0 steps0 r5 s=some o):vc Try.prog Vd (Ch [8,10,9,4,3,2] (N5 a0 c0 steps0 r5) (Uv a0 c0 steps0 r5) o) (N5 a0 c0 steps0 r5 s):=by
 obtain ⟨x10,x9⟩:=s;unfold Dv at h;try dsimp only at h
 refine Len.map<|Br.od h (λp6 h=> ?_) (λp6 h=> ?_)
 ·refine Cells.lit rfl rfl<|Len.map<|Ask.o h λp7 h=>Elem.o (by first | omega | (simp [Au] at * <;> omega))<|LendP.io (λr=>V.tup [(slr false 1 Ae) r.1,V.bool r.2]) (slr true 1 (slr false 1 Ae)) (by rfl) (λ_=>rfl) (λ_=>⟨rfl,rfl⟩) (λ_=>rfl) h (λr h=>Apw h) (λr8 u9 h=> ?_)
  refine Br.flip<|Br.ob h (λp10 h=> ?_) (λp10 h=> ?_)
  ·refine BslQ.o (slr false 1 Ae) [r8.fst] (by exact λ_=>⟨rfl,rfl⟩) (by rfl)<|NoOwn.o (λ_=>rfl)<|AppQ.o (m:=1) (slr false 1 Ae) (by exact λ_=>⟨rfl,rfl⟩) (u9) ([r8.fst]) (by rfl) (by rfl) h λh=>Ask.o h λp11 h=> ?_
   cases h;exact ⟨rfl,rfl⟩
  cases h;exact ⟨rfl,rfl⟩
 cases h;exact ⟨rfl,rfl⟩
noncomputable def G1 (a0:SAlgebra) (c0:SCondition) (steps0:(List SCloneStep)):Option (Bool×Bool):=
 (Er (a0) (c0)).bind λr1=>
 if (r1)=true then
 (Dx ((↑steps0.length:Int)) ((1:Int)) ((150:Int))).bind λr3=>
 if (r3)=true then
 (Eu (a0.Size) (c0)).bind λr5=>
 (Aq (Dv a0 c0 steps0 r5) ((0:Int),Av (List Int))).bind λt=>match t with
 | (.inl _)=>(some (false,true))
 | (.inr q12_9)=>(ask (InI ((↑q12_9.length:Int)-(1:Int))) <|
 ask ((0:Int)<=(↑q12_9.length:Int)-(1:Int)/\(↑q12_9.length:Int)-(1:Int)<(↑q12_9.length:Int)) <|
 (D0 (c0)).bind λr15=>
 (Fr (a0.Size) (nth q12_9 ((↑q12_9.length:Int)-(1:Int)).toNat) (c0) (r15)).bind λr16=>
 some (r16,true))
 else
 some (false,true)
 else
 some (false,false)
theorem Ama {a0} {c0} {steps0} {v} (h:G1 a0 c0 steps0=some v):Ret Try.prog S5 [(Aj false) a0,(Ah false) c0,(slr false 2 (Af false)) steps0] ((λr=>V.tup [V.bool r.1,V.bool r.2]) v):=by
 refine Bn Ana (Nat.le_of_ble_eq_true rfl) ?_;unfold G1 at h;refine Cells.lit rfl rfl<|Cells.lit rfl rfl<|CallQ.o V.bool (by rfl) h (λr h=>Ix h) (λr1 h=> ?_)
 refine Br.flip<|Br.ob h (λp2 h=> ?_) (λp2 h=> ?_)
 ·refine Len.map<|CallQ.o V.bool (by rfl) h (λr h=>Hc h) (λr3 h=> ?_)
  refine Br.flip<|Br.ob h (λp4 h=> ?_) (λp4 h=> ?_)
  ·refine Cells.lit rfl rfl<|Cells.lit rfl rfl<|CallQ.o (slr true 1 (slr true 1 Ae)) (by rfl) h (λr h=>Tc h) (λr5 h=> ?_)
   refine BslQ.o (slr true 1 Ae) (Av (List Int)) (by exact λ_=>⟨rfl,rfl⟩) (by rfl)<|FrzQ.d (V.sl false (1:Nat) (List.map (slr false (1:Nat) Ae) r5)) (by first | (simp only [slr];done) | exact (Ak _).trans (Eq.trans (b:=V.fz (V.sl true (1:Nat) (List.map (slr true (1:Nat) Ae) r5))) rfl (Ac _ _ _)) | (simp [Ak,V.fz,Ab,Ac,slr];done) | (simp [Ak,V.fz,fzL,Ab,slr];done))<|LoopQ.o [8,10,9,4,3,2] (N5 a0 c0 steps0 r5) (Uv a0 c0 steps0 r5) h (λs o h=>Ag2 s o h) (by rfl) (by rintro (_ | _)<;>rfl) ?_
   rintro (⟨⟩ | q12_9) h
   ·try dsimp only at h
    cases h;exact (by rfl)
   try dsimp only at h
   refine Cells.lit rfl rfl<|Len.map<|Ask.o h λp13 h=>Len.map<|Ask.o h λp14 h=>Cells.one (λ_=>⟨rfl,rfl⟩) (by first | omega | (simp [Au] at * <;> omega))<|Cells.lit rfl rfl<|Cells.lit rfl rfl<|CallP.o (slr true 1 (slr true 1 Ae)) (by rfl) h (λr h=>J8 h) (λr15 h=> ?_)
   refine CallQ.rd V.bool (by first | rfl | simp only [Aa,V.fz,fzL,Ab,slr] | simp [Aa,V.fz,fzL,V.up,upL,Ab,Ac,Ad,slr]) (λ_=>rfl) h (λr h=>Td h) (λr16 h=> ?_);cases h;exact (by rfl)
  cases h;exact (by rfl)
 cases h;exact (by rfl)
end Go.Proofs.Ytaalgpkajkogkaa.Ax
