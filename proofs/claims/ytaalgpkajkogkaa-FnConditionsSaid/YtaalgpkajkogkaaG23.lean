/-
 What the functions compute, as functions on plain data, and that the program does compute it; written by program.
-/
import Derived.Test.YtaalgpkajkogkaaCode
import Derived.Test.YtaalgpkajkogkaaG10
import Derived.Test.YtaalgpkajkogkaaG13
import Derived.Test.YtaalgpkajkogkaaG17
import Derived.Test.YtaalgpkajkogkaaG21
import Derived.Test.YtaalgpkajkogkaaG22
namespace Go.Proofs.Ytaalgpkajkogkaa.Ax
open Go
set_option maxRecDepth 100000
set_option maxHeartbeats 4000000
noncomputable def C5 (first0:List (List Int)):(Int×SrowSearch)->Option ((Int×SrowSearch) ⊕ (SrowSearch ⊕ SrowSearch)):=λ(x19,x7)=>
 if x19<(↑first0.length:Int) then
 ask ((0:Int)<=x19/\x19<(↑first0.length:Int)) <|
 (Cj (x7) (nth first0 x19.toNat) ((-1:Int)) ([x19])).bind λ(r3,u4)=>
 if (r3)=true then
 ask (InI (x19+(1:Int))) <|
 some (.inl (x19+(1:Int),u4))
 else
 some (.inr (.inl u4))
 else
 some (.inr (.inr x7))
def Ln (first0:List (List Int)):(Int×SrowSearch)->St:=λs=>[(19,A.val (Ae s.1)),(18,A.val (Ae ((↑first0.length:Int)))),(17,A.val (slr false 1 (slr false 1 Ae) first0)),(7,A.val (rP true Bf s.2))]
def Sv (_first0:List (List Int)):(SrowSearch ⊕ SrowSearch)->Tgt
 | (.inl s)=>(Ex.ret,[6],[(6,A.val (rP true Bf s))])
 | (.inr s)=>((Ex.exit 0),[7],[(7,A.val (rP true Bf s))])
theorem Abw {first0} (s) o (h:C5 first0 s=some o):vc Try.prog Si (Ch [19,18,17,7] (Ln first0) (Sv first0) o) (Ln first0 s):=by
 obtain ⟨x19,x7⟩:=s;unfold C5 at h;try dsimp only at h
 refine Br.od h (λp1 h=> ?_) (λp1 h=> ?_)
 ·refine Len.map<|Ask.o h λp2 h=>Elem.o (by first | omega | (simp [Au] at * <;> omega))<|BslQ.o Ae [x19] (by exact λ_=>⟨rfl,rfl⟩) (by rfl)<|CallQ.io V.bool (rP true (Bf)) (by rfl) rfl (λ_=>rfl) (λ_=>⟨rfl,rfl⟩) rfl h (λr h=>Sg h) (λr3 u4 h=> ?_)
  refine Br.flip<|Br.ob h (λp5 h=> ?_) (λp5 h=> ?_)
  ·refine Ask.o h λp6 h=> ?_
   cases h;exact ⟨rfl,rfl⟩
  cases h;exact ⟨rfl,rfl⟩
 cases h;exact ⟨rfl,rfl⟩
noncomputable def C3:(Int×SrowSearch)->Option ((Int×SrowSearch) ⊕ (SrowSearch ⊕ SrowSearch)):=λ(x10,x7)=>
 if x10<(↑x7.rows.length:Int) then
 (Fj (x7) (x10) ((↑x7.rows.length:Int))).bind λ(r9,u10)=>
 if (r9)=true then
 some (.inl ((↑x7.rows.length:Int),u10))
 else
 some (.inr (.inl u10))
 else
 some (.inr (.inr x7))
def L4:(Int×SrowSearch)->St:=λs=>[(10,A.val (Ae s.1)),(7,A.val (rP true Bf s.2))]
def Sf:(SrowSearch ⊕ SrowSearch)->Tgt
 | (.inl s)=>(Ex.ret,[6],[(6,A.val (rP true Bf s))])
 | (.inr s)=>((Ex.exit 2),[7],[(7,A.val (rP true Bf s))])
theorem Ab5 s o (h:C3 s=some o):vc Try.prog Su (Ch [10,7] (L4) Sf o) (L4 s):=by
 obtain ⟨x10,x7⟩:=s;unfold C3 at h;try dsimp only at h
 refine Cells.lit rfl rfl<|Kid.lit rfl rfl<|Len.map<|Br.od h (λp8 h=> ?_) (λp8 h=> ?_)
 ·refine Cells.lit rfl rfl<|Kid.lit rfl rfl<|Len.map<|CallQ.io V.bool (rP true (Bf)) (by rfl) rfl (λ_=>rfl) (λ_=>⟨rfl,rfl⟩) rfl h (λr h=>Z3 h) (λr9 u10 h=> ?_)
  refine Br.flip<|Br.ob h (λp11 h=> ?_) (λp11 h=> ?_)
  ·cases h;exact ⟨rfl,rfl⟩
  cases h;exact ⟨rfl,rfl⟩
 cases h;exact ⟨rfl,rfl⟩
noncomputable def K4 (a0:SAlgebra) (first0:(List (List Int))) (good0:(SAlgebra×SCondition×(List (List Int)))):Option (Option SrowSearch):=
 (Aq (C5 first0) ((0:Int),{ a:=a0,good:=good0,rows:=Av (List Int),steps:=Av SCloneStep,seen:=Av (ByteArray×Bool),tried:=(0:Int),state:=(2:Int) })).bind λt=>match t with
 | (.inl q7_6)=>(some (some q7_6))
 | (.inr q7_7)=>((Aq C3 ((0:Int),q7_7)).bind λt=>match t with
 | (.inl q12_6)=>(some (some q12_6))
 | (.inr q12_7)=>(some (some q12_7)))
theorem Ajc {a0} {first0} {good0} {v} (h:K4 a0 first0 good0=some v):Ret Try.prog Oz [(Aj false) a0,(slr false 1 (slr false 1 Ae)) first0,Lj good0] (rO true Bf v):=by
 refine Bn Ahf (Nat.le_of_ble_eq_true rfl) ?_;unfold K4 at h;refine Cells.lit rfl rfl<|Len.map<|LoopQ.o [19,18,17,7] (Ln first0) (Sv first0) h (λs o h=>Abw s o h) (by rfl) (by rintro (_ | _)<;>rfl) ?_
 rintro (q7_6 | q7_7) h
 ·try dsimp only at h
  cases h;exact (by rfl)
 try dsimp only at h
 refine LoopQ.o [10,7] (L4) (Sf) h (λs o h=>Ab5 s o h) (by rfl) (by rintro (_ | _)<;>rfl) ?_;rintro (q12_6 | q12_7) h
 ·try dsimp only at h
  cases h;exact (by rfl)
 try dsimp only at h
 cases h;exact (by rfl)
noncomputable def Gr (a0:SAlgebra) (c0:SCondition):Option (Option SrowSearch):=
 (Ek (c0)).bind λr1=>
 (Cf (a0.Size) (c0)).bind λr2=>
 (K4 (a0) (r2) ((a0,c0,r1))).bind λt=>match t with
 | none=>(some none)
 | (some r3_0)=>(some (some r3_0))
theorem Wn {a0} {c0} {v} (h:Gr a0 c0=some v):Ret Try.prog K2 [(Aj false) a0,(Ah false) c0] (rO true Bf v):=by
 refine Bn Ahy (Nat.le_of_ble_eq_true rfl) ?_;unfold Gr at h;refine Cells.lit rfl rfl<|CallQ.o (slr true 1 (slr true 1 Ae)) (by rfl) h (λr h=>K1 h) (λr1 h=> ?_)
 refine SetKids.lit rfl<|FrzQ.d ((rP false (Aj false)) a0) ((Ak _).trans (Eq.trans (b:=V.fz ((rP true (Aj false)) a0)) rfl (Ad (rP true (Aj false)) _)))<|FrzQ.d ((rP false (Ah false)) c0) ((Ak _).trans (Eq.trans (b:=V.fz ((rP true (Ah false)) c0)) rfl (Ad (rP true (Ah false)) _)))<|FrzQ.d ((rP false (slr false 1 (slr false 1 Ae))) r1) ((Ak _).trans (Eq.trans (b:=V.fz ((rP true (slr true 1 (slr true 1 Ae))) r1)) rfl (Ad (rP true (slr true 1 (slr true 1 Ae))) _)))<|CallP.o (slr false 1 (slr false 1 Ae)) (by rfl) h (λr h=>Ret.frz (K0 h) (by first | rfl | simp only [V.fz,Ab,slr] | simp [Aa,V.fz,fzL,V.up,upL,Ab,Ac,Ad,slr])) (λr2 h=> ?_)
 refine CallQ.o (rO true (Bf)) (by rfl) h (λr h=>Ajc h) (λr3 h=> ?_);rcases r3 with (_ | r3_0)
 ·try dsimp only at h
  cases h;exact (by rfl)
 try dsimp only at h
 cases h;exact (by rfl)
noncomputable def Gx (a0:SAlgebra) (c0:SCondition):Option ((List SCloneStep)×Int×Bool):=
 (E0 (a0) (c0)).bind λr1=>
 if (r1)=true then
 (Gr (a0) (c0)).bind λt=>match t with
 | none=>(none)
 | (some r3_0)=>(if r3_0.state≠(1:Int) then
 some (Av SCloneStep,r3_0.state,true)
 else
 some (r3_0.steps,(1:Int),true))
 else
 some (Av SCloneStep,(0:Int),false)
theorem Th {a0} {c0} {v} (h:Gx a0 c0=some v):Ret Try.prog Kk [(Aj false) a0,(Ah false) c0] ((λr=>V.tup [(slr false 2 (Af false)) r.1,Ae r.2.1,V.bool r.2.2]) v):=by
 refine Aby Ane (Nat.le_of_ble_eq_true rfl) ?_;unfold Gx at h;conv=>whnf
 refine Cells.lit rfl rfl ?_;conv=>whnf
 refine Cells.lit rfl rfl ?_;conv=>whnf
 refine CallQ.o V.bool (by rfl) h (λr h=>Ma h) (λr1 h=> ?_);conv=>whnf
 refine Br.flip ?_;conv=>whnf
 refine Br.ob h (λp2 h=> ?_) (λp2 h=> ?_)
 ·conv=>whnf
  refine Cells.lit rfl rfl ?_;conv=>whnf
  refine Cells.lit rfl rfl ?_;conv=>whnf
  refine CallQ.o (rO true (Bf)) (by rfl) h (λr h=>Wn h) (λr3 h=> ?_);rcases r3 with (_ | r3_0)
  ·try dsimp only at h
   conv=>whnf
   cases h
  try dsimp only at h
  conv=>whnf
  refine Cells.lit rfl rfl ?_;conv=>whnf
  refine Br.on h (λp4 h=> ?_) (λp4 h=> ?_)
  ·conv=>whnf
   refine Two.mk ⟨?_,?_⟩
   ·conv=>whnf
    refine SameQ.mk ⟨rfl,?_⟩;conv=>whnf
    refine BslQ.o (Af true) (Av SCloneStep) (by exact λ_=>⟨rfl,rfl⟩) (by rfl) ?_;conv=>whnf
    refine FrzQ.d ((slr false 2 (Af false)) (Av SCloneStep)) ((Ak _).trans (Eq.trans (b:=V.fz ((slr true 2 (Af true)) (Av SCloneStep))) rfl (Ad (slr true 2 (Af true)) _))) ?_;conv=>whnf
    refine Two.mk ⟨?_,?_⟩
    ·conv=>whnf
     refine SameQ.mk ⟨rfl,?_⟩;conv=>whnf
     refine Two.mk ⟨?_,?_⟩
     ·conv=>whnf
      refine Two.mk ⟨?_,?_⟩
      ·conv=>whnf
       refine Cells.lit rfl rfl ?_;conv=>whnf
       cases h;exact (by rfl)
      conv=>whnf
      refine Cells.lit rfl rfl ?_;conv=>whnf
      cases h;exact (by rfl)
     conv=>whnf
     refine Cells.lit rfl rfl ?_;conv=>whnf
     cases h;exact (by rfl)
    conv=>whnf
    refine SameQ.mk ⟨rfl,?_⟩;conv=>whnf
    refine SameQ.mk ⟨rfl,?_⟩;conv=>whnf
    refine Cells.lit rfl rfl ?_;conv=>whnf
    cases h;exact (by rfl)
   conv=>whnf
   refine SameQ.mk ⟨rfl,?_⟩;conv=>whnf
   refine Two.mk ⟨?_,?_⟩
   ·conv=>whnf
    refine BslQ.o (Af true) (Av SCloneStep) (by exact λ_=>⟨rfl,rfl⟩) (by rfl) ?_;conv=>whnf
    refine FrzQ.d ((slr false 2 (Af false)) (Av SCloneStep)) ((Ak _).trans (Eq.trans (b:=V.fz ((slr true 2 (Af true)) (Av SCloneStep))) rfl (Ad (slr true 2 (Af true)) _))) ?_;conv=>whnf
    refine Two.mk ⟨?_,?_⟩
    ·conv=>whnf
     refine Two.mk ⟨?_,?_⟩
     ·conv=>whnf
      refine Cells.lit rfl rfl ?_;conv=>whnf
      cases h;exact (by rfl)
     conv=>whnf
     refine Cells.lit rfl rfl ?_;conv=>whnf
     cases h;exact (by rfl)
    conv=>whnf
    refine Cells.lit rfl rfl ?_;conv=>whnf
    cases h;exact (by rfl)
   conv=>whnf
   refine Two.mk ⟨?_,?_⟩
   ·conv=>whnf
    refine BslQ.o (Af true) (Av SCloneStep) (by exact λ_=>⟨rfl,rfl⟩) (by rfl) ?_;conv=>whnf
    refine FrzQ.d ((slr false 2 (Af false)) (Av SCloneStep)) ((Ak _).trans (Eq.trans (b:=V.fz ((slr true 2 (Af true)) (Av SCloneStep))) rfl (Ad (slr true 2 (Af true)) _))) ?_;conv=>whnf
    refine Two.mk ⟨?_,?_⟩
    ·conv=>whnf
     refine Cells.lit rfl rfl ?_;conv=>whnf
     cases h;exact (by rfl)
    conv=>whnf
    refine Cells.lit rfl rfl ?_;conv=>whnf
    cases h;exact (by rfl)
   conv=>whnf
   refine Cells.lit rfl rfl ?_;conv=>whnf
   refine BslQ.o (Af true) (Av SCloneStep) (by exact λ_=>⟨rfl,rfl⟩) (by rfl) ?_;conv=>whnf
   refine FrzQ.d ((slr false 2 (Af false)) (Av SCloneStep)) ((Ak _).trans (Eq.trans (b:=V.fz ((slr true 2 (Af true)) (Av SCloneStep))) rfl (Ad (slr true 2 (Af true)) _))) ?_;conv=>whnf
   cases h;exact (by rfl)
  conv=>whnf
  refine Cells.lit rfl rfl ?_;conv=>whnf
  cases h;exact (by first | rfl | simp only [Ai,V.fz,fzL,V.up,Ab,slr] | simp [Ai,Aa,V.fz,fzL,V.up,upL,Ab,Ac,Ad,slr])
 conv=>whnf
 refine BslQ.o (Af true) (Av SCloneStep) (by exact λ_=>⟨rfl,rfl⟩) (by rfl) ?_;conv=>whnf
 cases h;exact (by rfl)
noncomputable def G7 (a0:SAlgebra) (c0:SCondition):Option ((List (List Int))×Bool):=
 (E0 (a0) (c0)).bind λr1=>
 if (r1)=true then
 (Gr (a0) (c0)).bind λt=>match t with
 | none=>(none)
 | (some r3_0)=>(if r3_0.state≠(2:Int) then
 some (Av (List Int),false)
 else
 some (r3_0.rows,true))
 else
 some (Av (List Int),false)
theorem Ad2 {a0} {c0} {v} (h:G7 a0 c0=some v):Ret Try.prog Mr [(Aj false) a0,(Ah false) c0] ((λr=>V.tup [(slr false 1 (slr false 1 Ae)) r.1,V.bool r.2]) v):=by
 refine Aby Aez (Nat.le_of_ble_eq_true rfl) ?_;unfold G7 at h;conv=>whnf
 refine Cells.lit rfl rfl ?_;conv=>whnf
 refine Cells.lit rfl rfl ?_;conv=>whnf
 refine CallQ.o V.bool (by rfl) h (λr h=>Ma h) (λr1 h=> ?_);conv=>whnf
 refine Br.flip ?_;conv=>whnf
 refine Br.ob h (λp2 h=> ?_) (λp2 h=> ?_)
 ·conv=>whnf
  refine Cells.lit rfl rfl ?_;conv=>whnf
  refine Cells.lit rfl rfl ?_;conv=>whnf
  refine CallQ.o (rO true (Bf)) (by rfl) h (λr h=>Wn h) (λr3 h=> ?_);rcases r3 with (_ | r3_0)
  ·try dsimp only at h
   conv=>whnf
   cases h
  try dsimp only at h
  conv=>whnf
  refine Cells.lit rfl rfl ?_;conv=>whnf
  refine Br.on h (λp4 h=> ?_) (λp4 h=> ?_)
  ·conv=>whnf
   refine BslQ.o (slr true 1 Ae) (Av (List Int)) (by exact λ_=>⟨rfl,rfl⟩) (by rfl) ?_;conv=>whnf
   cases h;exact (by rfl)
  conv=>whnf
  refine Cells.lit rfl rfl ?_;conv=>whnf
  cases h;exact (by first | rfl | simp only [Ai,V.fz,fzL,V.up,Ab,slr] | simp [Ai,Aa,V.fz,fzL,V.up,upL,Ab,Ac,Ad,slr])
 conv=>whnf
 refine BslQ.o (slr true 1 Ae) (Av (List Int)) (by exact λ_=>⟨rfl,rfl⟩) (by rfl) ?_;conv=>whnf
 cases h;exact (by rfl)
end Go.Proofs.Ytaalgpkajkogkaa.Ax
