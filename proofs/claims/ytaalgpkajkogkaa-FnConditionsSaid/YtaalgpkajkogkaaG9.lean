/-
 What the functions compute, as functions on plain data, and that the program does compute it; written by program.
-/
import Derived.Test.YtaalgpkajkogkaaCode
import Derived.Test.YtaalgpkajkogkaaG1
import Derived.Test.YtaalgpkajkogkaaG2
import Derived.Test.YtaalgpkajkogkaaG6
import Derived.Test.YtaalgpkajkogkaaG7
namespace Go.Proofs.Ytaalgpkajkogkaa.Ax
open Go
set_option maxRecDepth 100000
set_option maxHeartbeats 4000000
noncomputable def Do (c0:SCondition):Int->Option (Int ⊕ (Unit ⊕ Unit)):=λx28=>
 if x28<(↑c0.Rules.length:Int) then
 ask ((0:Int)<=x28/\x28<(↑c0.Rules.length:Int)) <|
 if (↑(nth c0.Rules x28.toNat).Left.length:Int)≠c0.Arity then
 some (.inr (.inl ()))
 else
 if (↑(nth c0.Rules x28.toNat).Right.length:Int)≠c0.Arity then
 if (↑(nth c0.Rules x28.toNat).Right.length:Int)≠(1:Int) then
 some (.inr (.inl ()))
 else
 (Gk ((nth c0.Rules x28.toNat).Left)).bind λr11=>
 if (r11)=true then
 (Gk ((nth c0.Rules x28.toNat).Right)).bind λr13=>
 if (r13)=true then
 ask (InI (x28+(1:Int))) <|
 some (.inl (x28+(1:Int)))
 else
 some (.inr (.inl ()))
 else
 some (.inr (.inl ()))
 else
 (Gk ((nth c0.Rules x28.toNat).Left)).bind λr16=>
 if (r16)=true then
 (Gk ((nth c0.Rules x28.toNat).Right)).bind λr18=>
 if (r18)=true then
 ask (InI (x28+(1:Int))) <|
 some (.inl (x28+(1:Int)))
 else
 some (.inr (.inl ()))
 else
 some (.inr (.inl ()))
 else
 some (.inr (.inr ()))
def Kv (c0:SCondition):Int->St:=λs=>[(28,A.val (Ae s)),(27,A.val (Ae ((↑c0.Rules.length:Int)))),(26,A.val (slr false 2 (Ca false) c0.Rules)),(1,A.val (rP true (Ah false) c0))]
def Qy (_c0:SCondition):(Unit ⊕ Unit)->Tgt
 | (.inl _s)=>(Ex.ret,[2],[(2,A.val (V.bool false))])
 | (.inr _s)=>((Ex.exit 0),[],[])
theorem Abe {c0} (x28) o (h:Do c0 x28=some o):vc Try.prog Q2 (Ch [28,27,26,1] (Kv c0) (Qy c0) o) (Kv c0 x28):=by
 unfold Do at h;try dsimp only at h
 refine Br.od h (λp6 h=> ?_) (λp6 h=> ?_)
 ·refine Len.map<|Ask.o h λp7 h=>Elem.o (by first | omega | (simp [Au] at * <;> omega))<|SetKids.lit rfl<|Cells.lit rfl rfl<|Len.map<|Cells.lit rfl rfl<|Br.on h (λp8 h=> ?_) (λp8 h=> ?_)
  ·refine Br.yes<|Br.yes<|Br.yes<|Br.yes<|Br.yes<|Br.yes<|Br.yes<|Br.yes<|Br.yes<|Br.yes<|Br.yes<|Br.yes<|Br.yes<|Br.yes<|Br.yes<|Br.yes<|Br.yes<|Br.yes<|Br.yes ?_
   cases h;exact ⟨rfl,rfl⟩
  refine Br.no<|Cells.lit rfl rfl<|Br.no<|Len.map<|Br.no<|Br.no<|Cells.lit rfl rfl<|Br.no<|Br.no<|Br.on h (λp9 h=> ?_) (λp9 h=> ?_)
  ·refine Br.yes<|Cells.lit rfl rfl<|Br.yes<|Len.map<|Br.yes<|Br.no<|Br.yes<|Br.no<|Br.on h (λp10 h=> ?_) (λp10 h=> ?_)
   ·refine Br.yes<|Br.yes<|Br.yes<|Br.yes<|Br.yes<|Br.yes<|Br.yes<|Br.yes<|Br.yes<|Br.yes ?_
    cases h;exact ⟨rfl,rfl⟩
   refine Br.no<|Cells.lit rfl rfl<|Br.no<|CallQ.o V.bool (by rfl) h (λr h=>Pr h) (λr11 h=> ?_)
   refine Br.no<|Br.no<|Br.flip<|Br.ob h (λp12 h=> ?_) (λp12 h=> ?_)
   ·refine Br.no<|Cells.lit rfl rfl<|Br.no<|CallQ.o V.bool (by rfl) h (λr h=>Pr h) (λr13 h=> ?_)
    refine Br.no<|Br.no<|Br.flip<|Br.ob h (λp14 h=> ?_) (λp14 h=> ?_)
    ·refine Ask.o h λp15 h=> ?_
     cases h;exact ⟨rfl,rfl⟩
    cases h;exact ⟨rfl,rfl⟩
   refine Br.yes<|Br.yes<|Br.yes<|Br.yes<|Br.yes ?_
   cases h;exact ⟨rfl,rfl⟩
  refine Br.no<|Br.no<|Br.no<|Br.no<|Br.no<|Br.no<|Br.no<|Br.no<|Cells.lit rfl rfl<|Br.no<|CallQ.o V.bool (by rfl) h (λr h=>Pr h) (λr16 h=> ?_)
  refine Br.no<|Br.no<|Br.flip<|Br.ob h (λp17 h=> ?_) (λp17 h=> ?_)
  ·refine Br.no<|Cells.lit rfl rfl<|Br.no<|CallQ.o V.bool (by rfl) h (λr h=>Pr h) (λr18 h=> ?_)
   refine Br.no<|Br.no<|Br.flip<|Br.ob h (λp19 h=> ?_) (λp19 h=> ?_)
   ·refine Ask.o h λp20 h=> ?_
    cases h;exact ⟨rfl,rfl⟩
   cases h;exact ⟨rfl,rfl⟩
  refine Br.yes<|Br.yes<|Br.yes<|Br.yes<|Br.yes ?_
  cases h;exact ⟨rfl,rfl⟩
 cases h;exact ⟨rfl,rfl⟩
noncomputable def Hp (c0:SCondition):Option Bool:=
 ((if c0.Arity<(2:Int) then
 some (.inl ())
 else
 if c0.Arity>(3:Int) then
 some (.inl ())
 else
 if (↑c0.Rules.length:Int)<(1:Int) then
 some (.inl ())
 else
 if (↑c0.Rules.length:Int)>(6:Int) then
 some (.inl ())
 else
 some (.inr ()):Option (Unit ⊕ Unit))).bind λt=>match t with
 | (.inl _)=>(some false)
 | (.inr _)=>((Aq (Do c0) (0:Int)).bind λt=>match t with
 | (.inl _)=>(some false)
 | (.inr _)=>(some true))
theorem Agj {c0} {v} (h:Hp c0=some v):Ret Try.prog Nx [(Ah false) c0] (V.bool v):=by
 refine Bn Agk (Nat.le_of_ble_eq_true rfl) ?_;unfold Hp at h;refine CutQ.o (λt:(Unit ⊕ Unit)=>match t with | (.inl s)=>(Ex.ret,[2],[(2,A.val (V.bool (false)))]) | (.inr s)=>(Ex.normal,[1],[(1,A.val ((rP true (Ah false)) (c0)))])) h ?_ ?_
 ·intro t h;refine Cells.lit rfl rfl<|Br.od h (λp1 h=> ?_) (λp1 h=> ?_)
  ·refine Br.yes<|Br.yes<|Br.yes<|Br.yes<|Br.yes<|Br.yes<|Br.yes<|Br.yes<|Br.yes<|Br.yes<|Br.yes<|Br.yes<|Br.yes<|Br.yes ?_
   cases h;exact ⟨rfl,rfl⟩
  refine Br.no<|Cells.lit rfl rfl<|Br.no<|Br.no<|Br.od h (λp2 h=> ?_) (λp2 h=> ?_)
  ·refine Br.yes<|Br.yes<|Br.yes<|Br.yes<|Br.yes<|Br.yes<|Br.yes<|Br.yes<|Br.yes<|Br.yes ?_
   cases h;exact ⟨rfl,rfl⟩
  refine Br.no<|Cells.lit rfl rfl<|Br.no<|Len.map<|Br.no<|Br.no<|Br.od h (λp3 h=> ?_) (λp3 h=> ?_)
  ·refine Br.yes<|Br.yes<|Br.yes<|Br.yes<|Br.yes ?_
   cases h;exact ⟨rfl,rfl⟩
  refine Br.no<|Cells.lit rfl rfl<|Br.no<|Len.map<|Br.no<|Br.no<|Br.od h (λp4 h=> ?_) (λp4 h=> ?_)
  ·cases h;exact ⟨rfl,rfl⟩
  cases h;exact ⟨rfl,rfl⟩
 rintro (⟨⟩ | ⟨⟩) h
 ·try dsimp only at h
  cases h;exact (by rfl)
 try dsimp only at h
 refine Cells.lit rfl rfl<|Len.map<|LoopQ.o [28,27,26,1] (Kv c0) (Qy c0) h (λs o h=>Abe s o h) (by rfl) (by rintro (_ | _)<;>rfl) ?_
 rintro (⟨⟩ | ⟨⟩) h
 ·try dsimp only at h
  cases h;exact (by rfl)
 try dsimp only at h
 cases h;exact (by rfl)
noncomputable def F7 (a0:SAlgebra):Int->Option (Int ⊕ (Unit ⊕ Unit)):=λx3=>
 if x3<(↑a0.Ops.length:Int) then
 ask ((0:Int)<=x3/\x3<(↑a0.Ops.length:Int)) <|
 (Sa (a0.Size) (nth a0.Ops x3.toNat)).bind λr7=>
 if (r7)=true then
 ask (InI (x3+(1:Int))) <|
 some (.inl (x3+(1:Int)))
 else
 some (.inr (.inl ()))
 else
 some (.inr (.inr ()))
def Ri (a0:SAlgebra):Int->St:=λs=>[(3,A.val (Ae s)),(1,A.val (rP true (Aj false) a0))]
def Yv (_a0:SAlgebra):(Unit ⊕ Unit)->Tgt
 | (.inl _s)=>(Ex.ret,[2],[(2,A.val (V.bool false))])
 | (.inr _s)=>((Ex.exit 0),[],[])
theorem Ajz {a0} (x3) o (h:F7 a0 x3=some o):vc Try.prog Yu (Ch [3,1] (Ri a0) (Yv a0) o) (Ri a0 x3):=by
 unfold F7 at h;try dsimp only at h
 refine Cells.lit rfl rfl<|Len.map<|Br.od h (λp5 h=> ?_) (λp5 h=> ?_)
 ·refine Cells.lit rfl rfl<|Cells.lit rfl rfl<|Len.map<|Ask.o h λp6 h=>Elem.o (by first | omega | (simp [Au] at * <;> omega))<|CallQ.o V.bool (by rfl) h (λr h=>Aut h) (λr7 h=> ?_)
  refine Br.flip<|Br.ob h (λp8 h=> ?_) (λp8 h=> ?_)
  ·refine Ask.o h λp9 h=> ?_
   cases h;exact ⟨rfl,rfl⟩
  cases h;exact ⟨rfl,rfl⟩
 cases h;exact ⟨rfl,rfl⟩
noncomputable def M2 (a0:SAlgebra):Option Bool:=
 (((Dx (a0.Size) ((1:Int)) ((8:Int))).bind λr1=>
 if (r1)=true then
 if (↑a0.Ops.length:Int)>(4:Int) then
 some (.inl ())
 else
 some (.inr ())
 else
 some (.inl ()):Option (Unit ⊕ Unit))).bind λt=>match t with
 | (.inl _)=>(some false)
 | (.inr _)=>((Aq (F7 a0) (0:Int)).bind λt=>match t with
 | (.inl _)=>(some false)
 | (.inr _)=>(some true))
theorem Arb {a0} {v} (h:M2 a0=some v):Ret Try.prog Xe [(Aj false) a0] (V.bool v):=by
 refine Bn Ari (Nat.le_of_ble_eq_true rfl) ?_;unfold M2 at h;refine CutQ.o (λt:(Unit ⊕ Unit)=>match t with | (.inl s)=>(Ex.ret,[2],[(2,A.val (V.bool (false)))]) | (.inr s)=>(Ex.normal,[1],[(1,A.val ((rP true (Aj false)) (a0)))])) h ?_ ?_
 ·intro t h;refine Cells.lit rfl rfl<|CallQ.o V.bool (by rfl) h (λr h=>Hc h) (λr1 h=> ?_)
  refine Br.flip<|Br.ob h (λp2 h=> ?_) (λp2 h=> ?_)
  ·refine Br.no<|Cells.lit rfl rfl<|Br.no<|Len.map<|Br.no<|Br.no<|Br.od h (λp3 h=> ?_) (λp3 h=> ?_)
   ·cases h;exact ⟨rfl,rfl⟩
   cases h;exact ⟨rfl,rfl⟩
  refine Br.yes<|Br.yes<|Br.yes<|Br.yes<|Br.yes ?_
  cases h;exact ⟨rfl,rfl⟩
 rintro (⟨⟩ | ⟨⟩) h
 ·try dsimp only at h
  cases h;exact (by rfl)
 try dsimp only at h
 refine LoopQ.o [3,1] (Ri a0) (Yv a0) h (λs o h=>Ajz s o h) (by rfl) (by rintro (_ | _)<;>rfl) ?_;rintro (⟨⟩ | ⟨⟩) h
 ·try dsimp only at h
  cases h;exact (by rfl)
 try dsimp only at h
 cases h;exact (by rfl)
noncomputable def Fn (p0:(List Int)) (a1:SCondition) (a2:(List (List Int))):Option (Unit×(List (List Int))):=
 if (↑p0.length:Int)=a1.Arity then
 (E6 (a2) (p0)).bind λr2=>
 if r2<(0:Int) then
 (H9 (p0)).bind λr4=>
 ask ((a2).length+([r4]).length<=LIM) <|
 some ((),a2++[r4])
 else
 some ((),a2)
 else
 some ((),a2)
theorem T3 {p0} {a1} {a2} {v} (h:Fn p0 a1 a2=some v):Sn Try.prog Iv [(slr false 1 Ae) p0,(rP false (Ah false)) a1,(rP true (slr true 1 (slr true 1 Ae))) a2] ((λ_r=>V.tup []) v.1) 2 (rP true (slr true 1 (slr true 1 Ae)) v.2):=by
 refine Ql Aeb (Nat.le_of_ble_eq_true rfl) ?_;unfold Fn at h;refine Len.map<|Br.oe h (λp1 h=> ?_) (λp1 h=> ?_)
 ·refine Cells.lit rfl rfl<|Br.yes<|Br.yes<|Kid.lit rfl rfl<|CallQ.rd Ae (by first | rfl | simp only [V.fz,V.up,Ab,slr] | simp [Aa,V.fz,fzL,V.up,upL,Ab,Ac,Ad,slr]) (λ_=>rfl) h (λr h=>Rl h) (λr2 h=> ?_)
  refine Br.yes<|Br.yes<|Br.od h (λp3 h=> ?_) (λp3 h=> ?_)
  ·refine Cells.lit rfl rfl<|CallP.o (slr true 1 Ae) (by rfl) h (λr h=>P4 h) (λr4 h=> ?_)
   refine BslQ.o (slr true 1 Ae) [r4] (by exact λ_=>⟨rfl,rfl⟩) (by rfl)<|NoOwn.own rfl<|Kid.lit rfl rfl<|Kid.lit rfl rfl<|SetKids.lit rfl<|AppQ.o (m:=1) (slr true 1 Ae) (by exact λ_=>⟨rfl,rfl⟩) (a2) ([r4]) (by rfl) (by rfl) h λh=>SetKids.lit rfl ?_
   cases h;exact ⟨(by rfl),(by rfl)⟩
  cases h;exact ⟨(by rfl),(by rfl)⟩
 refine Br.no<|Br.no<|Br.no<|Br.no<|Br.no ?_
 cases h;exact ⟨(by rfl),(by rfl)⟩
noncomputable def Ef (l0:(List Int)) (k0:Int):Option Bool:=
 if (↑l0.length:Int)=k0 then
 (El ((2:Int)) (l0)).bind λr2=>
 some r2
 else
 some false
theorem Mw {l0} {k0} {v} (h:Ef l0 k0=some v):Ret Try.prog G2 [(slr false 1 Ae) l0,Ae k0] (V.bool v):=by
 refine Bn Aed (Nat.le_of_ble_eq_true rfl) ?_;unfold Ef at h;refine Len.map<|Br.oe h (λp1 h=> ?_) (λp1 h=> ?_)
 ·refine Br.yes<|CallQ.o V.bool (by rfl) h (λr h=>Oy h) (λr2 h=> ?_)
  refine Br.yes ?_;cases h;exact (by rfl)
 refine Br.no<|Br.no ?_
 cases h;exact (by rfl)
end Go.Proofs.Ytaalgpkajkogkaa.Ax
