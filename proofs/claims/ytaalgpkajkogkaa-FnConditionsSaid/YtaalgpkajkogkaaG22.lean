/-
 What the functions compute, as functions on plain data, and that the program does compute it; written by program.
-/
import Derived.Test.YtaalgpkajkogkaaCode
import Derived.Test.YtaalgpkajkogkaaG1
import Derived.Test.YtaalgpkajkogkaaG2
import Derived.Test.YtaalgpkajkogkaaG4
import Derived.Test.YtaalgpkajkogkaaG5
import Derived.Test.YtaalgpkajkogkaaG7
import Derived.Test.YtaalgpkajkogkaaG10
import Derived.Test.YtaalgpkajkogkaaG17
import Derived.Test.YtaalgpkajkogkaaG21
namespace Go.Proofs.Ytaalgpkajkogkaa.Ax
open Go
set_option maxRecDepth 100000
set_option maxHeartbeats 4000000
noncomputable def Cg (_s0:SrowSearch) (fresh0:Int) (_many0:Int) (_x21:Int) (_x10:Int) (x106':SrowSearch) (r6:List Int):(Int×Bool×(List (List Int)))->Option ((Int×Bool×(List (List Int))) ⊕ (Bool×(List (List Int)))):=λ(x46,x12,x9')=>
 if x46<(↑r6.length:Int) then
 ask ((0:Int)<=x46/\x46<(↑r6.length:Int)) <|
 ask ((0:Int)<=nth r6 x46.toNat/\nth r6 x46.toNat<(↑x106'.rows.length:Int)) <|
 ask ((0:Int)<=x46/\x46<(↑x9'.length:Int)) <|
 if (x12)=true then
 ask (InI (x46+(1:Int))) <|
 some (.inl (x46+(1:Int),true,x9'.set x46.toNat (nth x106'.rows (nth r6 x46.toNat).toNat)))
 else
 ask (InI (x46+(1:Int))) <|
 some (.inl (x46+(1:Int),decide (nth r6 x46.toNat>=fresh0),x9'.set x46.toNat (nth x106'.rows (nth r6 x46.toNat).toNat)))
 else
 some (.inr (x12,x9'))
def Hz (s0:SrowSearch) (fresh0:Int) (many0:Int) (x21:Int) (x10:Int) (x106':SrowSearch) (r6:List Int):(Int×Bool×(List (List Int)))->St:=λs=>[(46,A.val (Ae s.1)),(45,A.val (Ae ((↑r6.length:Int)))),(44,A.ref 11 []),(12,A.val (V.bool s.2.1)),(11,A.val (slr true 1 Ae r6)),(9,A.val (slr true 1 (slr false 1 Ae) s.2.2)),(10,A.val (Ae x10)),(7,A.val (Ae x21)),(8,A.val ((rP true (Bd false)) (nth s0.a.Ops x21.toNat))),(21,A.val (Ae x21)),(20,A.val (Ae ((↑s0.a.Ops.length:Int)))),(19,A.val (slr false 2 (Bd false) s0.a.Ops)),(0,A.ref 106 []),(106,A.val (rP true Bf x106')),(1,A.val (Ae fresh0)),(2,A.val (Ae many0))]
def Mj (s0:SrowSearch) (fresh0:Int) (many0:Int) (x21:Int) (x10:Int) (x106':SrowSearch) (r6:List Int):(Bool×(List (List Int)))->Tgt
 | s=>((Ex.exit 4),[12,11,9,10,7,8,21,20,19,0,106,1,2],[(12,A.val (V.bool s.1)),(11,A.val (slr true 1 Ae r6)),(9,A.val (slr true 1 (slr false 1 Ae) s.2)),(10,A.val (Ae x10)),(7,A.val (Ae x21)),(8,A.val ((rP true (Bd false)) (nth s0.a.Ops x21.toNat))),(21,A.val (Ae x21)),(20,A.val (Ae ((↑s0.a.Ops.length:Int)))),(19,A.val (slr false 2 (Bd false) s0.a.Ops)),(0,A.ref 106 []),(106,A.val (rP true Bf x106')),(1,A.val (Ae fresh0)),(2,A.val (Ae many0))])
theorem Wb {s0} {fresh0} {many0} {x21} {x10} {x106'} {r6} (s) o (h:Cg s0 fresh0 many0 x21 x10 x106' r6 s=some o):vc Try.prog Mp (Ch [46,45,44,12,11,9,10,7,8,21,20,19,0,106,1,2] (Hz s0 fresh0 many0 x21 x10 x106' r6) (Mj s0 fresh0 many0 x21 x10 x106' r6) o) (Hz s0 fresh0 many0 x21 x10 x106' r6 s):=by
 obtain ⟨x46,x12,x9'⟩:=s;unfold Cg at h;try dsimp only at h
 refine Br.od h (λp7 h=> ?_) (λp7 h=> ?_)
 ·refine Len.map<|Ask.o h λp8 h=>Cells.one (λ_=>⟨rfl,rfl⟩) (by first | omega | (simp [Au] at * <;> omega))<|Cells.lit rfl rfl<|Kid.lit rfl rfl<|Len.map<|Ask.o h λp9 h=>Kid.lit rfl rfl<|Cells.one (λ_=>⟨rfl,rfl⟩) (by first | omega | (simp [Au] at * <;> omega))<|Len.map<|Ask.o h λp10 h=>SetKids.one (λ_=>⟨rfl,rfl⟩) (nth x106'.rows (nth r6 x46.toNat).toNat) (by rfl) (by first | omega | (simp [Au] at * <;> omega))<|Br.ob h (λp11 h=> ?_) (λp11 h=> ?_)
  ·refine Br.yes<|Br.yes<|Br.yes<|Ask.o h λp12 h=> ?_
   cases h;exact ⟨rfl,rfl⟩
  refine Br.no<|Br.no<|Br.no<|Ask.o h λp13 h=> ?_
  cases h;exact ⟨rfl,rfl⟩
 cases h;exact ⟨rfl,rfl⟩
noncomputable def B5 (s0:SrowSearch) (fresh0:Int) (many0:Int) (x21:Int):((List (List Int))×Int×SrowSearch)->Option (((List (List Int))×Int×SrowSearch) ⊕ (SrowSearch ⊕ SrowSearch)):=λ(x9,x10,x106')=>
 (Ea (many0) ((nth s0.a.Ops x21.toNat).Arity)).bind λr4=>
 if x10<r4 then
 (Io (x10) ((nth s0.a.Ops x21.toNat).Arity) (many0)).bind λr6=>
 (Aq (Cg s0 fresh0 many0 x21 x10 x106' r6) ((0:Int),fresh0==(0:Int),x9)).bind λ(q14_12,q14_9)=>
 if (q14_12)=true then
 if x106'.tried=(100000:Int) then
 some (.inr (.inl ({ a:=x106'.a,good:=x106'.good,rows:=x106'.rows,steps:=x106'.steps,seen:=x106'.seen,tried:=x106'.tried,state:=(3:Int) })))
 else
 ask (InI (x106'.tried+(1:Int))) <|
 ask ((0:Int)<=(0:Int)/\(0:Int)<(↑x106'.rows.length:Int)) <|
 (Dz (x106'.a.Size) (nth s0.a.Ops x21.toNat) (q14_9) ((↑(nth x106'.rows (Int.toNat (0:Int))).length:Int))).bind λr19=>
 (Cj ({ a:=x106'.a,good:=x106'.good,rows:=x106'.rows,steps:=x106'.steps,seen:=x106'.seen,tried:=x106'.tried+(1:Int),state:=x106'.state }) (r19) (x21) (r6)).bind λ(r20,u21)=>
 if (r20)=true then
 ask (InI (x10+(1:Int))) <|
 some (.inl (q14_9,x10+(1:Int),u21))
 else
 some (.inr (.inl u21))
 else
 ask (InI (x10+(1:Int))) <|
 some (.inl (q14_9,x10+(1:Int),x106'))
 else
 some (.inr (.inr x106'))
def H5 (s0:SrowSearch) (fresh0:Int) (many0:Int) (x21:Int):((List (List Int))×Int×SrowSearch)->St:=λs=>[(9,A.val (slr true 1 (slr false 1 Ae) s.1)),(10,A.val (Ae s.2.1)),(7,A.val (Ae x21)),(8,A.val ((rP true (Bd false)) (nth s0.a.Ops x21.toNat))),(21,A.val (Ae x21)),(20,A.val (Ae ((↑s0.a.Ops.length:Int)))),(19,A.val (slr false 2 (Bd false) s0.a.Ops)),(0,A.ref 106 []),(106,A.val (rP true Bf s.2.2)),(1,A.val (Ae fresh0)),(2,A.val (Ae many0))]
def Mf (s0:SrowSearch) (fresh0:Int) (many0:Int) (x21:Int):(SrowSearch ⊕ SrowSearch)->Tgt
 | (.inl s)=>(Ex.ret,[6,106],[(6,A.val (V.bool false)),(106,A.val (rP true Bf s))])
 | (.inr s)=>((Ex.exit 2),[21,20,19,0,106,1,2],[(21,A.val (Ae x21)),(20,A.val (Ae ((↑s0.a.Ops.length:Int)))),(19,A.val (slr false 2 (Bd false) s0.a.Ops)),(0,A.ref 106 []),(106,A.val (rP true Bf s)),(1,A.val (Ae fresh0)),(2,A.val (Ae many0))])
theorem V7 {s0} {fresh0} {many0} {x21} (s) o (h:B5 s0 fresh0 many0 x21 s=some o):vc Try.prog Mo (Ch [9,10,7,8,21,20,19,0,106,1,2] (H5 s0 fresh0 many0 x21) (Mf s0 fresh0 many0 x21) o) (H5 s0 fresh0 many0 x21 s):=by
 obtain ⟨x9,x10,x106'⟩:=s;unfold B5 at h;try dsimp only at h
 refine Cells.lit rfl rfl<|CallQ.o Ae (by rfl) h (λr h=>Ue h) (λr4 h=> ?_)
 refine Br.od h (λp5 h=> ?_) (λp5 h=> ?_)
 ·refine Cells.lit rfl rfl<|CallQ.o (slr true 1 Ae) (by rfl) h (λr h=>Xm h) (λr6 h=> ?_)
  refine Len.map<|LoopQ.o [46,45,44,12,11,9,10,7,8,21,20,19,0,106,1,2] (Hz s0 fresh0 many0 x21 x10 x106' r6) (Mj s0 fresh0 many0 x21 x10 x106' r6) h (λs o h=>Wb s o h) (by rfl) (λ_=>rfl) ?_
  rintro ⟨q14_12,q14_9⟩ h;try dsimp only at h
  refine Br.flip<|Br.ob h (λp15 h=> ?_) (λp15 h=> ?_)
  ·refine Cells.lit rfl rfl<|Br.oe h (λp16 h=> ?_) (λp16 h=> ?_)
   ·refine SetKids.lit rfl ?_;cases h;exact ⟨rfl,rfl⟩
   refine Cells.lit rfl rfl<|Ask.o h λp17 h=>SetKids.lit rfl<|FrzQ.d (V.sl false (1:Nat) (List.map Ae r6)) (by first | (simp only [slr];done) | exact (Ak _).trans (Eq.trans (b:=V.fz (V.sl true (1:Nat) (List.map Ae r6))) rfl (Ac _ _ _)) | (simp [Ak,V.fz,Ab,Ac,slr];done) | (simp [Ak,V.fz,fzL,Ab,slr];done))<|Cells.lit rfl rfl<|Cells.lit rfl rfl<|Cells.lit rfl rfl<|Kid.lit rfl rfl<|Len.map<|Ask.o h λp18 h=>Kid.lit rfl rfl<|Cells.one (λ_=>⟨rfl,rfl⟩) (by first | omega | (simp [Au] at * <;> omega))<|Len.map<|CallP.rd (slr true 1 Ae) (by first | rfl | simp only [Aa,V.fz,fzL,Ab,slr] | simp [Aa,V.fz,fzL,V.up,upL,Ab,Ac,Ad,slr]) (λ_=>by simp [V.noFz,Bb]) h (λr h=>Ll h) (λr19 h=> ?_)
   refine CallQ.io V.bool (rP true (Bf)) (by first | rfl | (simp only [slr];rfl) | (simp only [Nat.reduceDiv,Ak,Ac];rfl) | simp [Aa,V.fz,fzL,V.up,upL,Ab,Ac,Ad,slr]) rfl (λ_=>rfl) (λ_=>⟨rfl,rfl⟩) rfl h (λr h=>Sg h) (λr20 u21 h=> ?_);refine Br.flip<|Br.ob h (λp22 h=> ?_) (λp22 h=> ?_)
   ·refine Ask.o h λp23 h=> ?_
    cases h;exact ⟨rfl,rfl⟩
   cases h;exact ⟨rfl,rfl⟩
  refine Ask.o h λp24 h=> ?_
  cases h;exact ⟨rfl,rfl⟩
 cases h;exact ⟨rfl,rfl⟩
noncomputable def B6 (s0:SrowSearch) (fresh0:Int) (many0:Int):(Int×SrowSearch)->Option ((Int×SrowSearch) ⊕ (SrowSearch ⊕ SrowSearch)):=λ(x21,x106)=>
 if x21<(↑s0.a.Ops.length:Int) then
 ask ((0:Int)<=x21/\x21<(↑s0.a.Ops.length:Int)) <|
 ask ((0:Int)<=(nth s0.a.Ops x21.toNat).Arity/\(nth s0.a.Ops x21.toNat).Arity<=(↑LIM:Int)) <|
 (Aq (B5 s0 fresh0 many0 x21) (List.replicate (nth s0.a.Ops x21.toNat).Arity.toNat (Av Int),(0:Int),x106)).bind λt=>match t with
 | (.inl q25_106)=>(some (.inr (.inl q25_106)))
 | (.inr q25_106)=>(ask (InI (x21+(1:Int))) <|
 some (.inl (x21+(1:Int),q25_106)))
 else
 some (.inr (.inr x106))
def Hx (s0:SrowSearch) (fresh0:Int) (many0:Int):(Int×SrowSearch)->St:=λs=>[(21,A.val (Ae s.1)),(20,A.val (Ae ((↑s0.a.Ops.length:Int)))),(19,A.val (slr false 2 (Bd false) s0.a.Ops)),(0,A.ref 106 []),(106,A.val (rP true Bf s.2)),(1,A.val (Ae fresh0)),(2,A.val (Ae many0))]
def Mm (_s0:SrowSearch) (_fresh0:Int) (_many0:Int):(SrowSearch ⊕ SrowSearch)->Tgt
 | (.inl s)=>(Ex.ret,[6,106],[(6,A.val (V.bool false)),(106,A.val (rP true Bf s))])
 | (.inr s)=>((Ex.exit 0),[106],[(106,A.val (rP true Bf s))])
theorem Wd {s0} {fresh0} {many0} (s) o (h:B6 s0 fresh0 many0 s=some o):vc Try.prog Mk (Ch [21,20,19,0,106,1,2] (Hx s0 fresh0 many0) (Mm s0 fresh0 many0) o) (Hx s0 fresh0 many0 s):=by
 obtain ⟨x21,x106⟩:=s;unfold B6 at h;try dsimp only at h
 refine Br.od h (λp1 h=> ?_) (λp1 h=> ?_)
 ·refine Len.map<|Ask.o h λp2 h=>Elem.o (by first | omega | (simp [Au] at * <;> omega))<|SetKids.lit rfl<|Cells.lit rfl rfl<|Ask.o h λp3 h=>MkQ.o (slr true 1 Ae) (Av Int) rfl<|FrzQ.d (V.sl true (1:Nat) (List.map (slr false (1:Nat) Ae) (List.replicate (nth s0.a.Ops x21.toNat).Arity.toNat (Av Int)))) (by first | (simp only [V.fzAt,Im,Ab];done) | exact Eq.trans (b:=V.sl true (1:Nat) (List.map (slr false (1:Nat) Ae) (List.replicate (nth s0.a.Ops x21.toNat).Arity.toNat (Av Int)))) rfl (by simp only [Ac]))<|LoopQ.o [9,10,7,8,21,20,19,0,106,1,2] (H5 s0 fresh0 many0 x21) (Mf s0 fresh0 many0 x21) h (λs o h=>V7 s o h) (by rfl) (by rintro (_ | _)<;>rfl) ?_
  rintro (q25_106 | q25_106) h
  ·try dsimp only at h
   cases h;exact ⟨rfl,rfl⟩
  try dsimp only at h
  refine Ask.o h λp26 h=> ?_
  cases h;exact ⟨rfl,rfl⟩
 cases h;exact ⟨rfl,rfl⟩
noncomputable def Fj (s0:SrowSearch) (fresh0:Int) (many0:Int):Option (Bool×SrowSearch):=
 (Aq (B6 s0 fresh0 many0) ((0:Int),s0)).bind λt=>match t with
 | (.inl q27_106)=>(some (false,q27_106))
 | (.inr q27_106)=>(some (true,q27_106))
theorem Z3 {s0} {fresh0} {many0} {v} (h:Fj s0 fresh0 many0=some v):Sn Try.prog Jo [(rP true Bf) s0,Ae fresh0,Ae many0] (V.bool v.1) 0 (rP true Bf v.2):=by
 refine Ql Aan (Nat.le_of_ble_eq_true rfl) ?_;unfold Fj at h;refine Cells.lit rfl rfl<|Len.map<|LoopQ.o [21,20,19,0,106,1,2] (Hx s0 fresh0 many0) (Mm s0 fresh0 many0) h (λs o h=>Wd s o h) (by rfl) (by rintro (_ | _)<;>rfl) ?_
 rintro (q27_106 | q27_106) h
 ·try dsimp only at h
  cases h;exact ⟨(by rfl),(by rfl)⟩
 try dsimp only at h
 cases h;exact ⟨(by rfl),(by rfl)⟩
noncomputable def Fw (a0:SAlgebra) (c0:SCondition) (steps0:(List SCloneStep)):Option (Bool×Bool):=
 (E0 (a0) (c0)).bind λr1=>
 if (r1)=true then
 ((if (↑steps0.length:Int)<(1:Int) then
 some (.inl ())
 else
 if (↑steps0.length:Int)>(150:Int) then
 some (.inl ())
 else
 some (.inr ()):Option (Unit ⊕ Unit))).bind λt=>match t with
 | (.inl _)=>(some (false,true))
 | (.inr _)=>((Cf (a0.Size) (c0)).bind λr6=>
 (J7 (a0) (r6) (steps0)).bind λt=>match t with
 | (none,r7_2)=>(if (r7_2)=true then
 none
 else
 some (false,true))
 | ((some r7_1),r7_2)=>(if (r7_2)=true then
 ask (InI ((↑r7_1.length:Int)-(1:Int))) <|
 ask ((0:Int)<=(↑r7_1.length:Int)-(1:Int)/\(↑r7_1.length:Int)-(1:Int)<(↑r7_1.length:Int)) <|
 (Ek (c0)).bind λr12=>
 (Fs (a0.Size) (nth r7_1 ((↑r7_1.length:Int)-(1:Int)).toNat) (c0) (r12)).bind λr13=>
 some (r13,true)
 else
 some (false,true)))
 else
 some (false,false)
theorem Aaz {a0} {c0} {steps0} {v} (h:Fw a0 c0 steps0=some v):Ret Try.prog Nl [(Aj false) a0,(Ah false) c0,(slr false 2 (Af false)) steps0] ((λr=>V.tup [V.bool r.1,V.bool r.2]) v):=by
 refine Bn Amv (Nat.le_of_ble_eq_true rfl) ?_;unfold Fw at h;refine Cells.lit rfl rfl<|Cells.lit rfl rfl<|CallQ.o V.bool (by rfl) h (λr h=>Ma h) (λr1 h=> ?_)
 refine Br.flip<|Br.ob h (λp2 h=> ?_) (λp2 h=> ?_)
 ·refine CutQ.o (λt:(Unit ⊕ Unit)=>match t with | (.inl s)=>(Ex.ret,[7,6],[(7,A.val (V.bool (true))),(6,A.val (V.bool (false)))]) | (.inr s)=>(Ex.normal,[4,3,2],[(4,A.val ((rP true (Ah false)) (c0))),(3,A.val ((rP true (Aj false)) (a0))),(2,A.val ((slr false 2 (Af false)) (steps0)))])) h ?_ ?_
  ·intro t h;refine Len.map<|Br.od h (λp3 h=> ?_) (λp3 h=> ?_)
   ·refine Br.yes<|Br.yes<|Br.yes<|Br.yes ?_
    cases h;exact ⟨rfl,rfl⟩
   refine Br.no<|Len.map<|Br.no<|Br.no<|Br.od h (λp4 h=> ?_) (λp4 h=> ?_)
   ·cases h;exact ⟨rfl,rfl⟩
   cases h;exact ⟨rfl,rfl⟩
  rintro (⟨⟩ | ⟨⟩) h
  ·try dsimp only at h
   cases h;exact (by rfl)
  try dsimp only at h
  refine Cells.lit rfl rfl<|Cells.lit rfl rfl<|Cells.lit rfl rfl<|CallP.o (slr false 1 (slr false 1 Ae)) (by rfl) h (λr h=>Ret.frz (K0 h) (by first | rfl | simp only [V.fz,Ab,slr] | simp [Aa,V.fz,fzL,V.up,upL,Ab,Ac,Ad,slr])) (λr6 h=> ?_)
  refine CallP.o (λr=>V.tup [(rOl 1 (slr false 1 Ae)) r.1,V.bool r.2]) (by rfl) h (λr h=>Afq h) (λr7 h=> ?_);rcases r7 with ⟨(_ | r7_1),r7_2⟩
  ·try dsimp only at h
   refine Br.ob h (λp8 h=> ?_) (λp8 h=> ?_)
   ·refine Br.yes<|Cells.lit rfl rfl<|Br.yes<|Br.yes<|Br.yes ?_
    cases h
   refine Br.no<|Br.no<|Br.no<|Br.no<|Br.no<|Br.no<|Br.no<|Br.no<|Br.no<|Br.no<|Br.no<|Br.no ?_
   cases h;exact (by rfl)
  try dsimp only at h
  refine Br.ob h (λp9 h=> ?_) (λp9 h=> ?_)
  ·refine Br.yes<|Cells.lit rfl rfl<|Br.yes<|Br.yes<|Br.yes<|Len.map<|Br.yes<|Ask.o h λp10 h=>Br.yes<|Len.map<|Ask.o h λp11 h=>Elem.o (by first | omega | (simp [Au] at * <;> omega))<|Br.yes<|Br.yes<|Cells.lit rfl rfl<|Br.yes<|Cells.lit rfl rfl<|Br.yes<|CallP.o (slr true 1 (slr true 1 Ae)) (by rfl) h (λr h=>K1 h) (λr12 h=> ?_)
   refine Br.yes<|CallQ.rd V.bool (by first | rfl | simp only [V.fz,fzL,Ab,slr] | simp [Aa,V.fz,fzL,V.up,upL,Ab,Ac,Ad,slr]) (λ_=>rfl) h (λr h=>Tf h) (λr13 h=> ?_)
   refine Br.yes ?_;cases h;exact (by rfl)
  refine Br.no<|Br.no<|Br.no<|Br.no<|Br.no<|Br.no<|Br.no<|Br.no<|Br.no<|Br.no<|Br.no<|Br.no ?_
  cases h;exact (by rfl)
 cases h;exact (by rfl)
noncomputable def Bu (a0:SAlgebra) (c0:SCondition) (rows0:List (List Int)) (r5:List (List Int)):(Int×Bool)->Option ((Int×Bool) ⊕ (Unit ⊕ Bool)):=λ(x25,x9)=>
 if x25<(↑rows0.length:Int) then
 ask ((0:Int)<=x25/\x25<(↑rows0.length:Int)) <|
 ((ask (InI ((↑r5.length:Int)*a0.Size)) <|
 ask (InI ((↑r5.length:Int)*a0.Size*a0.Size)) <|
 if (↑(nth rows0 x25.toNat).length:Int)≠(↑r5.length:Int)*a0.Size*a0.Size then
 some (.inl ())
 else
 (Gf (nth rows0 x25.toNat) (a0.Size)).bind λr11=>
 if (r11)=true then
 some (.inr ())
 else
 some (.inl ()):Option (Unit ⊕ Unit))).bind λt=>match t with
 | (.inl _)=>(some (.inr (.inl ())))
 | (.inr _)=>(if (x9)=true then
 ask (InI (x25+(1:Int))) <|
 some (.inl (x25+(1:Int),true))
 else
 (Fs (a0.Size) (nth rows0 x25.toNat) (c0) (r5)).bind λr16=>
 ask (InI (x25+(1:Int))) <|
 some (.inl (x25+(1:Int),r16)))
 else
 some (.inr (.inr x9))
def Js (a0:SAlgebra) (c0:SCondition) (rows0:List (List Int)) (r5:List (List Int)):(Int×Bool)->St:=λs=>[(25,A.val (Ae s.1)),(24,A.val (Ae ((↑rows0.length:Int)))),(23,A.val (slr false 1 (slr false 1 Ae) rows0)),(9,A.val (V.bool s.2)),(8,A.val (slr true 1 (slr true 1 Ae) r5)),(4,A.val (rP true (Ah false) c0)),(3,A.val (rP true (Aj false) a0)),(2,A.val (slr false 1 (slr false 1 Ae) rows0))]
def Pp (a0:SAlgebra) (c0:SCondition) (rows0:List (List Int)) (_r5:List (List Int)):(Unit ⊕ Bool)->Tgt
 | (.inl _s)=>(Ex.ret,[7,6],[(7,A.val (V.bool false)),(6,A.val (V.bool false))])
 | (.inr s)=>((Ex.exit 0),[9,4,3,2],[(9,A.val (V.bool s)),(4,A.val (rP true (Ah false) c0)),(3,A.val (rP true (Aj false) a0)),(2,A.val (slr false 1 (slr false 1 Ae) rows0))])
theorem Zd {a0} {c0} {rows0} {r5} (s) o (h:Bu a0 c0 rows0 r5 s=some o):vc Try.prog Pk (Ch [25,24,23,9,8,4,3,2] (Js a0 c0 rows0 r5) (Pp a0 c0 rows0 r5) o) (Js a0 c0 rows0 r5 s):=by
 obtain ⟨x25,x9⟩:=s;unfold Bu at h;try dsimp only at h
 refine Br.od h (λp6 h=> ?_) (λp6 h=> ?_)
 ·refine Len.map<|Ask.o h λp7 h=>Elem.o (by first | omega | (simp [Au] at * <;> omega))<|CutQ.o (λt:(Unit ⊕ Unit)=>match t with | (.inl s)=>(Ex.ret,[7,6],[(7,A.val (V.bool (false))),(6,A.val (V.bool (false)))]) | (.inr s)=>(Ex.normal,[11,25,24,23,9,8,4,3,2],[(11,A.val ((slr false 1 Ae) (nth rows0 x25.toNat))),(25,A.val (Ae (x25))),(24,A.val (Ae ((↑rows0.length:Int)))),(23,A.val ((slr false 1 (slr false 1 Ae)) (rows0))),(9,A.val (V.bool (x9))),(8,A.val ((slr true 1 (slr true 1 Ae)) (r5))),(4,A.val ((rP true (Ah false)) (c0))),(3,A.val ((rP true (Aj false)) (a0))),(2,A.val ((slr false 1 (slr false 1 Ae)) (rows0)))])) h ?_ ?_
  ·intro t h;refine Len.map<|Len.map<|Cells.lit rfl rfl<|Ask.o h λp8 h=>Cells.lit rfl rfl<|Ask.o h λp9 h=>Br.on h (λp10 h=> ?_) (λp10 h=> ?_)
   ·refine Br.yes<|Br.yes<|Br.yes<|Br.yes<|Br.yes<|Br.yes ?_
    cases h;exact ⟨rfl,rfl⟩
   refine Br.no<|Br.no<|Cells.lit rfl rfl<|Br.no<|CallQ.o V.bool (by rfl) h (λr h=>Na h) (λr11 h=> ?_)
   refine Br.no<|Br.no<|Br.flip<|Br.ob h (λp12 h=> ?_) (λp12 h=> ?_)
   ·cases h;exact ⟨rfl,rfl⟩
   cases h;exact ⟨rfl,rfl⟩
  rintro (⟨⟩ | ⟨⟩) h
  ·try dsimp only at h
   cases h;exact ⟨rfl,rfl⟩
  try dsimp only at h
  refine Br.ob h (λp14 h=> ?_) (λp14 h=> ?_)
  ·refine Br.yes<|Br.yes<|Br.yes<|Br.yes<|Br.yes<|Br.yes<|Ask.o h λp15 h=> ?_
   cases h;exact ⟨rfl,rfl⟩
  refine Br.no<|Cells.lit rfl rfl<|Br.no<|Br.no<|Cells.lit rfl rfl<|Br.no<|Br.no<|CallQ.rd V.bool (by first | rfl | simp only [V.fz,fzL,V.up,Ab,slr] | simp [Aa,V.fz,fzL,V.up,upL,Ab,Ac,Ad,slr]) (λ_=>rfl) h (λr h=>Tf h) (λr16 h=> ?_)
  refine Br.no<|Ask.o h λp17 h=> ?_
  cases h;exact ⟨rfl,rfl⟩
 cases h;exact ⟨rfl,rfl⟩
noncomputable def Dk (a0:SAlgebra) (c0:SCondition) (rows0:(List (List Int))):Option (Bool×Bool):=
 (((E0 (a0) (c0)).bind λr1=>
 if (r1)=true then
 if (↑rows0.length:Int)>(150:Int) then
 some (.inl ())
 else
 some (.inr ())
 else
 some (.inl ()):Option (Unit ⊕ Unit))).bind λt=>match t with
 | (.inl _)=>(some (false,false))
 | (.inr _)=>((Ek c0).bind λr5=>
 (Aq (Bu a0 c0 rows0 r5) ((0:Int),false)).bind λt=>match t with
 | (.inl _)=>(some (false,false))
 | (.inr q18_9)=>(if (q18_9)=true then
 some (false,true)
 else
 (Cf (a0.Size) (c0)).bind λr20=>
 (G8 (a0) (r20) (rows0)).bind λr21=>
 some (r21,true)))
theorem Tt {a0} {c0} {rows0} {v} (h:Dk a0 c0 rows0=some v):Ret Try.prog Iu [(Aj false) a0,(Ah false) c0,(slr false 1 (slr false 1 Ae)) rows0] ((λr=>V.tup [V.bool r.1,V.bool r.2]) v):=by
 refine Bn Ad8 (Nat.le_of_ble_eq_true rfl) ?_;unfold Dk at h;refine CutQ.o (λt:(Unit ⊕ Unit)=>match t with | (.inl s)=>(Ex.ret,[7,6],[(7,A.val (V.bool (false))),(6,A.val (V.bool (false)))]) | (.inr s)=>(Ex.normal,[4,3,2],[(4,A.val ((rP true (Ah false)) (c0))),(3,A.val ((rP true (Aj false)) (a0))),(2,A.val ((slr false 1 (slr false 1 Ae)) (rows0)))])) h ?_ ?_
 ·intro t h;refine Cells.lit rfl rfl<|Cells.lit rfl rfl<|CallQ.o V.bool (by rfl) h (λr h=>Ma h) (λr1 h=> ?_)
  refine Br.flip<|Br.ob h (λp2 h=> ?_) (λp2 h=> ?_)
  ·refine Br.no<|Len.map<|Br.no<|Br.no<|Br.od h (λp3 h=> ?_) (λp3 h=> ?_)
   ·cases h;exact ⟨rfl,rfl⟩
   cases h;exact ⟨rfl,rfl⟩
  refine Br.yes<|Br.yes<|Br.yes<|Br.yes ?_
  cases h;exact ⟨rfl,rfl⟩
 rintro (⟨⟩ | ⟨⟩) h
 ·try dsimp only at h
  cases h;exact (by rfl)
 try dsimp only at h
 refine Cells.lit rfl rfl<|CallQ.o (slr true 1 (slr true 1 Ae)) (by rfl) h (λr h=>K1 h) (λr5 h=> ?_)
 refine Len.map<|LoopQ.o [25,24,23,9,8,4,3,2] (Js a0 c0 rows0 r5) (Pp a0 c0 rows0 r5) h (λs o h=>Zd s o h) (by rfl) (by rintro (_ | _)<;>rfl) ?_
 rintro (⟨⟩ | q18_9) h
 ·try dsimp only at h
  cases h;exact (by rfl)
 try dsimp only at h
 refine Br.flip<|Br.ob h (λp19 h=> ?_) (λp19 h=> ?_)
 ·refine Br.no<|Br.no<|Br.no<|Br.no<|Br.no<|Br.no<|Br.no ?_
  cases h;exact (by rfl)
 refine Cells.lit rfl rfl<|Br.yes<|Br.yes<|Cells.lit rfl rfl<|Br.yes<|Cells.lit rfl rfl<|Br.yes<|CallP.o (slr true 1 (slr true 1 Ae)) (by rfl) h (λr h=>K0 h) (λr20 h=> ?_)
 refine Br.yes<|Br.yes<|CallQ.rd V.bool (by first | rfl | simp only [V.fz,fzL,V.up,Ab,slr] | simp [Aa,V.fz,fzL,V.up,upL,Ab,Ac,Ad,slr]) (λ_=>rfl) h (λr h=>Aew h) (λr21 h=> ?_)
 refine Br.yes ?_;cases h;exact (by rfl)
end Go.Proofs.Ytaalgpkajkogkaa.Ax
