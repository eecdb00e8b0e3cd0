/-
 What the functions compute, as functions on plain data, and that the program does compute it; written by program.
-/
import Derived.Test.YtaalgpkajkogkaaCode
import Derived.Test.YtaalgpkajkogkaaG1
import Derived.Test.YtaalgpkajkogkaaG2
namespace Go.Proofs.Ytaalgpkajkogkaa.Ax
open Go
set_option maxRecDepth 100000
set_option maxHeartbeats 4000000
noncomputable def Fa (steps0:List SCloneStep):(Int×(List SCloneStep))->Option ((Int×(List SCloneStep)) ⊕ (List SCloneStep)):=λ(x4,x3)=>
 if x4<(↑steps0.length:Int) then
 ask ((0:Int)<=x4/\x4<(↑steps0.length:Int)) <|
 ask ((0:Int)<=x4/\x4<(↑steps0.length:Int)) <|
 ask ((0:Int)<=x4/\x4<(↑steps0.length:Int)) <|
 ask ((0:Int)<=x4/\x4<(↑steps0.length:Int)) <|
 (Fc ((nth steps0 x4.toNat).Args)).bind λr6=>
 ask ((0:Int)<=x4/\x4<(↑steps0.length:Int)) <|
 ask ((x3).length+(([{ Op:=(nth steps0 x4.toNat).Op,Args:=r6 }]:List SCloneStep)).length<=LIM) <|
 ask (InI (x4+(1:Int))) <|
 some (.inl (x4+(1:Int),x3++[{ Op:=(nth steps0 x4.toNat).Op,Args:=r6 }]))
 else
 some (.inr x3)
def O8 (steps0:List SCloneStep):(Int×(List SCloneStep))->St:=λs=>[(4,A.val (Ae s.1)),(3,A.val (slr true 2 (Af true) s.2)),(0,A.val (slr false 2 (Af false) steps0))]
def W7 (_steps0:List SCloneStep):(List SCloneStep)->Tgt
 | s=>((Ex.exit 0),[3],[(3,A.val (slr true 2 (Af true) s))])
theorem Ajj {steps0} (s) o (h:Fa steps0 s=some o):vc Try.prog Wh (Ch [4,3,0] (O8 steps0) (W7 steps0) o) (O8 steps0 s):=by
 obtain ⟨x4,x3⟩:=s;unfold Fa at h;try dsimp only at h
 refine Len.map<|Br.od h (λp1 h=> ?_) (λp1 h=> ?_)
 ·refine Len.map<|Ask.o h λp2 h=>Elem.o (by first | omega | (simp [Au] at * <;> omega))<|Len.map<|Ask.o h λp3 h=>Elem.o (by first | omega | (simp [Au] at * <;> omega))<|SameQ.mk ⟨rfl,?_⟩
  refine SameQ.mk ⟨rfl,?_⟩;refine SameQ.mk ⟨rfl,?_⟩;refine Len.map<|Ask.o h λp4 h=>Elem.o (by first | omega | (simp [Au] at * <;> omega))<|SameQ.mk ⟨rfl,?_⟩
  refine SameQ.mk ⟨rfl,?_⟩;refine SameQ.mk ⟨rfl,?_⟩;refine SameQ.mk ⟨rfl,?_⟩;refine SameQ.mk ⟨rfl,?_⟩;refine Len.map<|Ask.o h λp5 h=>Elem.o (by first | omega | (simp [Au] at * <;> omega))<|SameQ.mk ⟨rfl,?_⟩
  refine SameQ.mk ⟨rfl,?_⟩;refine SameQ.mk ⟨rfl,?_⟩;refine CallQ.o (slr true 1 Ae) (by rfl) h (λr h=>P0 h) (λr6 h=> ?_);refine SameQ.mk ⟨rfl,?_⟩;refine SameQ.mk ⟨rfl,?_⟩;refine SameQ.mk ⟨rfl,?_⟩;refine Len.map<|Ask.o h λp7 h=>Elem.o (by first | omega | (simp [Au] at * <;> omega))<|SameQ.mk ⟨rfl,?_⟩
  refine SameQ.mk ⟨rfl,?_⟩;refine SameQ.mk ⟨rfl,?_⟩;refine SameQ.mk ⟨rfl,?_⟩;refine BslQ.o (Af true) ([{ Op:=(nth steps0 x4.toNat).Op,Args:=r6 }]) (by exact λ_=>⟨rfl,rfl⟩) (by rfl)<|SameQ.mk ⟨rfl,?_⟩
  refine NoOwn.own rfl<|AppQ.o (m:=2) (Af true) (by exact λ_=>⟨rfl,rfl⟩) (x3) ([{ Op:=(nth steps0 x4.toNat).Op,Args:=r6 }]) (by rfl) (by rfl) h λh=>Ask.o h λp8 h=> ?_
  cases h;exact ⟨rfl,rfl⟩
 cases h;exact ⟨rfl,rfl⟩
noncomputable def I7 (steps0:(List SCloneStep)):Option (List SCloneStep):=
 (Aq (Fa steps0) ((0:Int),Av SCloneStep)).bind λq9_3=>
 some q9_3
theorem Acv {steps0} {v} (h:I7 steps0=some v):Ret Try.prog Ow [(slr false 2 (Af false)) steps0] (slr true 2 (Af true) v):=by
 refine Bn Apa (Nat.le_of_ble_eq_true rfl) ?_;unfold I7 at h;refine BslQ.o (Af true) (Av SCloneStep) (by exact λ_=>⟨rfl,rfl⟩) (by rfl)<|LoopQ.o [4,3,0] (O8 steps0) (W7 steps0) h (λs o h=>Ajj s o h) (by rfl) (λ_=>rfl) ?_
 rintro q9_3 h;try dsimp only at h
 cases h;exact (by rfl)
noncomputable def Dl (_a0:SAlgebra) (_first0:List (List Int)) (steps0:List SCloneStep) (x17:Int) (x8:List (List Int)):(Int×(List (List Int)))->Option ((Int×(List (List Int))) ⊕ (List (List Int))):=λ(x82,x11)=>
 if x82<(↑(nth steps0 x17.toNat).Args.length:Int) then
 ask ((0:Int)<=x82/\x82<(↑(nth steps0 x17.toNat).Args.length:Int)) <|
 ask ((0:Int)<=nth (nth steps0 x17.toNat).Args x82.toNat/\nth (nth steps0 x17.toNat).Args x82.toNat<(↑x8.length:Int)) <|
 ask ((x11).length+([nth x8 (nth (nth steps0 x17.toNat).Args x82.toNat).toNat]).length<=LIM) <|
 ask (InI (x82+(1:Int))) <|
 some (.inl (x82+(1:Int),x11++[nth x8 (nth (nth steps0 x17.toNat).Args x82.toNat).toNat]))
 else
 some (.inr x11)
def Ku (a0:SAlgebra) (first0:List (List Int)) (steps0:List SCloneStep) (x17:Int) (x8:List (List Int)):(Int×(List (List Int)))->St:=λs=>[(82,A.val (Ae s.1)),(81,A.val (Ae ((↑(nth steps0 x17.toNat).Args.length:Int)))),(80,A.val ((slr false 1 Ae) ((nth steps0 x17.toNat).Args))),(11,A.val (slr true 1 (slr false 1 Ae) s.2)),(10,A.val ((rP true (Af false)) (nth steps0 x17.toNat))),(17,A.val (Ae x17)),(16,A.val (Ae ((↑steps0.length:Int)))),(15,A.val (slr false 2 (Af false) steps0)),(8,A.val (slr true 1 (slr false 1 Ae) x8)),(3,A.val (rP true (Aj false) a0)),(1,A.val (slr false 1 (slr false 1 Ae) first0))]
def Q4 (a0:SAlgebra) (first0:List (List Int)) (steps0:List SCloneStep) (x17:Int) (x8:List (List Int)):(List (List Int))->Tgt
 | s=>((Ex.exit 2),[11,10,17,16,15,8,3,1],[(11,A.val (slr true 1 (slr false 1 Ae) s)),(10,A.val ((rP true (Af false)) (nth steps0 x17.toNat))),(17,A.val (Ae x17)),(16,A.val (Ae ((↑steps0.length:Int)))),(15,A.val (slr false 2 (Af false) steps0)),(8,A.val (slr true 1 (slr false 1 Ae) x8)),(3,A.val (rP true (Aj false) a0)),(1,A.val (slr false 1 (slr false 1 Ae) first0))])
theorem Abi {a0} {first0} {steps0} {x17} {x8} (s) o (h:Dl a0 first0 steps0 x17 x8 s=some o):vc Try.prog Qz (Ch [82,81,80,11,10,17,16,15,8,3,1] (Ku a0 first0 steps0 x17 x8) (Q4 a0 first0 steps0 x17 x8) o) (Ku a0 first0 steps0 x17 x8 s):=by
 obtain ⟨x82,x11⟩:=s;unfold Dl at h;try dsimp only at h
 refine Br.od h (λp18 h=> ?_) (λp18 h=> ?_)
 ·refine Len.map<|Ask.o h λp19 h=>Elem.o (by first | omega | (simp [Au] at * <;> omega))<|Len.map<|Ask.o h λp20 h=>Cells.one (λ_=>⟨rfl,rfl⟩) (by first | omega | (simp [Au] at * <;> omega))<|BslQ.o (slr false 1 Ae) ([nth x8 (nth (nth steps0 x17.toNat).Args x82.toNat).toNat]) (by exact λ_=>⟨rfl,rfl⟩) (by rfl)<|NoOwn.o (λ_=>rfl)<|AppQ.o (m:=1) (slr false 1 Ae) (by exact λ_=>⟨rfl,rfl⟩) (x11) ([nth x8 (nth (nth steps0 x17.toNat).Args x82.toNat).toNat]) (by rfl) (by rfl) h λh=>Ask.o h λp21 h=> ?_
  cases h;exact ⟨rfl,rfl⟩
 cases h;exact ⟨rfl,rfl⟩
noncomputable def Cq (a0:SAlgebra) (first0:List (List Int)) (steps0:List SCloneStep):(Int×(List (List Int)))->Option ((Int×(List (List Int))) ⊕ (Unit ⊕ (List (List Int)))):=λ(x17,x8)=>
 if x17<(↑steps0.length:Int) then
 ask ((0:Int)<=x17/\x17<(↑steps0.length:Int)) <|
 if (nth steps0 x17.toNat).Op=(-1:Int) then
 ((if (↑(nth steps0 x17.toNat).Args.length:Int)≠(1:Int) then
 some (.inl ())
 else
 (Gf ((nth steps0 x17.toNat).Args) ((↑first0.length:Int))).bind λr5=>
 if (r5)=true then
 some (.inr ())
 else
 some (.inl ()):Option (Unit ⊕ Unit))).bind λt=>match t with
 | (.inl _)=>(some (.inr (.inl ())))
 | (.inr _)=>(ask ((0:Int)<=(0:Int)/\(0:Int)<(↑(nth steps0 x17.toNat).Args.length:Int)) <|
 ask ((0:Int)<=nth (nth steps0 x17.toNat).Args (Int.toNat (0:Int))/\nth (nth steps0 x17.toNat).Args (Int.toNat (0:Int))<(↑first0.length:Int)) <|
 ask ((x8).length+([nth first0 (nth (nth steps0 x17.toNat).Args (Int.toNat (0:Int))).toNat]).length<=LIM) <|
 ask (InI (x17+(1:Int))) <|
 some (.inl (x17+(1:Int),x8++[nth first0 (nth (nth steps0 x17.toNat).Args (Int.toNat (0:Int))).toNat])))
 else
 ((if (nth steps0 x17.toNat).Op<(0:Int) then
 some (.inl ())
 else
 if (nth steps0 x17.toNat).Op>=(↑a0.Ops.length:Int) then
 some (.inl ())
 else
 ask ((0:Int)<=(nth steps0 x17.toNat).Op/\(nth steps0 x17.toNat).Op<(↑a0.Ops.length:Int)) <|
 if (↑(nth steps0 x17.toNat).Args.length:Int)≠(nth a0.Ops (nth steps0 x17.toNat).Op.toNat).Arity then
 some (.inl ())
 else
 (Gf ((nth steps0 x17.toNat).Args) (x17)).bind λr15=>
 if (r15)=true then
 some (.inr ())
 else
 some (.inl ()):Option (Unit ⊕ Unit))).bind λt=>match t with
 | (.inl _)=>(some (.inr (.inl ())))
 | (.inr _)=>((Aq (Dl a0 first0 steps0 x17 x8) ((0:Int),Av (List Int))).bind λq22_11=>
 ask ((0:Int)<=(nth steps0 x17.toNat).Op/\(nth steps0 x17.toNat).Op<(↑a0.Ops.length:Int)) <|
 ask ((0:Int)<=(0:Int)/\(0:Int)<(↑first0.length:Int)) <|
 (Dz (a0.Size) (nth a0.Ops (nth steps0 x17.toNat).Op.toNat) (q22_11) ((↑(nth first0 (Int.toNat (0:Int))).length:Int))).bind λr25=>
 ask ((x8).length+([r25]).length<=LIM) <|
 ask (InI (x17+(1:Int))) <|
 some (.inl (x17+(1:Int),x8++[r25])))
 else
 some (.inr (.inr x8))
def Kx (a0:SAlgebra) (first0:List (List Int)) (steps0:List SCloneStep):(Int×(List (List Int)))->St:=λs=>[(17,A.val (Ae s.1)),(16,A.val (Ae ((↑steps0.length:Int)))),(15,A.val (slr false 2 (Af false) steps0)),(8,A.val (slr true 1 (slr false 1 Ae) s.2)),(3,A.val (rP true (Aj false) a0)),(1,A.val (slr false 1 (slr false 1 Ae) first0))]
def Q1 (_a0:SAlgebra) (_first0:List (List Int)) (_steps0:List SCloneStep):(Unit ⊕ (List (List Int)))->Tgt
 | (.inl _s)=>(Ex.ret,[7,6],[(7,A.val (V.bool false)),(6,A.val ((slr true 1 (slr true 1 Ae)) (Av (List Int))))])
 | (.inr s)=>((Ex.exit 0),[8],[(8,A.val (slr true 1 (slr false 1 Ae) s))])
theorem Abq {a0} {first0} {steps0} (s) o (h:Cq a0 first0 steps0 s=some o):vc Try.prog Q0 (Ch [17,16,15,8,3,1] (Kx a0 first0 steps0) (Q1 a0 first0 steps0) o) (Kx a0 first0 steps0 s):=by
 obtain ⟨x17,x8⟩:=s;unfold Cq at h;try dsimp only at h
 refine Br.od h (λp1 h=> ?_) (λp1 h=> ?_)
 ·refine Len.map<|Ask.o h λp2 h=>Elem.o (by first | omega | (simp [Au] at * <;> omega))<|SetKids.lit rfl<|Cells.lit rfl rfl<|Br.oe h (λp3 h=> ?_) (λp3 h=> ?_)
  ·refine CutQ.o (λt:(Unit ⊕ Unit)=>match t with | (.inl s)=>(Ex.ret,[7,6],[(7,A.val (V.bool (false))),(6,A.val ((slr true 1 (slr true 1 Ae)) (Av (List Int))))]) | (.inr s)=>(Ex.normal,[10,17,16,15,8,3,1],[(10,A.val ((rP true (Af false)) (nth steps0 x17.toNat))),(17,A.val (Ae (x17))),(16,A.val (Ae ((↑steps0.length:Int)))),(15,A.val ((slr false 2 (Af false)) (steps0))),(8,A.val ((slr true 1 (slr false 1 Ae)) (x8))),(3,A.val ((rP true (Aj false)) (a0))),(1,A.val ((slr false 1 (slr false 1 Ae)) (first0)))])) h ?_ ?_
   ·intro t h;refine Cells.lit rfl rfl<|Len.map<|Br.on h (λp4 h=> ?_) (λp4 h=> ?_)
    ·refine Br.yes<|Br.yes<|Br.yes<|Br.yes<|Br.yes<|Br.yes<|Br.yes ?_
     cases h;exact ⟨rfl,rfl⟩
    refine Br.no<|Cells.lit rfl rfl<|Br.no<|Br.no<|Len.map<|Br.no<|CallQ.o V.bool (by rfl) h (λr h=>Na h) (λr5 h=> ?_)
    refine Br.no<|Br.no<|Br.flip<|Br.ob h (λp6 h=> ?_) (λp6 h=> ?_)
    ·cases h;exact ⟨rfl,rfl⟩
    cases h;exact ⟨rfl,rfl⟩
   rintro (⟨⟩ | ⟨⟩) h
   ·try dsimp only at h
    cases h;exact ⟨rfl,rfl⟩
   try dsimp only at h
   refine Cells.lit rfl rfl<|Len.map<|Ask.o h λp8 h=>Elem.o (by first | omega | (simp [Au] at * <;> omega))<|Len.map<|Ask.o h λp9 h=>Elem.o (by first | omega | (simp [Au] at * <;> omega))<|BslQ.o (slr false 1 Ae) ([nth first0 (nth (nth steps0 x17.toNat).Args (Int.toNat (0:Int))).toNat]) (by exact λ_=>⟨rfl,rfl⟩) (by rfl)<|NoOwn.o (λ_=>rfl)<|AppQ.o (m:=1) (slr false 1 Ae) (by exact λ_=>⟨rfl,rfl⟩) (x8) ([nth first0 (nth (nth steps0 x17.toNat).Args (Int.toNat (0:Int))).toNat]) (by rfl) (by rfl) h λh=>Ask.o h λp10 h=> ?_
   cases h;exact ⟨rfl,rfl⟩
  refine CutQ.o (λt:(Unit ⊕ Unit)=>match t with | (.inl s)=>(Ex.ret,[7,6],[(7,A.val (V.bool (false))),(6,A.val ((slr true 1 (slr true 1 Ae)) (Av (List Int))))]) | (.inr s)=>(Ex.normal,[10,17,16,15,8,3,1],[(10,A.val ((rP true (Af false)) (nth steps0 x17.toNat))),(17,A.val (Ae (x17))),(16,A.val (Ae ((↑steps0.length:Int)))),(15,A.val ((slr false 2 (Af false)) (steps0))),(8,A.val ((slr true 1 (slr false 1 Ae)) (x8))),(3,A.val ((rP true (Aj false)) (a0))),(1,A.val ((slr false 1 (slr false 1 Ae)) (first0)))])) h ?_ ?_
  ·intro t h;refine Cells.lit rfl rfl<|Br.od h (λp11 h=> ?_) (λp11 h=> ?_)
   ·refine Br.yes<|Br.yes<|Br.yes<|Br.yes<|Br.yes<|Br.yes<|Br.yes<|Br.yes<|Br.yes<|Br.yes<|Br.yes<|Br.yes<|Br.yes<|Br.yes<|Br.yes<|Br.yes<|Br.yes<|Br.yes<|Br.yes<|Br.yes<|Br.yes<|Br.yes<|Br.yes<|Br.yes<|Br.yes ?_
    cases h;exact ⟨rfl,rfl⟩
   refine Br.no<|Cells.lit rfl rfl<|Br.no<|Br.no<|Cells.lit rfl rfl<|Br.no<|Len.map<|Br.no<|Br.no<|Br.od h (λp12 h=> ?_) (λp12 h=> ?_)
   ·refine Br.yes<|Br.yes<|Br.yes<|Br.yes<|Br.yes<|Br.yes<|Br.yes<|Br.yes<|Br.yes<|Br.yes<|Br.yes<|Br.yes<|Br.yes<|Br.yes<|Br.yes<|Br.yes<|Br.yes<|Br.yes ?_
    cases h;exact ⟨rfl,rfl⟩
   refine Br.no<|Cells.lit rfl rfl<|Br.no<|Len.map<|Br.no<|Br.no<|Cells.lit rfl rfl<|Br.no<|Br.no<|Cells.lit rfl rfl<|Br.no<|Len.map<|Ask.o h λp13 h=>Elem.o (by first | omega | (simp [Au] at * <;> omega))<|Br.no<|Br.no<|Br.no<|Br.no<|Br.on h (λp14 h=> ?_) (λp14 h=> ?_)
   ·refine Br.yes<|Br.yes<|Br.yes<|Br.yes<|Br.yes<|Br.yes ?_
    cases h;exact ⟨rfl,rfl⟩
   refine Br.no<|Cells.lit rfl rfl<|Br.no<|Br.no<|CallQ.o V.bool (by rfl) h (λr h=>Na h) (λr15 h=> ?_)
   refine Br.no<|Br.no<|Br.flip<|Br.ob h (λp16 h=> ?_) (λp16 h=> ?_)
   ·cases h;exact ⟨rfl,rfl⟩
   cases h;exact ⟨rfl,rfl⟩
  rintro (⟨⟩ | ⟨⟩) h
  ·try dsimp only at h
   cases h;exact ⟨rfl,rfl⟩
  try dsimp only at h
  refine BslQ.o (slr true 1 Ae) (Av (List Int)) (by exact λ_=>⟨rfl,rfl⟩) (by rfl)<|Cells.lit rfl rfl<|Len.map<|LoopQ.o [82,81,80,11,10,17,16,15,8,3,1] (Ku a0 first0 steps0 x17 x8) (Q4 a0 first0 steps0 x17 x8) h (λs o h=>Abi s o h) (by rfl) (λ_=>rfl) ?_
  rintro q22_11 h;try dsimp only at h
  refine FrzQ.d (V.sl false (1:Nat) (List.map (slr false (1:Nat) Ae) q22_11)) (by first | (simp only [slr];done) | exact (Ak _).trans (Eq.trans (b:=V.fz (V.sl true (1:Nat) (List.map (slr false (1:Nat) Ae) q22_11))) rfl (Ac _ _ _)) | (simp [Ak,V.fz,Ab,Ac,slr];done) | (simp [Ak,V.fz,fzL,Ab,slr];done))<|Cells.lit rfl rfl<|Cells.lit rfl rfl<|Cells.lit rfl rfl<|Len.map<|Ask.o h λp23 h=>Elem.o (by first | omega | (simp [Au] at * <;> omega))<|Len.map<|Ask.o h λp24 h=>Elem.o (by first | omega | (simp [Au] at * <;> omega))<|Len.map<|CallP.o (slr false 1 Ae) (by rfl) h (λr h=>Ret.frz (Ll h) (by first | rfl | simp only [V.fz,Ab,slr] | simp [Aa,V.fz,fzL,V.up,upL,Ab,Ac,Ad,slr])) (λr25 h=> ?_)
  refine BslQ.o (slr false 1 Ae) [r25] (by exact λ_=>⟨rfl,rfl⟩) (by rfl)<|NoOwn.o (λ_=>rfl)<|AppQ.o (m:=1) (slr false 1 Ae) (by exact λ_=>⟨rfl,rfl⟩) (x8) ([r25]) (by rfl) (by rfl) h λh=>Ask.o h λp26 h=> ?_
  cases h;exact ⟨rfl,rfl⟩
 cases h;exact ⟨rfl,rfl⟩
noncomputable def J7 (a0:SAlgebra) (first0:(List (List Int))) (steps0:(List SCloneStep)):Option ((Option (List (List Int)))×Bool):=
 (Aq (Cq a0 first0 steps0) ((0:Int),Av (List Int))).bind λt=>match t with
 | (.inl _)=>(some (some (Av (List Int)),false))
 | (.inr q27_8)=>(some (some q27_8,true))
theorem Afq {a0} {first0} {steps0} {v} (h:J7 a0 first0 steps0=some v):Ret Try.prog Np [(Aj false) a0,(slr false 1 (slr false 1 Ae)) first0,(slr false 2 (Af false)) steps0] ((λr=>V.tup [(rOl 1 (slr false 1 Ae)) r.1,V.bool r.2]) v):=by
 refine Aby Afh (Nat.le_of_ble_eq_true rfl) ?_;unfold J7 at h;conv=>whnf
 refine BslQ.o (slr true 1 Ae) (Av (List Int)) (by exact λ_=>⟨rfl,rfl⟩) (by rfl) ?_;conv=>whnf
 refine Len.map ?_;conv=>whnf
 refine LoopQ.o [17,16,15,8,3,1] (Kx a0 first0 steps0) (Q1 a0 first0 steps0) h (λs o h=>Abq s o h) (by rfl) (by rintro (_ | _)<;>rfl) ?_;rintro (⟨⟩ | q27_8) h
 ·try dsimp only at h
  conv=>whnf
  cases h;exact (by rfl)
 try dsimp only at h
 conv=>whnf
 cases h;exact (by first | rfl | simp only [Ai,V.fz,fzL,V.up,Ab,slr] | simp [Ai,Aa,V.fz,fzL,V.up,upL,Ab,Ac,Ad,slr])
end Go.Proofs.Ytaalgpkajkogkaa.Ax
