/-
 What the functions compute, as functions on plain data, and that the program does compute it; written by program.
-/
import Derived.Test.YtaalgpkajkogkaaCode
import Derived.Test.YtaalgpkajkogkaaG1
import Derived.Test.YtaalgpkajkogkaaG5
import Derived.Test.YtaalgpkajkogkaaG6
import Derived.Test.YtaalgpkajkogkaaG8
import Derived.Test.YtaalgpkajkogkaaG11
import Derived.Test.YtaalgpkajkogkaaG13
import Derived.Test.YtaalgpkajkogkaaG16
namespace Go.Proofs.Ytaalgpkajkogkaa.Ax
open Go
set_option maxRecDepth 100000
set_option maxHeartbeats 4000000
noncomputable def C9 (a0:SAlgebra) (_c0:SCondition) (rows0:List (List Int)) (r5:List (List Int)):Int->Option (Int ⊕ (Unit ⊕ Unit)):=λx9=>
 if x9<(↑rows0.length:Int) then
 ask ((0:Int)<=x9/\x9<(↑rows0.length:Int)) <|
 (Kn (a0.Size) (nth rows0 x9.toNat) (r5)).bind λr8=>
 if (r8)=true then
 ask (InI (x9+(1:Int))) <|
 some (.inl (x9+(1:Int)))
 else
 some (.inr (.inl ()))
 else
 some (.inr (.inr ()))
def Kc (a0:SAlgebra) (c0:SCondition) (rows0:List (List Int)) (r5:List (List Int)):Int->St:=λs=>[(9,A.val (Ae s)),(8,A.val (slr true 1 (slr true 1 Ae) r5)),(4,A.val (rP true (Ah false) c0)),(3,A.val (rP true (Aj false) a0)),(2,A.val (slr false 1 (slr false 1 Ae) rows0))]
def Po (a0:SAlgebra) (c0:SCondition) (rows0:List (List Int)) (r5:List (List Int)):(Unit ⊕ Unit)->Tgt
 | (.inl _s)=>(Ex.ret,[7,6],[(7,A.val (V.bool false)),(6,A.val (V.bool false))])
 | (.inr _s)=>((Ex.exit 0),[8,4,3,2],[(8,A.val (slr true 1 (slr true 1 Ae) r5)),(4,A.val (rP true (Ah false) c0)),(3,A.val (rP true (Aj false) a0)),(2,A.val (slr false 1 (slr false 1 Ae) rows0))])
theorem Aaf {a0} {c0} {rows0} {r5} (x9) o (h:C9 a0 c0 rows0 r5 x9=some o):vc Try.prog P3 (Ch [9,8,4,3,2] (Kc a0 c0 rows0 r5) (Po a0 c0 rows0 r5) o) (Kc a0 c0 rows0 r5 x9):=by
 unfold C9 at h;try dsimp only at h
 refine Len.map<|Br.od h (λp6 h=> ?_) (λp6 h=> ?_)
 ·refine Cells.lit rfl rfl<|Len.map<|Ask.o h λp7 h=>Elem.o (by first | omega | (simp [Au] at * <;> omega))<|CallQ.rd V.bool (by first | rfl | simp only [V.fz,Ab,slr] | simp [Aa,V.fz,fzL,V.up,upL,Ab,Ac,Ad,slr]) (λ_=>rfl) h (λr h=>Amw h) (λr8 h=> ?_)
  refine Br.flip<|Br.ob h (λp9 h=> ?_) (λp9 h=> ?_)
  ·refine Ask.o h λp10 h=> ?_
   cases h;exact ⟨rfl,rfl⟩
  cases h;exact ⟨rfl,rfl⟩
 cases h;exact ⟨rfl,rfl⟩
noncomputable def C6 (_a0:SAlgebra) (_c0:SCondition) (rows0:List (List Int)) (_r5:List (List Int)) (r12:List (List Int)):Int->Option (Int ⊕ (Unit ⊕ Unit)):=λx11=>
 if x11<(↑r12.length:Int) then
 ask ((0:Int)<=x11/\x11<(↑r12.length:Int)) <|
 (Bx (rows0) (nth r12 x11.toNat)).bind λr15=>
 if r15<(0:Int) then
 some (.inr (.inl ()))
 else
 ask (InI (x11+(1:Int))) <|
 some (.inl (x11+(1:Int)))
 else
 some (.inr (.inr ()))
def Jn (a0:SAlgebra) (c0:SCondition) (rows0:List (List Int)) (r5:List (List Int)) (r12:List (List Int)):Int->St:=λs=>[(11,A.val (Ae s)),(10,A.val (slr true 1 (slr true 1 Ae) r12)),(8,A.val (slr true 1 (slr true 1 Ae) r5)),(4,A.val (rP true (Ah false) c0)),(3,A.val (rP true (Aj false) a0)),(2,A.val (slr false 1 (slr false 1 Ae) rows0))]
def O6 (a0:SAlgebra) (c0:SCondition) (rows0:List (List Int)) (r5:List (List Int)) (r12:List (List Int)):(Unit ⊕ Unit)->Tgt
 | (.inl _s)=>(Ex.ret,[7,6],[(7,A.val (V.bool true)),(6,A.val (V.bool false))])
 | (.inr _s)=>((Ex.exit 2),[10,8,4,3,2],[(10,A.val (slr true 1 (slr true 1 Ae) r12)),(8,A.val (slr true 1 (slr true 1 Ae) r5)),(4,A.val (rP true (Ah false) c0)),(3,A.val (rP true (Aj false) a0)),(2,A.val (slr false 1 (slr false 1 Ae) rows0))])
theorem Zu {a0} {c0} {rows0} {r5} {r12} (x11) o (h:C6 a0 c0 rows0 r5 r12 x11=some o):vc Try.prog Qd (Ch [11,10,8,4,3,2] (Jn a0 c0 rows0 r5 r12) (O6 a0 c0 rows0 r5 r12) o) (Jn a0 c0 rows0 r5 r12 x11):=by
 unfold C6 at h;try dsimp only at h
 refine Len.map<|Br.od h (λp13 h=> ?_) (λp13 h=> ?_)
 ·refine Len.map<|Ask.o h λp14 h=>Cells.one (λ_=>⟨rfl,rfl⟩) (by first | omega | (simp [Au] at * <;> omega))<|Kid.one (λ_=>⟨rfl,rfl⟩) (by first | omega | (simp [Au] at * <;> omega))<|CallQ.rd Ae (by first | rfl | simp only [Aa,V.fz,V.up,Ab,slr] | simp [Aa,V.fz,fzL,V.up,upL,Ab,Ac,Ad,slr]) (λ_=>rfl) h (λr h=>Gw h) (λr15 h=> ?_)
  refine Br.od h (λp16 h=> ?_) (λp16 h=> ?_)
  ·cases h;exact ⟨rfl,rfl⟩
  refine Ask.o h λp17 h=> ?_
  cases h;exact ⟨rfl,rfl⟩
 cases h;exact ⟨rfl,rfl⟩
noncomputable def Dc (a0:SAlgebra) (c0:SCondition) (rows0:List (List Int)) (r5:List (List Int)) (_r12:List (List Int)):Int->Option (Int ⊕ (Unit ⊕ Unit)):=λx12=>
 if x12<(↑rows0.length:Int) then
 ask ((0:Int)<=x12/\x12<(↑rows0.length:Int)) <|
 (Fr (a0.Size) (nth rows0 x12.toNat) (c0) (r5)).bind λr21=>
 if (r21)=true then
 some (.inr (.inl ()))
 else
 ask (InI (x12+(1:Int))) <|
 some (.inl (x12+(1:Int)))
 else
 some (.inr (.inr ()))
def Ke (a0:SAlgebra) (c0:SCondition) (rows0:List (List Int)) (r5:List (List Int)) (r12:List (List Int)):Int->St:=λs=>[(12,A.val (Ae s)),(10,A.val (slr true 1 (slr true 1 Ae) r12)),(8,A.val (slr true 1 (slr true 1 Ae) r5)),(4,A.val (rP true (Ah false) c0)),(3,A.val (rP true (Aj false) a0)),(2,A.val (slr false 1 (slr false 1 Ae) rows0))]
def Pv (a0:SAlgebra) (_c0:SCondition) (rows0:List (List Int)) (_r5:List (List Int)) (r12:List (List Int)):(Unit ⊕ Unit)->Tgt
 | (.inl _s)=>(Ex.ret,[7,6],[(7,A.val (V.bool true)),(6,A.val (V.bool false))])
 | (.inr _s)=>((Ex.exit 4),[10,3,2],[(10,A.val (slr true 1 (slr true 1 Ae) r12)),(3,A.val (rP true (Aj false) a0)),(2,A.val (slr false 1 (slr false 1 Ae) rows0))])
theorem Z8 {a0} {c0} {rows0} {r5} {r12} (x12) o (h:Dc a0 c0 rows0 r5 r12 x12=some o):vc Try.prog Qa (Ch [12,10,8,4,3,2] (Ke a0 c0 rows0 r5 r12) (Pv a0 c0 rows0 r5 r12) o) (Ke a0 c0 rows0 r5 r12 x12):=by
 unfold Dc at h;try dsimp only at h
 refine Len.map<|Br.od h (λp19 h=> ?_) (λp19 h=> ?_)
 ·refine Cells.lit rfl rfl<|Len.map<|Ask.o h λp20 h=>Elem.o (by first | omega | (simp [Au] at * <;> omega))<|Cells.lit rfl rfl<|CallQ.rd V.bool (by first | rfl | simp only [V.fz,fzL,Ab,slr] | simp [Aa,V.fz,fzL,V.up,upL,Ab,Ac,Ad,slr]) (λ_=>rfl) h (λr h=>Td h) (λr21 h=> ?_)
  refine Br.ob h (λp22 h=> ?_) (λp22 h=> ?_)
  ·cases h;exact ⟨rfl,rfl⟩
  refine Ask.o h λp23 h=> ?_
  cases h;exact ⟨rfl,rfl⟩
 cases h;exact ⟨rfl,rfl⟩
noncomputable def Db (_a0:SAlgebra) (rows0:List (List Int)) (_r12:List (List Int)) (_x13:Int) (_x14:Int) (r30:List Int):(Int×(List (List Int)))->Option ((Int×(List (List Int))) ⊕ (List (List Int))):=λ(x17,x16)=>
 if x17<(↑r30.length:Int) then
 ask ((0:Int)<=x17/\x17<(↑r30.length:Int)) <|
 ask ((0:Int)<=nth r30 x17.toNat/\nth r30 x17.toNat<(↑rows0.length:Int)) <|
 ask ((x16).length+([nth rows0 (nth r30 x17.toNat).toNat]).length<=LIM) <|
 ask (InI (x17+(1:Int))) <|
 some (.inl (x17+(1:Int),x16++[nth rows0 (nth r30 x17.toNat).toNat]))
 else
 some (.inr x16)
def J3 (a0:SAlgebra) (rows0:List (List Int)) (r12:List (List Int)) (x13:Int) (x14:Int) (r30:List Int):(Int×(List (List Int)))->St:=λs=>[(17,A.val (Ae s.1)),(16,A.val (slr true 1 (slr false 1 Ae) s.2)),(15,A.val (slr true 1 Ae r30)),(14,A.val (Ae x14)),(13,A.val (Ae x13)),(10,A.val (slr true 1 (slr true 1 Ae) r12)),(3,A.val (rP true (Aj false) a0)),(2,A.val (slr false 1 (slr false 1 Ae) rows0))]
def Qs (a0:SAlgebra) (rows0:List (List Int)) (r12:List (List Int)) (x13:Int) (x14:Int) (_r30:List Int):(List (List Int))->Tgt
 | s=>((Ex.exit 10),[16,14,13,10,3,2],[(16,A.val (slr true 1 (slr false 1 Ae) s)),(14,A.val (Ae x14)),(13,A.val (Ae x13)),(10,A.val (slr true 1 (slr true 1 Ae) r12)),(3,A.val (rP true (Aj false) a0)),(2,A.val (slr false 1 (slr false 1 Ae) rows0))])
theorem Y9 {a0} {rows0} {r12} {x13} {x14} {r30} (s) o (h:Db a0 rows0 r12 x13 x14 r30 s=some o):vc Try.prog Pg (Ch [17,16,15,14,13,10,3,2] (J3 a0 rows0 r12 x13 x14 r30) (Qs a0 rows0 r12 x13 x14 r30) o) (J3 a0 rows0 r12 x13 x14 r30 s):=by
 obtain ⟨x17,x16⟩:=s;unfold Db at h;try dsimp only at h
 refine Len.map<|Br.od h (λp31 h=> ?_) (λp31 h=> ?_)
 ·refine Len.map<|Ask.o h λp32 h=>Cells.one (λ_=>⟨rfl,rfl⟩) (by first | omega | (simp [Au] at * <;> omega))<|Len.map<|Ask.o h λp33 h=>Elem.o (by first | omega | (simp [Au] at * <;> omega))<|BslQ.o (slr false 1 Ae) ([nth rows0 (nth r30 x17.toNat).toNat]) (by exact λ_=>⟨rfl,rfl⟩) (by rfl)<|NoOwn.o (λ_=>rfl)<|AppQ.o (m:=1) (slr false 1 Ae) (by exact λ_=>⟨rfl,rfl⟩) (x16) ([nth rows0 (nth r30 x17.toNat).toNat]) (by rfl) (by rfl) h λh=>Ask.o h λp34 h=> ?_
  cases h;exact ⟨rfl,rfl⟩
 cases h;exact ⟨rfl,rfl⟩
noncomputable def Ci (a0:SAlgebra) (rows0:List (List Int)) (r12:List (List Int)) (x13:Int):Int->Option (Int ⊕ (Unit ⊕ Unit)):=λx14=>
 ask ((0:Int)<=x13/\x13<(↑a0.Ops.length:Int)) <|
 (Dq ((↑rows0.length:Int)) ((nth a0.Ops x13.toNat).Arity)).bind λr27=>
 if x14<r27 then
 ask ((0:Int)<=x13/\x13<(↑a0.Ops.length:Int)) <|
 (Hd ((↑rows0.length:Int)) ((nth a0.Ops x13.toNat).Arity) (x14)).bind λr30=>
 (Aq (Db a0 rows0 r12 x13 x14 r30) ((0:Int),Av (List Int))).bind λq35_16=>
 ask ((0:Int)<=x13/\x13<(↑a0.Ops.length:Int)) <|
 ask ((0:Int)<=(0:Int)/\(0:Int)<(↑r12.length:Int)) <|
 (Fh (a0.Size) (nth a0.Ops x13.toNat) (q35_16) ((↑(nth r12 (Int.toNat (0:Int))).length:Int))).bind λr38=>
 (Bx (rows0) (r38)).bind λr39=>
 if r39<(0:Int) then
 some (.inr (.inl ()))
 else
 ask (InI (x14+(1:Int))) <|
 some (.inl (x14+(1:Int)))
 else
 some (.inr (.inr ()))
def J4 (a0:SAlgebra) (rows0:List (List Int)) (r12:List (List Int)) (x13:Int):Int->St:=λs=>[(14,A.val (Ae s)),(13,A.val (Ae x13)),(10,A.val (slr true 1 (slr true 1 Ae) r12)),(3,A.val (rP true (Aj false) a0)),(2,A.val (slr false 1 (slr false 1 Ae) rows0))]
def Qo (a0:SAlgebra) (rows0:List (List Int)) (r12:List (List Int)) (x13:Int):(Unit ⊕ Unit)->Tgt
 | (.inl _s)=>(Ex.ret,[7,6],[(7,A.val (V.bool true)),(6,A.val (V.bool false))])
 | (.inr _s)=>((Ex.exit 8),[13,10,3,2],[(13,A.val (Ae x13)),(10,A.val (slr true 1 (slr true 1 Ae) r12)),(3,A.val (rP true (Aj false) a0)),(2,A.val (slr false 1 (slr false 1 Ae) rows0))])
theorem Z0 {a0} {rows0} {r12} {x13} (x14) o (h:Ci a0 rows0 r12 x13 x14=some o):vc Try.prog O3 (Ch [14,13,10,3,2] (J4 a0 rows0 r12 x13) (Qo a0 rows0 r12 x13) o) (J4 a0 rows0 r12 x13 x14):=by
 unfold Ci at h;try dsimp only at h
 refine Len.map<|Cells.lit rfl rfl<|Len.map<|Ask.o h λp26 h=>Elem.o (by first | omega | (simp [Au] at * <;> omega))<|CallQ.o Ae (by rfl) h (λr h=>Qe h) (λr27 h=> ?_)
 refine Br.od h (λp28 h=> ?_) (λp28 h=> ?_)
 ·refine Len.map<|Cells.lit rfl rfl<|Len.map<|Ask.o h λp29 h=>Elem.o (by first | omega | (simp [Au] at * <;> omega))<|CallQ.o (slr true 1 Ae) (by rfl) h (λr h=>Xo h) (λr30 h=> ?_)
  refine BslQ.o (slr true 1 Ae) (Av (List Int)) (by exact λ_=>⟨rfl,rfl⟩) (by rfl)<|LoopQ.o [17,16,15,14,13,10,3,2] (J3 a0 rows0 r12 x13 x14 r30) (Qs a0 rows0 r12 x13 x14 r30) h (λs o h=>Y9 s o h) (by rfl) (λ_=>rfl) ?_
  rintro q35_16 h;try dsimp only at h
  refine FrzQ.d (V.sl false (1:Nat) (List.map (slr false (1:Nat) Ae) q35_16)) (by first | (simp only [slr];done) | exact (Ak _).trans (Eq.trans (b:=V.fz (V.sl true (1:Nat) (List.map (slr false (1:Nat) Ae) q35_16))) rfl (Ac _ _ _)) | (simp [Ak,V.fz,Ab,Ac,slr];done) | (simp [Ak,V.fz,fzL,Ab,slr];done))<|Cells.lit rfl rfl<|Cells.lit rfl rfl<|Len.map<|Ask.o h λp36 h=>Elem.o (by first | omega | (simp [Au] at * <;> omega))<|Len.map<|Ask.o h λp37 h=>Cells.one (λ_=>⟨rfl,rfl⟩) (by first | omega | (simp [Au] at * <;> omega))<|Kid.one (λ_=>⟨rfl,rfl⟩) (by first | omega | (simp [Au] at * <;> omega))<|Len.map<|CallP.o (slr true 1 Ae) (by rfl) h (λr h=>P9 h) (λr38 h=> ?_)
  refine CallQ.rd Ae (by first | rfl | simp only [V.fz,V.up,Ab,slr] | simp [Aa,V.fz,fzL,V.up,upL,Ab,Ac,Ad,slr]) (λ_=>rfl) h (λr h=>Gw h) (λr39 h=> ?_);refine Br.od h (λp40 h=> ?_) (λp40 h=> ?_)
  ·cases h;exact ⟨rfl,rfl⟩
  refine Ask.o h λp41 h=> ?_
  cases h;exact ⟨rfl,rfl⟩
 cases h;exact ⟨rfl,rfl⟩
noncomputable def C7 (a0:SAlgebra) (rows0:List (List Int)) (r12:List (List Int)):Int->Option (Int ⊕ (Unit ⊕ Unit)):=λx13=>
 if x13<(↑a0.Ops.length:Int) then
 (Aq (Ci a0 rows0 r12 x13) (0:Int)).bind λt=>match t with
 | (.inl _)=>(some (.inr (.inl ())))
 | (.inr _)=>(ask (InI (x13+(1:Int))) <|
 some (.inl (x13+(1:Int))))
 else
 some (.inr (.inr ()))
def Kb (a0:SAlgebra) (rows0:List (List Int)) (r12:List (List Int)):Int->St:=λs=>[(13,A.val (Ae s)),(10,A.val (slr true 1 (slr true 1 Ae) r12)),(3,A.val (rP true (Aj false) a0)),(2,A.val (slr false 1 (slr false 1 Ae) rows0))]
def Pq (_a0:SAlgebra) (_rows0:List (List Int)) (_r12:List (List Int)):(Unit ⊕ Unit)->Tgt
 | (.inl _s)=>(Ex.ret,[7,6],[(7,A.val (V.bool true)),(6,A.val (V.bool false))])
 | (.inr _s)=>((Ex.exit 6),[],[])
theorem Aap {a0} {rows0} {r12} (x13) o (h:C7 a0 rows0 r12 x13=some o):vc Try.prog P5 (Ch [13,10,3,2] (Kb a0 rows0 r12) (Pq a0 rows0 r12) o) (Kb a0 rows0 r12 x13):=by
 unfold C7 at h;try dsimp only at h
 refine Cells.lit rfl rfl<|Len.map<|Br.od h (λp25 h=> ?_) (λp25 h=> ?_)
 ·refine LoopQ.o [14,13,10,3,2] (J4 a0 rows0 r12 x13) (Qo a0 rows0 r12 x13) h (λs o h=>Z0 s o h) (by rfl) (by rintro (_ | _)<;>rfl) ?_;rintro (⟨⟩ | ⟨⟩) h
  ·try dsimp only at h
   cases h;exact ⟨rfl,rfl⟩
  try dsimp only at h
  refine Ask.o h λp43 h=> ?_
  cases h;exact ⟨rfl,rfl⟩
 cases h;exact ⟨rfl,rfl⟩
noncomputable def Eg (a0:SAlgebra) (c0:SCondition) (rows0:(List (List Int))):Option (Bool×Bool):=
 (((Er (a0) (c0)).bind λr1=>
 if (r1)=true then
 if (↑rows0.length:Int)>(150:Int) then
 some (.inl ())
 else
 some (.inr ())
 else
 some (.inl ()):Option (Unit ⊕ Unit))).bind λt=>match t with
 | (.inl _)=>(some (false,false))
 | (.inr _)=>((D0 c0).bind λr5=>
 (Aq (C9 a0 c0 rows0 r5) (0:Int)).bind λt=>match t with
 | (.inl _)=>(some (false,false))
 | (.inr _)=>((Eu (a0.Size) (c0)).bind λr12=>
 (Aq (C6 a0 c0 rows0 r5 r12) (0:Int)).bind λt=>match t with
 | (.inl _)=>(some (false,true))
 | (.inr _)=>((Aq (Dc a0 c0 rows0 r5 r12) (0:Int)).bind λt=>match t with
 | (.inl _)=>(some (false,true))
 | (.inr _)=>((Aq (C7 a0 rows0 r12) (0:Int)).bind λt=>match t with
 | (.inl _)=>(some (false,true))
 | (.inr _)=>(some (true,true))))))
theorem Ad4 {a0} {c0} {rows0} {v} (h:Eg a0 c0 rows0=some v):Ret Try.prog M1 [(Aj false) a0,(Ah false) c0,(slr false 1 (slr false 1 Ae)) rows0] ((λr=>V.tup [V.bool r.1,V.bool r.2]) v):=by
 refine Bn Aep (Nat.le_of_ble_eq_true rfl) ?_;unfold Eg at h;refine CutQ.o (λt:(Unit ⊕ Unit)=>match t with | (.inl s)=>(Ex.ret,[7,6],[(7,A.val (V.bool (false))),(6,A.val (V.bool (false)))]) | (.inr s)=>(Ex.normal,[4,3,2],[(4,A.val ((rP true (Ah false)) (c0))),(3,A.val ((rP true (Aj false)) (a0))),(2,A.val ((slr false 1 (slr false 1 Ae)) (rows0)))])) h ?_ ?_
 ·intro t h;refine Cells.lit rfl rfl<|Cells.lit rfl rfl<|CallQ.o V.bool (by rfl) h (λr h=>Ix h) (λr1 h=> ?_)
  refine Br.flip<|Br.ob h (λp2 h=> ?_) (λp2 h=> ?_)
  ·refine Br.no<|Len.map<|Br.no<|Br.no<|Br.od h (λp3 h=> ?_) (λp3 h=> ?_)
   ·cases h;exact ⟨rfl,rfl⟩
   cases h;exact ⟨rfl,rfl⟩
  refine Br.yes<|Br.yes<|Br.yes<|Br.yes ?_
  cases h;exact ⟨rfl,rfl⟩
 rintro (⟨⟩ | ⟨⟩) h
 ·try dsimp only at h
  cases h;exact (by rfl)
 try dsimp only at h
 refine Cells.lit rfl rfl<|CallQ.o (slr true 1 (slr true 1 Ae)) (by rfl) h (λr h=>J8 h) (λr5 h=> ?_)
 refine LoopQ.o [9,8,4,3,2] (Kc a0 c0 rows0 r5) (Po a0 c0 rows0 r5) h (λs o h=>Aaf s o h) (by rfl) (by rintro (_ | _)<;>rfl) ?_;rintro (⟨⟩ | ⟨⟩) h
 ·try dsimp only at h
  cases h;exact (by rfl)
 try dsimp only at h
 refine Cells.lit rfl rfl<|Cells.lit rfl rfl<|CallQ.o (slr true 1 (slr true 1 Ae)) (by rfl) h (λr h=>Tc h) (λr12 h=> ?_)
 refine LoopQ.o [11,10,8,4,3,2] (Jn a0 c0 rows0 r5 r12) (O6 a0 c0 rows0 r5 r12) h (λs o h=>Zu s o h) (by rfl) (by rintro (_ | _)<;>rfl) ?_;rintro (⟨⟩ | ⟨⟩) h
 ·try dsimp only at h
  cases h;exact (by rfl)
 try dsimp only at h
 refine LoopQ.o [12,10,8,4,3,2] (Ke a0 c0 rows0 r5 r12) (Pv a0 c0 rows0 r5 r12) h (λs o h=>Z8 s o h) (by rfl) (by rintro (_ | _)<;>rfl) ?_;rintro (⟨⟩ | ⟨⟩) h
 ·try dsimp only at h
  cases h;exact (by rfl)
 try dsimp only at h
 refine LoopQ.o [13,10,3,2] (Kb a0 rows0 r12) (Pq a0 rows0 r12) h (λs o h=>Aap s o h) (by rfl) (by rintro (_ | _)<;>rfl) ?_;rintro (⟨⟩ | ⟨⟩) h
 ·try dsimp only at h
  cases h;exact (by rfl)
 try dsimp only at h
 cases h;exact (by rfl)
noncomputable def Cm (n0:Int) (c0:SCondition):(Int×(List (List Int)))->Option ((Int×(List (List Int))) ⊕ (List (List Int))):=λ(x6,x5)=>
 if x6<c0.Arity then
 (Ib (n0) (c0.Arity) (x6)).bind λr2=>
 (Qb (n0) (r2) (c0)).bind λr3=>
 ask ((x5).length+([r3]).length<=LIM) <|
 ask (InI (x6+(1:Int))) <|
 some (.inl (x6+(1:Int),x5++[r3]))
 else
 some (.inr x5)
def Il (n0:Int) (c0:SCondition):(Int×(List (List Int)))->St:=λs=>[(6,A.val (Ae s.1)),(5,A.val (slr true 1 (slr true 1 Ae) s.2)),(3,A.val (rP true (Ah false) c0)),(0,A.val (Ae n0))]
def M9 (_n0:Int) (_c0:SCondition):(List (List Int))->Tgt
 | s=>((Ex.exit 0),[5],[(5,A.val (slr true 1 (slr true 1 Ae) s))])
theorem Xp {n0} {c0} (s) o (h:Cm n0 c0 s=some o):vc Try.prog Ng (Ch [6,5,3,0] (Il n0 c0) (M9 n0 c0) o) (Il n0 c0 s):=by
 obtain ⟨x6,x5⟩:=s;unfold Cm at h;try dsimp only at h
 refine Cells.lit rfl rfl<|Br.od h (λp1 h=> ?_) (λp1 h=> ?_)
 ·refine Cells.lit rfl rfl<|CallP.o (slr true 1 Ae) (by rfl) h (λr h=>Ai5 h) (λr2 h=> ?_)
  refine Cells.lit rfl rfl<|CallP.rd (slr true 1 Ae) (by first | rfl | simp only [V.fz,fzL,V.up,Ab,Ad,slr] | simp [Aa,V.fz,fzL,V.up,upL,Ab,Ac,Ad,slr]) (λ_=>by simp [V.noFz,Bb]) h (λr h=>Aur h) (λr3 h=> ?_)
  refine BslQ.o (slr true 1 Ae) [r3] (by exact λ_=>⟨rfl,rfl⟩) (by rfl)<|NoOwn.own rfl<|AppQ.o (m:=1) (slr true 1 Ae) (by exact λ_=>⟨rfl,rfl⟩) (x5) ([r3]) (by rfl) (by rfl) h λh=>Ask.o h λp4 h=> ?_
  cases h;exact ⟨rfl,rfl⟩
 cases h;exact ⟨rfl,rfl⟩
noncomputable def Cf (n0:Int) (c0:SCondition):Option (List (List Int)):=
 (Aq (Cm n0 c0) ((0:Int),Av (List Int))).bind λq5_5=>
 some q5_5
theorem K0 {n0} {c0} {v} (h:Cf n0 c0=some v):Ret Try.prog F0 [Ae n0,(Ah false) c0] (slr true 1 (slr true 1 Ae) v):=by
 refine Bn Abo (Nat.le_of_ble_eq_true rfl) ?_;unfold Cf at h;refine BslQ.o (slr true 1 Ae) (Av (List Int)) (by exact λ_=>⟨rfl,rfl⟩) (by rfl)<|LoopQ.o [6,5,3,0] (Il n0 c0) (M9 n0 c0) h (λs o h=>Xp s o h) (by rfl) (λ_=>rfl) ?_
 rintro q5_5 h;try dsimp only at h
 cases h;exact (by rfl)
end Go.Proofs.Ytaalgpkajkogkaa.Ax
