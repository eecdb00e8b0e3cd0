/-
 What the functions compute, as functions on plain data, and that the program does compute it; written by program.
-/
import Derived.Test.YtaalgpkajkogkaaCode
import Derived.Test.YtaalgpkajkogkaaG1
import Derived.Test.YtaalgpkajkogkaaG3
import Derived.Test.YtaalgpkajkogkaaG10
namespace Go.Proofs.Ytaalgpkajkogkaa.Ax
open Go
set_option maxRecDepth 100000
set_option maxHeartbeats 4000000
noncomputable def H8 (n0:Int) (table0:List Int) (r1:List (List Int)) (x16:Int) (x10:Int):(Int×(List Int))->Option ((Int×(List Int)) ⊕ (List Int)):=λ(x11,x7'')=>
 if x11<n0 then
 ask (x16.toNat<r1.length) <|
 (L2 (nth r1 x16.toNat) ([x10,x11])).bind λr7=>
 (I8 (r7) (n0)).bind λr8=>
 ask ((0:Int)<=r8/\r8<(↑table0.length:Int)) <|
 ask ((x7'').length+([nth table0 r8.toNat]).length<=LIM) <|
 ask (InI (x11+(1:Int))) <|
 some (.inl (x11+(1:Int),x7''++[nth table0 r8.toNat]))
 else
 some (.inr x7'')
def Tg (n0:Int) (table0:List Int) (r1:List (List Int)) (x16:Int) (x10:Int):(Int×(List Int))->St:=λs=>[(11,A.val (Ae s.1)),(10,A.val (Ae x10)),(9,A.ref 14 [Au x16.toNat (1:Nat)]),(16,A.val (Ae x16)),(15,A.val (Ae ((↑r1.length:Int)))),(14,A.val (slr true 1 (slr true 1 Ae) r1)),(7,A.val (slr true 1 Ae s.2)),(0,A.val (Ae n0)),(1,A.val (slr false 1 Ae table0))]
def Aay (n0:Int) (table0:List Int) (r1:List (List Int)) (x16:Int) (x10:Int):(List Int)->Tgt
 | s=>((Ex.exit 4),[10,9,16,15,14,7,0,1],[(10,A.val (Ae x10)),(9,A.ref 14 [Au x16.toNat (1:Nat)]),(16,A.val (Ae x16)),(15,A.val (Ae ((↑r1.length:Int)))),(14,A.val (slr true 1 (slr true 1 Ae) r1)),(7,A.val (slr true 1 Ae s)),(0,A.val (Ae n0)),(1,A.val (slr false 1 Ae table0))])
theorem Ame {n0} {table0} {r1} {x16} {x10} (s) o (h:H8 n0 table0 r1 x16 x10 s=some o):vc Try.prog Aa0 (Ch [11,10,9,16,15,14,7,0,1] (Tg n0 table0 r1 x16 x10) (Aay n0 table0 r1 x16 x10) o) (Tg n0 table0 r1 x16 x10 s):=by
 obtain ⟨x11,x7''⟩:=s;unfold H8 at h;try dsimp only at h
 refine Br.od h (λp5 h=> ?_) (λp5 h=> ?_)
 ·refine BslQ.o Ae ([x10,x11]) (by exact λ_=>⟨rfl,rfl⟩) (by rfl) ?_;obtain ⟨p6,h⟩:=P7.1 h;refine Kid.one (λ_=>⟨rfl,rfl⟩) (by first | omega | (simp [Au] at * <;> omega))<|CallQ.rd (slr true 1 Ae) (by first | rfl | simp only [Aa,V.fz,Ab,slr] | simp [Aa,V.fz,fzL,V.up,upL,Ab,Ac,Ad,slr]) (λ_=>by simp [V.noFz,Bb]) h (λr h=>Any h) (λr7 h=> ?_)
  refine CallQ.rd Ae (by first | rfl | simp only [V.fz,V.up,Ab,Ad,slr] | simp [Aa,V.fz,fzL,V.up,upL,Ab,Ac,Ad,slr]) (λ_=>rfl) h (λr h=>Aoj h) (λr8 h=> ?_);refine Len.map<|Ask.o h λp9 h=>Elem.o (by first | omega | (simp [Au] at * <;> omega))<|BslQ.o Ae ([nth table0 r8.toNat]) (by exact λ_=>⟨rfl,rfl⟩) (by rfl)<|NoOwn.o (λ_=>rfl)<|AppQ.o (m:=1) Ae (by exact λ_=>⟨rfl,rfl⟩) (x7'') ([nth table0 r8.toNat]) (by rfl) (by rfl) h λh=>Ask.o h λp10 h=> ?_
  cases h;exact ⟨rfl,rfl⟩
 cases h;exact ⟨rfl,rfl⟩
noncomputable def H6 (n0:Int) (table0:List Int) (r1:List (List Int)) (x16:Int):(Int×(List Int))->Option ((Int×(List Int)) ⊕ (List Int)):=λ(x10,x7')=>
 if x10<n0 then
 (Aq (H8 n0 table0 r1 x16 x10) ((0:Int),x7')).bind λq11_7=>
 ask (InI (x10+(1:Int))) <|
 some (.inl (x10+(1:Int),q11_7))
 else
 some (.inr x7')
def Ta (n0:Int) (table0:List Int) (r1:List (List Int)) (x16:Int):(Int×(List Int))->St:=λs=>[(10,A.val (Ae s.1)),(9,A.ref 14 [Au x16.toNat (1:Nat)]),(16,A.val (Ae x16)),(15,A.val (Ae ((↑r1.length:Int)))),(14,A.val (slr true 1 (slr true 1 Ae) r1)),(7,A.val (slr true 1 Ae s.2)),(0,A.val (Ae n0)),(1,A.val (slr false 1 Ae table0))]
def Abc (n0:Int) (table0:List Int) (r1:List (List Int)) (x16:Int):(List Int)->Tgt
 | s=>((Ex.exit 2),[16,15,14,7,0,1],[(16,A.val (Ae x16)),(15,A.val (Ae ((↑r1.length:Int)))),(14,A.val (slr true 1 (slr true 1 Ae) r1)),(7,A.val (slr true 1 Ae s)),(0,A.val (Ae n0)),(1,A.val (slr false 1 Ae table0))])
theorem Aly {n0} {table0} {r1} {x16} (s) o (h:H6 n0 table0 r1 x16 s=some o):vc Try.prog Aa4 (Ch [10,9,16,15,14,7,0,1] (Ta n0 table0 r1 x16) (Abc n0 table0 r1 x16) o) (Ta n0 table0 r1 x16 s):=by
 obtain ⟨x10,x7'⟩:=s;unfold H6 at h;try dsimp only at h
 refine Br.od h (λp4 h=> ?_) (λp4 h=> ?_)
 ·refine LoopQ.o [11,10,9,16,15,14,7,0,1] (Tg n0 table0 r1 x16 x10) (Aay n0 table0 r1 x16 x10) h (λs o h=>Ame s o h) (by rfl) (λ_=>rfl) ?_;rintro q11_7 h;try dsimp only at h
  refine Ask.o h λp12 h=> ?_
  cases h;exact ⟨rfl,rfl⟩
 cases h;exact ⟨rfl,rfl⟩
noncomputable def Gz (n0:Int) (table0:List Int) (r1:List (List Int)):(Int×(List Int))->Option ((Int×(List Int)) ⊕ (List Int)):=λ(x16,x7)=>
 if x16<(↑r1.length:Int) then
 ask ((0:Int)<=x16/\x16<(↑r1.length:Int)) <|
 (Aq (H6 n0 table0 r1 x16) ((0:Int),x7)).bind λq13_7=>
 ask (InI (x16+(1:Int))) <|
 some (.inl (x16+(1:Int),q13_7))
 else
 some (.inr x7)
def S8 (n0:Int) (table0:List Int) (r1:List (List Int)):(Int×(List Int))->St:=λs=>[(16,A.val (Ae s.1)),(15,A.val (Ae ((↑r1.length:Int)))),(14,A.val (slr true 1 (slr true 1 Ae) r1)),(7,A.val (slr true 1 Ae s.2)),(0,A.val (Ae n0)),(1,A.val (slr false 1 Ae table0))]
def Abb (_n0:Int) (_table0:List Int) (_r1:List (List Int)):(List Int)->Tgt
 | s=>((Ex.exit 0),[7],[(7,A.val (slr true 1 Ae s))])
theorem Anc {n0} {table0} {r1} (s) o (h:Gz n0 table0 r1 s=some o):vc Try.prog Aba (Ch [16,15,14,7,0,1] (S8 n0 table0 r1) (Abb n0 table0 r1) o) (S8 n0 table0 r1 s):=by
 obtain ⟨x16,x7⟩:=s;unfold Gz at h;try dsimp only at h
 refine Br.od h (λp2 h=> ?_) (λp2 h=> ?_)
 ·refine Len.map<|Ask.o h λp3 h=>Cells.one (λ_=>⟨rfl,rfl⟩) (by first | omega | (simp [Au] at * <;> omega))<|LoopQ.o [10,9,16,15,14,7,0,1] (Ta n0 table0 r1 x16) (Abc n0 table0 r1 x16) h (λs o h=>Aly s o h) (by rfl) (λ_=>rfl) ?_
  rintro q13_7 h;try dsimp only at h
  refine Ask.o h λp14 h=> ?_
  cases h;exact ⟨rfl,rfl⟩
 cases h;exact ⟨rfl,rfl⟩
noncomputable def Qb (n0:Int) (table0:(List Int)) (c0:SCondition):Option (List Int):=
 (Ek (c0)).bind λr1=>
 (Aq (Gz n0 table0 r1) ((0:Int),Av Int)).bind λq15_7=>
 some q15_7
theorem Aur {n0} {table0} {c0} {v} (h:Qb n0 table0 c0=some v):Ret Try.prog Aah [Ae n0,(slr false 1 Ae) table0,(Ah false) c0] (slr true 1 Ae v):=by
 refine Bn Atq (Nat.le_of_ble_eq_true rfl) ?_;unfold Qb at h;refine BslQ.o Ae (Av Int) (by exact λ_=>⟨rfl,rfl⟩) (by rfl)<|Cells.lit rfl rfl<|CallQ.o (slr true 1 (slr true 1 Ae)) (by rfl) h (λr h=>K1 h) (λr1 h=> ?_)
 refine Len.map<|LoopQ.o [16,15,14,7,0,1] (S8 n0 table0 r1) (Abb n0 table0 r1) h (λs o h=>Anc s o h) (by rfl) (λ_=>rfl) ?_
 rintro q15_7 h;try dsimp only at h
 cases h;exact (by rfl)
end Go.Proofs.Ytaalgpkajkogkaa.Ax
