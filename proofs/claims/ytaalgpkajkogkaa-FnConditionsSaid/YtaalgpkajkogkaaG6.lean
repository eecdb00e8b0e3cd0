/-
 What the functions compute, as functions on plain data, and that the program does compute it; written by program.
-/
import Derived.Test.YtaalgpkajkogkaaCode
import Derived.Test.YtaalgpkajkogkaaG1
import Derived.Test.YtaalgpkajkogkaaG3
namespace Go.Proofs.Ytaalgpkajkogkaa.Ax
open Go
set_option maxRecDepth 100000
set_option maxHeartbeats 4000000
noncomputable def I9 (k0:Int):Option SAlgebra:=
 if k0=(0:Int) then
 (Bm ((ByteArray.mk #[48,48,48,49]))).bind λr2=>
 some ({ Size:=(2:Int),Ops:=[r2] })
 else
 if k0=(1:Int) then
 (Bm ((ByteArray.mk #[48,48,48,49]))).bind λr4=>
 (Bm ((ByteArray.mk #[48,49,49,49]))).bind λr5=>
 some ({ Size:=(2:Int),Ops:=[r4,r5] })
 else
 if k0=(2:Int) then
 (Bm ((ByteArray.mk #[48,48,48,49]))).bind λr7=>
 (Bm ((ByteArray.mk #[48,49,49,49]))).bind λr8=>
 some ({ Size:=(2:Int),Ops:=[r7,r8,{ Arity:=(1:Int),Table:=[(1:Int),(0:Int)] }] })
 else
 if k0=(3:Int) then
 (H7 ((2:Int))).bind λr10=>
 some ({ Size:=(2:Int),Ops:=[r10] })
 else
 if k0=(4:Int) then
 (Bm ((ByteArray.mk #[48,49,50,49,50,48,50,48,49]))).bind λr12=>
 some ({ Size:=(3:Int),Ops:=[r12] })
 else
 if k0=(5:Int) then
 (Bm ((ByteArray.mk #[48,49,48,49,49,50,48,50,50]))).bind λr14=>
 some ({ Size:=(3:Int),Ops:=[r14] })
 else
 if k0=(6:Int) then
 (Bm ((ByteArray.mk #[48,49,50,51,49,48,51,50,50,51,48,49,51,50,49,48]))).bind λr16=>
 some ({ Size:=(4:Int),Ops:=[r16] })
 else
 if k0=(7:Int) then
 (Bm ((ByteArray.mk #[48,48,48,48,49,49,48,49,50]))).bind λr18=>
 (Bm ((ByteArray.mk #[48,49,50,49,49,50,50,50,50]))).bind λr19=>
 some ({ Size:=(3:Int),Ops:=[r18,r19] })
 else
 if k0=(8:Int) then
 some ({ Size:=(4:Int),Ops:=[{ Arity:=(1:Int),Table:=[(1:Int),(2:Int),(3:Int),(0:Int)] }] })
 else
 if k0=(9:Int) then
 some ({ Size:=(2:Int),Ops:=[{ Arity:=(3:Int),Table:=[(0:Int),(0:Int),(0:Int),(1:Int),(0:Int),(1:Int),(1:Int),(1:Int)] }] })
 else
 if k0=(10:Int) then
 (Bm ((ByteArray.mk #[48,48,48,49,49,49,50,50,50]))).bind λr23=>
 some ({ Size:=(3:Int),Ops:=[r23] })
 else
 if k0=(11:Int) then
 (Bm ((ByteArray.mk #[48,48,48,48,48,48,49,48,48,49,48,48,50,48,50,48,48,48,51,51,48,49,50,51,52]))).bind λr25=>
 (Bm ((ByteArray.mk #[48,49,50,51,52,49,49,52,52,52,50,52,50,52,52,51,52,52,51,52,52,52,52,52,52]))).bind λr26=>
 some ({ Size:=(5:Int),Ops:=[r25,r26] })
 else
 if k0=(12:Int) then
 (Bm ((ByteArray.mk #[48,49,50,51,49,50,51,48,50,51,48,49,51,48,49,50]))).bind λr28=>
 some ({ Size:=(4:Int),Ops:=[r28] })
 else
 if k0=(13:Int) then
 some ({ Size:=(3:Int),Ops:=[{ Arity:=(1:Int),Table:=[(0:Int),(0:Int),(1:Int)] },{ Arity:=(0:Int),Table:=[(2:Int)] }] })
 else
 if k0=(14:Int) then
 (Bm ((ByteArray.mk #[48]))).bind λr31=>
 some ({ Size:=(1:Int),Ops:=[r31] })
 else
 if k0=(15:Int) then
 (H7 ((3:Int))).bind λr33=>
 some ({ Size:=(3:Int),Ops:=[r33] })
 else
 some ({ Size:=(2:Int),Ops:=Av SOp })
theorem Ack {k0} {v} (h:I9 k0=some v):Ret Try.prog Pb [Ae k0] (Aj true v):=by
 refine Bn Apb (Nat.le_of_ble_eq_true rfl) ?_;unfold I9 at h;refine Br.oe h (λp1 h=> ?_) (λp1 h=> ?_)
 ·refine CallQ.o (Bd true) (by rfl) h (λr h=>B0 h) (λr2 h=> ?_);refine BslQ.o (Bd true) [r2] (by exact λ_=>⟨rfl,rfl⟩) (by rfl)<|SetKids.lit rfl ?_
  cases h;exact (by rfl)
 refine Br.oe h (λp3 h=> ?_) (λp3 h=> ?_)
 ·refine CallQ.o (Bd true) (by rfl) h (λr h=>B0 h) (λr4 h=> ?_);refine CallQ.o (Bd true) (by rfl) h (λr h=>B0 h) (λr5 h=> ?_);refine BslQ.o (Bd true) ([r4,r5]) (by exact λ_=>⟨rfl,rfl⟩) (by rfl)<|SetKids.lit rfl ?_
  cases h;exact (by rfl)
 refine Br.oe h (λp6 h=> ?_) (λp6 h=> ?_)
 ·refine CallQ.o (Bd true) (by rfl) h (λr h=>B0 h) (λr7 h=> ?_);refine CallQ.o (Bd true) (by rfl) h (λr h=>B0 h) (λr8 h=> ?_);refine BslQ.o Ae ([(1:Int),(0:Int)]) (by exact λ_=>⟨rfl,rfl⟩) (by rfl)<|BslQ.o (Bd true) ([r7,r8,{ Arity:=(1:Int),Table:=[(1:Int),(0:Int)] }]) (by exact λ_=>⟨rfl,rfl⟩) (by rfl)<|SetKids.lit rfl ?_
  cases h;exact (by rfl)
 refine Br.oe h (λp9 h=> ?_) (λp9 h=> ?_)
 ·refine CallQ.o (Bd true) (by rfl) h (λr h=>Aau h) (λr10 h=> ?_);refine BslQ.o (Bd true) [r10] (by exact λ_=>⟨rfl,rfl⟩) (by rfl)<|SetKids.lit rfl ?_
  cases h;exact (by rfl)
 refine Br.oe h (λp11 h=> ?_) (λp11 h=> ?_)
 ·refine CallQ.o (Bd true) (by rfl) h (λr h=>B0 h) (λr12 h=> ?_);refine BslQ.o (Bd true) [r12] (by exact λ_=>⟨rfl,rfl⟩) (by rfl)<|SetKids.lit rfl ?_
  cases h;exact (by rfl)
 refine Br.oe h (λp13 h=> ?_) (λp13 h=> ?_)
 ·refine CallQ.o (Bd true) (by rfl) h (λr h=>B0 h) (λr14 h=> ?_);refine BslQ.o (Bd true) [r14] (by exact λ_=>⟨rfl,rfl⟩) (by rfl)<|SetKids.lit rfl ?_
  cases h;exact (by rfl)
 refine Br.oe h (λp15 h=> ?_) (λp15 h=> ?_)
 ·refine CallQ.o (Bd true) (by rfl) h (λr h=>B0 h) (λr16 h=> ?_);refine BslQ.o (Bd true) [r16] (by exact λ_=>⟨rfl,rfl⟩) (by rfl)<|SetKids.lit rfl ?_
  cases h;exact (by rfl)
 refine Br.oe h (λp17 h=> ?_) (λp17 h=> ?_)
 ·refine CallQ.o (Bd true) (by rfl) h (λr h=>B0 h) (λr18 h=> ?_);refine CallQ.o (Bd true) (by rfl) h (λr h=>B0 h) (λr19 h=> ?_);refine BslQ.o (Bd true) ([r18,r19]) (by exact λ_=>⟨rfl,rfl⟩) (by rfl)<|SetKids.lit rfl ?_
  cases h;exact (by rfl)
 refine Br.oe h (λp20 h=> ?_) (λp20 h=> ?_)
 ·refine BslQ.o Ae ([(1:Int),(2:Int),(3:Int),(0:Int)]) (by exact λ_=>⟨rfl,rfl⟩) (by rfl)<|BslQ.o (Bd true) ([{ Arity:=(1:Int),Table:=[(1:Int),(2:Int),(3:Int),(0:Int)] }]) (by exact λ_=>⟨rfl,rfl⟩) (by rfl)<|SetKids.lit rfl ?_
  cases h;exact (by rfl)
 refine Br.oe h (λp21 h=> ?_) (λp21 h=> ?_)
 ·refine BslQ.o Ae ([(0:Int),(0:Int),(0:Int),(1:Int),(0:Int),(1:Int),(1:Int),(1:Int)]) (by exact λ_=>⟨rfl,rfl⟩) (by rfl)<|BslQ.o (Bd true) ([{ Arity:=(3:Int),Table:=[(0:Int),(0:Int),(0:Int),(1:Int),(0:Int),(1:Int),(1:Int),(1:Int)] }]) (by exact λ_=>⟨rfl,rfl⟩) (by rfl)<|SetKids.lit rfl ?_
  cases h;exact (by rfl)
 refine Br.oe h (λp22 h=> ?_) (λp22 h=> ?_)
 ·refine CallQ.o (Bd true) (by rfl) h (λr h=>B0 h) (λr23 h=> ?_);refine BslQ.o (Bd true) [r23] (by exact λ_=>⟨rfl,rfl⟩) (by rfl)<|SetKids.lit rfl ?_
  cases h;exact (by rfl)
 refine Br.oe h (λp24 h=> ?_) (λp24 h=> ?_)
 ·refine CallQ.o (Bd true) (by rfl) h (λr h=>B0 h) (λr25 h=> ?_);refine CallQ.o (Bd true) (by rfl) h (λr h=>B0 h) (λr26 h=> ?_);refine BslQ.o (Bd true) ([r25,r26]) (by exact λ_=>⟨rfl,rfl⟩) (by rfl)<|SetKids.lit rfl ?_
  cases h;exact (by rfl)
 refine Br.oe h (λp27 h=> ?_) (λp27 h=> ?_)
 ·refine CallQ.o (Bd true) (by rfl) h (λr h=>B0 h) (λr28 h=> ?_);refine BslQ.o (Bd true) [r28] (by exact λ_=>⟨rfl,rfl⟩) (by rfl)<|SetKids.lit rfl ?_
  cases h;exact (by rfl)
 refine Br.oe h (λp29 h=> ?_) (λp29 h=> ?_)
 ·refine BslQ.o Ae ([(0:Int),(0:Int),(1:Int)]) (by exact λ_=>⟨rfl,rfl⟩) (by rfl)<|BslQ.o Ae ([(2:Int)]) (by exact λ_=>⟨rfl,rfl⟩) (by rfl)<|BslQ.o (Bd true) ([{ Arity:=(1:Int),Table:=[(0:Int),(0:Int),(1:Int)] },{ Arity:=(0:Int),Table:=[(2:Int)] }]) (by exact λ_=>⟨rfl,rfl⟩) (by rfl)<|SetKids.lit rfl ?_
  cases h;exact (by rfl)
 refine Br.oe h (λp30 h=> ?_) (λp30 h=> ?_)
 ·refine CallQ.o (Bd true) (by rfl) h (λr h=>B0 h) (λr31 h=> ?_);refine BslQ.o (Bd true) [r31] (by exact λ_=>⟨rfl,rfl⟩) (by rfl)<|SetKids.lit rfl ?_
  cases h;exact (by rfl)
 refine Br.oe h (λp32 h=> ?_) (λp32 h=> ?_)
 ·refine CallQ.o (Bd true) (by rfl) h (λr h=>Aau h) (λr33 h=> ?_);refine BslQ.o (Bd true) [r33] (by exact λ_=>⟨rfl,rfl⟩) (by rfl)<|SetKids.lit rfl ?_
  cases h;exact (by rfl)
 refine SetKids.lit rfl ?_;cases h;exact (by rfl)
noncomputable def Dw (n0:Int) (k0:Int) (place0:Int) (r1:Int):(Int×(List Int))->Option ((Int×(List Int)) ⊕ (List Int)):=λ(x15,x7)=>
 if x15<(↑r1.toNat:Int) then
 (Io (x15) (k0) (n0)).bind λr4=>
 ask ((0:Int)<=place0/\place0<(↑r4.length:Int)) <|
 ask ((0:Int)<=x15/\x15<(↑x7.length:Int)) <|
 ask (InI (x15+(1:Int))) <|
 some (.inl (x15+(1:Int),x7.set x15.toNat (nth r4 place0.toNat)))
 else
 some (.inr x7)
def Lu (n0:Int) (k0:Int) (place0:Int) (r1:Int):(Int×(List Int))->St:=λs=>[(15,A.val (Ae s.1)),(14,A.val (Ae ((↑r1.toNat:Int)))),(7,A.val (slr true 1 Ae s.2)),(0,A.val (Ae n0)),(1,A.val (Ae k0)),(2,A.val (Ae place0))]
def Sm (_n0:Int) (_k0:Int) (_place0:Int) (_r1:Int):(List Int)->Tgt
 | s=>((Ex.exit 0),[7],[(7,A.val (slr true 1 Ae s))])
theorem Ab0 {n0} {k0} {place0} {r1} (s) o (h:Dw n0 k0 place0 r1 s=some o):vc Try.prog So (Ch [15,14,7,0,1,2] (Lu n0 k0 place0 r1) (Sm n0 k0 place0 r1) o) (Lu n0 k0 place0 r1 s):=by
 obtain ⟨x15,x7⟩:=s;unfold Dw at h;try dsimp only at h
 refine Br.od h (λp3 h=> ?_) (λp3 h=> ?_)
 ·refine CallQ.o (slr true 1 Ae) (by rfl) h (λr h=>Xm h) (λr4 h=> ?_);refine Len.map<|Ask.o h λp5 h=>Cells.one (λ_=>⟨rfl,rfl⟩) (by first | omega | (simp [Au] at * <;> omega))<|Len.map<|Ask.o h λp6 h=>SetKids.one (λ_=>⟨rfl,rfl⟩) (nth r4 place0.toNat) (by rfl) (by first | omega | (simp [Au] at * <;> omega))<|Ask.o h λp7 h=> ?_
  cases h;exact ⟨rfl,rfl⟩
 cases h;exact ⟨rfl,rfl⟩
noncomputable def Ib (n0:Int) (k0:Int) (place0:Int):Option (List Int):=
 (Ea (n0) (k0)).bind λr1=>
 ask ((0:Int)<=r1/\r1<=(↑LIM:Int)) <|
 (Aq (Dw n0 k0 place0 r1) ((0:Int),List.replicate r1.toNat (0:Int))).bind λq8_7=>
 some q8_7
theorem Ai5 {n0} {k0} {place0} {v} (h:Ib n0 k0 place0=some v):Ret Try.prog Qt [Ae n0,Ae k0,Ae place0] (slr true 1 Ae v):=by
 refine Bn Aje (Nat.le_of_ble_eq_true rfl) ?_;unfold Ib at h;refine CallQ.o Ae (by rfl) h (λr h=>Ue h) (λr1 h=> ?_);refine Ask.o h λp2 h=>MkQ.o Ae ((0:Int)) rfl<|Len.mrep<|LoopQ.o [15,14,7,0,1,2] (Lu n0 k0 place0 r1) (Sm n0 k0 place0 r1) h (λs o h=>Ab0 s o h) (by rfl) (λ_=>rfl) ?_
 rintro q8_7 h;try dsimp only at h
 cases h;exact (by rfl)
noncomputable def Cs (list0:List (List Int)) (p0:List Int):Int->Option (Int ⊕ (Int ⊕ Unit)):=λx9=>
 if x9<(↑list0.length:Int) then
 ask ((0:Int)<=x9/\x9<(↑list0.length:Int)) <|
 (Km (p0) (nth list0 x9.toNat)).bind λr3=>
 if (r3)=true then
 some (.inr (.inl x9))
 else
 ask (InI (x9+(1:Int))) <|
 some (.inl (x9+(1:Int)))
 else
 some (.inr (.inr ()))
def Mz (list0:List (List Int)) (p0:List Int):Int->St:=λs=>[(9,A.val (Ae s)),(8,A.val (Ae ((↑list0.length:Int)))),(7,A.val (slr false 1 (slr false 1 Ae) list0)),(1,A.val (slr false 1 Ae p0))]
def Tx (_list0:List (List Int)) (_p0:List Int):(Int ⊕ Unit)->Tgt
 | (.inl s)=>(Ex.ret,[4],[(4,A.val (Ae s))])
 | (.inr _s)=>((Ex.exit 0),[],[])
theorem Aee {list0} {p0} (x9) o (h:Cs list0 p0 x9=some o):vc Try.prog Tz (Ch [9,8,7,1] (Mz list0 p0) (Tx list0 p0) o) (Mz list0 p0 x9):=by
 unfold Cs at h;try dsimp only at h
 refine Br.od h (λp1 h=> ?_) (λp1 h=> ?_)
 ·refine Len.map<|Ask.o h λp2 h=>Elem.o (by first | omega | (simp [Au] at * <;> omega))<|CallQ.o V.bool (by rfl) h (λr h=>Al8 h) (λr3 h=> ?_)
  refine Br.ob h (λp4 h=> ?_) (λp4 h=> ?_)
  ·cases h;exact ⟨rfl,rfl⟩
  refine Ask.o h λp5 h=> ?_
  cases h;exact ⟨rfl,rfl⟩
 cases h;exact ⟨rfl,rfl⟩
noncomputable def E6 (list0:(List (List Int))) (p0:(List Int)):Option Int:=
 (Aq (Cs list0 p0) (0:Int)).bind λt=>match t with
 | (.inl q6_4)=>(some q6_4)
 | (.inr _)=>(some (-1:Int))
theorem Rl {list0} {p0} {v} (h:E6 list0 p0=some v):Ret Try.prog I5 [(slr false 1 (slr false 1 Ae)) list0,(slr false 1 Ae) p0] (Ae v):=by
 refine Bn Aki (Nat.le_of_ble_eq_true rfl) ?_;unfold E6 at h;refine Len.map<|LoopQ.o [9,8,7,1] (Mz list0 p0) (Tx list0 p0) h (λs o h=>Aee s o h) (by rfl) (by rintro (_ | _)<;>rfl) ?_
 rintro (q6_4 | ⟨⟩) h
 ·try dsimp only at h
  cases h;exact (by rfl)
 try dsimp only at h
 cases h;exact (by rfl)
noncomputable def Cu (n0:Int) (k0:Int) (place0:Int):(Int×(List Int))->Option ((Int×(List Int)) ⊕ (List Int)):=λ(x8,x7)=>
 (Dq (n0) (k0)).bind λr1=>
 if x8<r1 then
 (Hd (n0) (k0) (x8)).bind λr3=>
 ask ((0:Int)<=place0/\place0<(↑r3.length:Int)) <|
 ask ((x7).length+([nth r3 place0.toNat]).length<=LIM) <|
 ask (InI (x8+(1:Int))) <|
 some (.inl (x8+(1:Int),x7++[nth r3 place0.toNat]))
 else
 some (.inr x7)
def Jd (n0:Int) (k0:Int) (place0:Int):(Int×(List Int))->St:=λs=>[(8,A.val (Ae s.1)),(7,A.val (slr true 1 Ae s.2)),(0,A.val (Ae n0)),(1,A.val (Ae k0)),(2,A.val (Ae place0))]
def Oe (_n0:Int) (_k0:Int) (_place0:Int):(List Int)->Tgt
 | s=>((Ex.exit 0),[7],[(7,A.val (slr true 1 Ae s))])
theorem Y1 {n0} {k0} {place0} (s) o (h:Cu n0 k0 place0 s=some o):vc Try.prog Oj (Ch [8,7,0,1,2] (Jd n0 k0 place0) (Oe n0 k0 place0) o) (Jd n0 k0 place0 s):=by
 obtain ⟨x8,x7⟩:=s;unfold Cu at h;try dsimp only at h
 refine CallQ.o Ae (by rfl) h (λr h=>Qe h) (λr1 h=> ?_);refine Br.od h (λp2 h=> ?_) (λp2 h=> ?_)
 ·refine CallQ.o (slr true 1 Ae) (by rfl) h (λr h=>Xo h) (λr3 h=> ?_);refine Len.map<|Ask.o h λp4 h=>Cells.one (λ_=>⟨rfl,rfl⟩) (by first | omega | (simp [Au] at * <;> omega))<|BslQ.o Ae ([nth r3 place0.toNat]) (by exact λ_=>⟨rfl,rfl⟩) (by rfl)<|NoOwn.o (λ_=>rfl)<|AppQ.o (m:=1) Ae (by exact λ_=>⟨rfl,rfl⟩) (x7) ([nth r3 place0.toNat]) (by rfl) (by rfl) h λh=>Ask.o h λp5 h=> ?_
  cases h;exact ⟨rfl,rfl⟩
 cases h;exact ⟨rfl,rfl⟩
noncomputable def Gn (n0:Int) (k0:Int) (place0:Int):Option (List Int):=
 (Aq (Cu n0 k0 place0) ((0:Int),Av Int)).bind λq6_7=>
 some q6_7
theorem Acx {n0} {k0} {place0} {v} (h:Gn n0 k0 place0=some v):Ret Try.prog Lz [Ae n0,Ae k0,Ae place0] (slr true 1 Ae v):=by
 refine Bn Acc (Nat.le_of_ble_eq_true rfl) ?_;unfold Gn at h;refine BslQ.o Ae (Av Int) (by exact λ_=>⟨rfl,rfl⟩) (by rfl)<|LoopQ.o [8,7,0,1,2] (Jd n0 k0 place0) (Oe n0 k0 place0) h (λs o h=>Y1 s o h) (by rfl) (λ_=>rfl) ?_
 rintro q6_7 h;try dsimp only at h
 cases h;exact (by rfl)
noncomputable def D5 (n0:Int) (list0:List Int):Int->Option (Int ⊕ (Unit ⊕ Unit)):=λx5=>
 if x5<(↑list0.length:Int) then
 ask ((0:Int)<=x5/\x5<(↑list0.length:Int)) <|
 ask (InI (n0-(1:Int))) <|
 (Dx (nth list0 x5.toNat) ((0:Int)) (n0-(1:Int))).bind λr4=>
 if (r4)=true then
 ask (InI (x5+(1:Int))) <|
 some (.inl (x5+(1:Int)))
 else
 some (.inr (.inl ()))
 else
 some (.inr (.inr ()))
def K9 (n0:Int) (list0:List Int):Int->St:=λs=>[(5,A.val (Ae s)),(0,A.val (Ae n0)),(1,A.val (slr false 1 Ae list0))]
def Sd (_n0:Int) (_list0:List Int):(Unit ⊕ Unit)->Tgt
 | (.inl _s)=>(Ex.ret,[4],[(4,A.val (V.bool false))])
 | (.inr _s)=>((Ex.exit 0),[],[])
theorem Abs {n0} {list0} (x5) o (h:D5 n0 list0 x5=some o):vc Try.prog Sw (Ch [5,0,1] (K9 n0 list0) (Sd n0 list0) o) (K9 n0 list0 x5):=by
 unfold D5 at h;try dsimp only at h
 refine Len.map<|Br.od h (λp1 h=> ?_) (λp1 h=> ?_)
 ·refine Len.map<|Ask.o h λp2 h=>Elem.o (by first | omega | (simp [Au] at * <;> omega))<|Ask.o h λp3 h=>CallQ.o V.bool (by rfl) h (λr h=>Hc h) (λr4 h=> ?_)
  refine Br.flip<|Br.ob h (λp5 h=> ?_) (λp5 h=> ?_)
  ·refine Ask.o h λp6 h=> ?_
   cases h;exact ⟨rfl,rfl⟩
  cases h;exact ⟨rfl,rfl⟩
 cases h;exact ⟨rfl,rfl⟩
noncomputable def El (n0:Int) (list0:(List Int)):Option Bool:=
 (Aq (D5 n0 list0) (0:Int)).bind λt=>match t with
 | (.inl _)=>(some false)
 | (.inr _)=>(some true)
theorem Oy {n0} {list0} {v} (h:El n0 list0=some v):Ret Try.prog Ig [Ae n0,(slr false 1 Ae) list0] (V.bool v):=by
 refine Bn Ai3 (Nat.le_of_ble_eq_true rfl) ?_;unfold El at h;refine LoopQ.o [5,0,1] (K9 n0 list0) (Sd n0 list0) h (λs o h=>Abs s o h) (by rfl) (by rintro (_ | _)<;>rfl) ?_;rintro (⟨⟩ | ⟨⟩) h
 ·try dsimp only at h
  cases h;exact (by rfl)
 try dsimp only at h
 cases h;exact (by rfl)
noncomputable def S3 (f0:SOp) (n0:Int):Option Bool:=
 if f0.Arity>=(0:Int) then
 if f0.Arity<=(3:Int) then
 (Ea (n0) (f0.Arity)).bind λr3=>
 if (↑f0.Table.length:Int)=r3 then
 (Gf (f0.Table) (n0)).bind λr5=>
 some r5
 else
 some false
 else
 some false
 else
 some false
theorem Awf {f0} {n0} {v} (h:S3 f0 n0=some v):Ret Try.prog Aco [(Bd false) f0,Ae n0] (V.bool v):=by
 refine Bn Awr (Nat.le_of_ble_eq_true rfl) ?_;unfold S3 at h;refine Cells.lit rfl rfl<|Br.od h (λp1 h=> ?_) (λp1 h=> ?_)
 ·refine Br.yes<|Cells.lit rfl rfl<|Br.yes<|Br.yes<|Br.od h (λp2 h=> ?_) (λp2 h=> ?_)
  ·refine Br.yes<|Cells.lit rfl rfl<|Br.yes<|Len.map<|Br.yes<|Br.yes<|Br.yes<|Cells.lit rfl rfl<|Br.yes<|CallP.o Ae (by rfl) h (λr h=>Ue h) (λr3 h=> ?_)
   refine Br.yes<|Br.yes<|Br.oe h (λp4 h=> ?_) (λp4 h=> ?_)
   ·refine Br.yes<|Cells.lit rfl rfl<|Br.yes<|Br.yes<|CallQ.o V.bool (by rfl) h (λr h=>Na h) (λr5 h=> ?_)
    refine Br.yes ?_;cases h;exact (by rfl)
   refine Br.no<|Br.no<|Br.no<|Br.no ?_
   cases h;exact (by rfl)
  refine Br.no<|Br.no<|Br.no<|Br.no<|Br.no<|Br.no<|Br.no<|Br.no<|Br.no<|Br.no<|Br.no<|Br.no<|Br.no ?_
  cases h;exact (by rfl)
 refine Br.no<|Br.no<|Br.no<|Br.no<|Br.no<|Br.no<|Br.no<|Br.no<|Br.no<|Br.no<|Br.no<|Br.no<|Br.no<|Br.no<|Br.no<|Br.no<|Br.no ?_
 cases h;exact (by rfl)
noncomputable def Gk (list0:(List Int)):Option Bool:=
 (Gf (list0) ((2:Int))).bind λr1=>
 some r1
theorem Pr {list0} {v} (h:Gk list0=some v):Ret Try.prog P1 [(slr false 1 Ae) list0] (V.bool v):=by refine Bn Aov (Nat.le_of_ble_eq_true rfl) ?_;unfold Gk at h;refine CallQ.o V.bool (by rfl) h (λr h=>Na h) (λr1 h=> ?_);cases h;exact (by rfl)
end Go.Proofs.Ytaalgpkajkogkaa.Ax
