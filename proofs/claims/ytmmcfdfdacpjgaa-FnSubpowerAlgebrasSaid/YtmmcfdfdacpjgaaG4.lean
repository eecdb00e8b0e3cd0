/-
 What the functions compute, as functions on plain data, and that the program does compute it; written by program.
-/
import Derived.Test.YtmmcfdfdacpjgaaCode
import Derived.Test.YtmmcfdfdacpjgaaG2
import Derived.Test.YtmmcfdfdacpjgaaG3
namespace Go.Proofs.Ytmmcfdfdacpjgaa.Ax
open Go
set_option maxRecDepth 100000
set_option maxHeartbeats 4000000
noncomputable def En (list0:List (List Int)) (t0:List Int):(Int×Int)→Option ((Int×Int) ⊕ Int):=fun (x7,x6)=>
 if x6<x7 then
 ask (InI (x6+x7)) <|
 ask ((2:Int)≠(0:Int)∧InI ((x6+x7).tdiv (2:Int))) <|
 ask ((0:Int)≤(x6+x7).tdiv (2:Int)∧(x6+x7).tdiv (2:Int)<(↑list0.length:Int)) <|
 (I3 (nth list0 ((x6+x7).tdiv (2:Int)).toNat) (t0)).bind fun r5=>
 if (r5)=true then
 ask (InI ((x6+x7).tdiv (2:Int)+(1:Int))) <|
 some (.inl (x7,(x6+x7).tdiv (2:Int)+(1:Int)))
 else
 some (.inl ((x6+x7).tdiv (2:Int),x6))
 else
 some (.inr x6)
def Oa (list0:List (List Int)) (t0:List Int):(Int×Int)→St:=fun s=>[(7,A.val (Ae s.1)),(6,A.val (Ae s.2)),(0,A.val (slr false 1 (slr false 1 Ae) list0)),(1,A.val (slr false 1 Ae t0))]
def U0 (list0:List (List Int)) (t0:List Int):Int→Tgt
 | s=>((Ex.exit 0),[6,0,1],[(6,A.val (Ae s)),(0,A.val (slr false 1 (slr false 1 Ae) list0)),(1,A.val (slr false 1 Ae t0))])
theorem Afv {list0} {t0} (s) o (h:En list0 t0 s=some o):vc Try.prog Vy (Co [7,6,0,1] (Oa list0 t0) (U0 list0 t0) o) (Oa list0 t0 s):=by
 obtain ⟨x7,x6⟩:=s
 unfold En at h
 try dsimp only at h
 conv=>whnf
 refine Br.od h (fun p1 h=> ?_) (fun p1 h=> ?_)
 ·conv=>whnf
  refine Ask.o h fun p2 h=> ?_
  conv=>whnf
  refine Ask.o h fun p3 h=> ?_
  conv=>whnf
  refine Len.map ?_
  conv=>whnf
  refine Ask.o h fun p4 h=> ?_
  conv=>whnf
  refine Elem.o (by first | omega | (simp [At] at * <;> omega)) ?_
  conv=>whnf
  refine CallQ.o V.bool (by rfl) h (fun r h=>Aav h) (fun r5 h=> ?_)
  conv=>whnf
  refine Br.ob h (fun p6 h=> ?_) (fun p6 h=> ?_)
  ·conv=>whnf
   refine Ask.o h fun p7 h=> ?_
   conv=>whnf
   cases h;exact ⟨rfl,rfl⟩
  conv=>whnf
  cases h;exact ⟨rfl,rfl⟩
 conv=>whnf
 cases h;exact ⟨rfl,rfl⟩
noncomputable def C1 (list0:(List (List Int))) (t0:(List Int)):Option (Int×Bool):=
 (Am (En list0 t0) ((↑list0.length:Int),(0:Int))).bind fun q8_6=>
 if q8_6<(↑list0.length:Int) then
 ask ((0:Int)≤q8_6∧q8_6<(↑list0.length:Int)) <|
 (K9 (nth list0 q8_6.toNat) (t0)).bind fun r11=>
 some (q8_6,r11)
 else
 some (q8_6,false)
theorem K6 {list0} {t0} {v} (h:C1 list0 t0=some v):Ret Try.prog Hl [(slr false 1 (slr false 1 Ae)) list0,(slr false 1 Ae) t0] ((fun r=>V.tup [Ae r.1,V.bool r.2]) v):=by
 refine Ba Al3 (Nat.le_of_ble_eq_true rfl) ?_
 unfold C1 at h
 conv=>whnf
 refine Len.map ?_
 conv=>whnf
 refine LoopQ.o [7,6,0,1] (Oa list0 t0) (U0 list0 t0) h (fun s o h=>Afv s o h) (by rfl) (fun _=>rfl) ?_
 rintro q8_6 h
 try dsimp only at h
 conv=>whnf
 refine Len.map ?_
 conv=>whnf
 refine Br.od h (fun p9 h=> ?_) (fun p9 h=> ?_)
 ·conv=>whnf
  refine Br.yes ?_
  conv=>whnf
  refine Br.yes ?_
  conv=>whnf
  refine Len.map ?_
  conv=>whnf
  refine Ask.o h fun p10 h=> ?_
  conv=>whnf
  refine Elem.o (by first | omega | (simp [At] at * <;> omega)) ?_
  conv=>whnf
  refine Br.yes ?_
  conv=>whnf
  refine Br.yes ?_
  conv=>whnf
  refine Br.yes ?_
  conv=>whnf
  refine CallQ.o V.bool (by rfl) h (fun r h=>Amm h) (fun r11 h=> ?_)
  conv=>whnf
  refine Br.yes ?_
  conv=>whnf
  cases h;exact (by rfl)
 conv=>whnf
 refine Br.no ?_
 conv=>whnf
 refine Br.no ?_
 conv=>whnf
 refine Br.no ?_
 conv=>whnf
 refine Br.no ?_
 conv=>whnf
 refine Br.no ?_
 conv=>whnf
 refine Br.no ?_
 conv=>whnf
 cases h;exact (by rfl)
noncomputable def Mo (a0:SAlgebra) (b0:SAlgebra) (f0:(List Int)):Option Bool:=
 if (↑f0.length:Int)=a0.Size then
 (F9 (f0) (b0.Size)).bind fun r2=>
 some r2
 else
 some false
theorem Apq {a0} {b0} {f0} {v} (h:Mo a0 b0 f0=some v):Ret Try.prog W8 [(Af false) a0,(Af false) b0,(slr false 1 Ae) f0] (V.bool v):=by
 refine Ba Apk (Nat.le_of_ble_eq_true rfl) ?_
 unfold Mo at h
 conv=>whnf
 refine Len.map ?_
 conv=>whnf
 refine Cells.lit rfl rfl ?_
 conv=>whnf
 refine Br.oe h (fun p1 h=> ?_) (fun p1 h=> ?_)
 ·conv=>whnf
  refine Br.yes ?_
  conv=>whnf
  refine Br.yes ?_
  conv=>whnf
  refine Cells.lit rfl rfl ?_
  conv=>whnf
  refine Br.yes ?_
  conv=>whnf
  refine CallQ.o V.bool (by rfl) h (fun r h=>Pg h) (fun r2 h=> ?_)
  conv=>whnf
  refine Br.yes ?_
  conv=>whnf
  cases h;exact (by rfl)
 conv=>whnf
 refine Br.no ?_
 conv=>whnf
 refine Br.no ?_
 conv=>whnf
 refine Br.no ?_
 conv=>whnf
 refine Br.no ?_
 conv=>whnf
 cases h;exact (by rfl)
noncomputable def E9 (a0:SAlgebra) (b0:SAlgebra) (f0:List Int) (x15:Int):Int→Option (Int ⊕ (Int ⊕ Unit)):=fun x23=>
 if x23<(↑(nth a0.Ops x15.toNat).Table.length:Int) then
 ask ((0:Int)≤x23∧x23<(↑(nth a0.Ops x15.toNat).Table.length:Int)) <|
 ask ((0:Int)≤nth (nth a0.Ops x15.toNat).Table x23.toNat∧nth (nth a0.Ops x15.toNat).Table x23.toNat<(↑f0.length:Int)) <|
 ask ((0:Int)≤x15∧x15<(↑b0.Ops.length:Int)) <|
 (G6 (x23) ((nth a0.Ops x15.toNat).Arity) (a0) (b0) (f0)).bind fun r7=>
 ask ((0:Int)≤r7∧r7<(↑(nth b0.Ops x15.toNat).Table.length:Int)) <|
 if nth f0 (nth (nth a0.Ops x15.toNat).Table x23.toNat).toNat≠nth (nth b0.Ops x15.toNat).Table r7.toNat then
 some (.inr (.inl x23))
 else
 ask (InI (x23+(1:Int))) <|
 some (.inl (x23+(1:Int)))
 else
 some (.inr (.inr ()))
def Mt (a0:SAlgebra) (b0:SAlgebra) (f0:List Int) (x15:Int):Int→St:=fun s=>[(23,A.val (Ae s)),(22,A.val (Ae ((↑(nth a0.Ops x15.toNat).Table.length:Int)))),(21,A.val ((slr false 1 Ae) ((nth a0.Ops x15.toNat).Table))),(8,A.val (Ae x15)),(9,A.val ((rP true (Aw false)) (nth a0.Ops x15.toNat))),(15,A.val (Ae x15)),(14,A.val (Ae ((↑a0.Ops.length:Int)))),(13,A.val (slr false 2 (Aw false) a0.Ops)),(4,A.val (rP true (Af false) b0)),(3,A.val (rP true (Af false) a0)),(2,A.val (slr false 1 Ae f0))]
def Tl (a0:SAlgebra) (b0:SAlgebra) (f0:List Int) (x15:Int):(Int ⊕ Unit)→Tgt
 | (.inl s)=>(Ex.ret,[7,6],[(7,A.val (Ae s)),(6,A.val (Ae x15))])
 | (.inr _s)=>((Ex.exit 2),[15,14,13,4,3,2],[(15,A.val (Ae x15)),(14,A.val (Ae ((↑a0.Ops.length:Int)))),(13,A.val (slr false 2 (Aw false) a0.Ops)),(4,A.val (rP true (Af false) b0)),(3,A.val (rP true (Af false) a0)),(2,A.val (slr false 1 Ae f0))])
theorem Adu {a0} {b0} {f0} {x15} (x23) o (h:E9 a0 b0 f0 x15 x23=some o):vc Try.prog Tt (Co [23,22,21,8,9,15,14,13,4,3,2] (Mt a0 b0 f0 x15) (Tl a0 b0 f0 x15) o) (Mt a0 b0 f0 x15 x23):=by
 unfold E9 at h
 try dsimp only at h
 conv=>whnf
 refine Br.od h (fun p3 h=> ?_) (fun p3 h=> ?_)
 ·conv=>whnf
  refine Len.map ?_
  conv=>whnf
  refine Ask.o h fun p4 h=> ?_
  conv=>whnf
  refine Elem.o (by first | omega | (simp [At] at * <;> omega)) ?_
  conv=>whnf
  refine Len.map ?_
  conv=>whnf
  refine Ask.o h fun p5 h=> ?_
  conv=>whnf
  refine Elem.o (by first | omega | (simp [At] at * <;> omega)) ?_
  conv=>whnf
  refine Cells.lit rfl rfl ?_
  conv=>whnf
  refine Len.map ?_
  conv=>whnf
  refine Ask.o h fun p6 h=> ?_
  conv=>whnf
  refine Elem.o (by first | omega | (simp [At] at * <;> omega)) ?_
  conv=>whnf
  refine Cells.lit rfl rfl ?_
  conv=>whnf
  refine Cells.lit rfl rfl ?_
  conv=>whnf
  refine Cells.lit rfl rfl ?_
  conv=>whnf
  refine CallP.o Ae (by rfl) h (fun r h=>Adc h) (fun r7 h=> ?_)
  conv=>whnf
  refine Len.map ?_
  conv=>whnf
  refine Ask.o h fun p8 h=> ?_
  conv=>whnf
  refine Elem.o (by first | omega | (simp [At] at * <;> omega)) ?_
  conv=>whnf
  refine Br.on h (fun p9 h=> ?_) (fun p9 h=> ?_)
  ·conv=>whnf
   cases h;exact ⟨rfl,rfl⟩
  conv=>whnf
  refine Ask.o h fun p10 h=> ?_
  conv=>whnf
  cases h;exact ⟨rfl,rfl⟩
 conv=>whnf
 cases h;exact ⟨rfl,rfl⟩
noncomputable def E6 (a0:SAlgebra) (b0:SAlgebra) (f0:List Int):Int→Option (Int ⊕ ((Int×Int) ⊕ Unit)):=fun x15=>
 if x15<(↑a0.Ops.length:Int) then
 ask ((0:Int)≤x15∧x15<(↑a0.Ops.length:Int)) <|
 (Am (E9 a0 b0 f0 x15) (0:Int)).bind fun t=>match t with
 | (.inl q11_7)=>(some (.inr (.inl (q11_7,x15))))
 | (.inr _)=>(ask (InI (x15+(1:Int))) <|
 some (.inl (x15+(1:Int))))
 else
 some (.inr (.inr ()))
def M0 (a0:SAlgebra) (b0:SAlgebra) (f0:List Int):Int→St:=fun s=>[(15,A.val (Ae s)),(14,A.val (Ae ((↑a0.Ops.length:Int)))),(13,A.val (slr false 2 (Aw false) a0.Ops)),(4,A.val (rP true (Af false) b0)),(3,A.val (rP true (Af false) a0)),(2,A.val (slr false 1 Ae f0))]
def S5 (_a0:SAlgebra) (_b0:SAlgebra) (_f0:List Int):((Int×Int) ⊕ Unit)→Tgt
 | (.inl s)=>(Ex.ret,[7,6],[(7,A.val (Ae s.1)),(6,A.val (Ae s.2))])
 | (.inr _s)=>((Ex.exit 0),[],[])
theorem Aeu {a0} {b0} {f0} (x15) o (h:E6 a0 b0 f0 x15=some o):vc Try.prog Tg (Co [15,14,13,4,3,2] (M0 a0 b0 f0) (S5 a0 b0 f0) o) (M0 a0 b0 f0 x15):=by
 unfold E6 at h
 try dsimp only at h
 conv=>whnf
 refine Br.od h (fun p1 h=> ?_) (fun p1 h=> ?_)
 ·conv=>whnf
  refine Len.map ?_
  conv=>whnf
  refine Ask.o h fun p2 h=> ?_
  conv=>whnf
  refine Elem.o (by first | omega | (simp [At] at * <;> omega)) ?_
  conv=>whnf
  refine SetKids.lit rfl ?_
  conv=>whnf
  refine Cells.lit rfl rfl ?_
  conv=>whnf
  refine Len.map ?_
  conv=>whnf
  refine LoopQ.o [23,22,21,8,9,15,14,13,4,3,2] (Mt a0 b0 f0 x15) (Tl a0 b0 f0 x15) h (fun s o h=>Adu s o h) (by rfl) (by rintro (_ | _)<;>rfl) ?_
  rintro (q11_7 | ⟨⟩) h
  ·try dsimp only at h
   conv=>whnf
   cases h;exact ⟨rfl,rfl⟩
  try dsimp only at h
  conv=>whnf
  refine Ask.o h fun p12 h=> ?_
  conv=>whnf
  cases h;exact ⟨rfl,rfl⟩
 conv=>whnf
 cases h;exact ⟨rfl,rfl⟩
noncomputable def Ht (a0:SAlgebra) (b0:SAlgebra) (f0:(List Int)):Option (Int×Int):=
 (Am (E6 a0 b0 f0) (0:Int)).bind fun t=>match t with
 | (.inl (q13_7,q13_6))=>(some (q13_6,q13_7))
 | (.inr _)=>(some ((-1:Int),(0:Int)))
theorem Aju {a0} {b0} {f0} {v} (h:Ht a0 b0 f0=some v):Ret Try.prog Rw [(Af false) a0,(Af false) b0,(slr false 1 Ae) f0] ((fun r=>V.tup [Ae r.1,Ae r.2]) v):=by
 refine Ba Ak4 (Nat.le_of_ble_eq_true rfl) ?_
 unfold Ht at h
 conv=>whnf
 refine Cells.lit rfl rfl ?_
 conv=>whnf
 refine Len.map ?_
 conv=>whnf
 refine LoopQ.o [15,14,13,4,3,2] (M0 a0 b0 f0) (S5 a0 b0 f0) h (fun s o h=>Aeu s o h) (by rfl) (by rintro (_ | _)<;>rfl) ?_
 rintro (⟨q13_7,q13_6⟩ | ⟨⟩) h
 ·try dsimp only at h
  conv=>whnf
  cases h;exact (by rfl)
 try dsimp only at h
 conv=>whnf
 cases h;exact (by rfl)
noncomputable def J6 (k0:Int):Option SAlgebra:=
 if k0=(0:Int) then
 (Bd ((ByteArray.mk #[48,48,48,49]))).bind fun r2=>
 some ({ Size:=(2:Int),Ops:=[r2] })
 else
 if k0=(1:Int) then
 (Bd ((ByteArray.mk #[48,48,48,49]))).bind fun r4=>
 (Bd ((ByteArray.mk #[48,49,49,49]))).bind fun r5=>
 some ({ Size:=(2:Int),Ops:=[r4,r5] })
 else
 if k0=(2:Int) then
 (Bd ((ByteArray.mk #[48,48,48,49]))).bind fun r7=>
 (Bd ((ByteArray.mk #[48,49,49,49]))).bind fun r8=>
 some ({ Size:=(2:Int),Ops:=[r7,r8,{ Arity:=(1:Int),Table:=[(1:Int),(0:Int)] }] })
 else
 if k0=(3:Int) then
 (G3 ((2:Int))).bind fun r10=>
 some ({ Size:=(2:Int),Ops:=[r10] })
 else
 if k0=(4:Int) then
 (Bd ((ByteArray.mk #[48,49,50,49,50,48,50,48,49]))).bind fun r12=>
 some ({ Size:=(3:Int),Ops:=[r12] })
 else
 if k0=(5:Int) then
 (Bd ((ByteArray.mk #[48,49,48,49,49,50,48,50,50]))).bind fun r14=>
 some ({ Size:=(3:Int),Ops:=[r14] })
 else
 if k0=(6:Int) then
 (Bd ((ByteArray.mk #[48,49,50,51,49,48,51,50,50,51,48,49,51,50,49,48]))).bind fun r16=>
 some ({ Size:=(4:Int),Ops:=[r16] })
 else
 if k0=(7:Int) then
 (Bd ((ByteArray.mk #[48,48,48,48,49,49,48,49,50]))).bind fun r18=>
 (Bd ((ByteArray.mk #[48,49,50,49,49,50,50,50,50]))).bind fun r19=>
 some ({ Size:=(3:Int),Ops:=[r18,r19] })
 else
 if k0=(8:Int) then
 some ({ Size:=(4:Int),Ops:=[{ Arity:=(1:Int),Table:=[(1:Int),(2:Int),(3:Int),(0:Int)] }] })
 else
 if k0=(9:Int) then
 some ({ Size:=(2:Int),Ops:=[{ Arity:=(3:Int),Table:=[(0:Int),(0:Int),(0:Int),(1:Int),(0:Int),(1:Int),(1:Int),(1:Int)] }] })
 else
 if k0=(10:Int) then
 (Bd ((ByteArray.mk #[48,48,48,49,49,49,50,50,50]))).bind fun r23=>
 some ({ Size:=(3:Int),Ops:=[r23] })
 else
 if k0=(11:Int) then
 (Bd ((ByteArray.mk #[48,48,48,48,48,48,49,48,48,49,48,48,50,48,50,48,48,48,51,51,48,49,50,51,52]))).bind fun r25=>
 (Bd ((ByteArray.mk #[48,49,50,51,52,49,49,52,52,52,50,52,50,52,52,51,52,52,51,52,52,52,52,52,52]))).bind fun r26=>
 some ({ Size:=(5:Int),Ops:=[r25,r26] })
 else
 if k0=(12:Int) then
 (Bd ((ByteArray.mk #[48,49,50,51,49,50,51,48,50,51,48,49,51,48,49,50]))).bind fun r28=>
 some ({ Size:=(4:Int),Ops:=[r28] })
 else
 if k0=(13:Int) then
 some ({ Size:=(3:Int),Ops:=[{ Arity:=(1:Int),Table:=[(0:Int),(0:Int),(1:Int)] },{ Arity:=(0:Int),Table:=[(2:Int)] }] })
 else
 if k0=(14:Int) then
 (Bd ((ByteArray.mk #[48]))).bind fun r31=>
 some ({ Size:=(1:Int),Ops:=[r31] })
 else
 if k0=(15:Int) then
 (G3 ((3:Int))).bind fun r33=>
 some ({ Size:=(3:Int),Ops:=[r33] })
 else
 some ({ Size:=(2:Int),Ops:=Ar SOp })
theorem Ai0 {k0} {v} (h:J6 k0=some v):Ret Try.prog R9 [Ae k0] (Af true v):=by
 refine Ba Ai6 (Nat.le_of_ble_eq_true rfl) ?_
 unfold J6 at h
 conv=>whnf
 refine Br.oe h (fun p1 h=> ?_) (fun p1 h=> ?_)
 ·conv=>whnf
  refine CallQ.o (Aw true) (by rfl) h (fun r h=>Bv h) (fun r2 h=> ?_)
  conv=>whnf
  refine BslQ.o (Aw true) [r2] (by exact fun _=>⟨rfl,rfl⟩) (by rfl) ?_
  conv=>whnf
  refine SetKids.lit rfl ?_
  conv=>whnf
  cases h;exact (by rfl)
 conv=>whnf
 refine Br.oe h (fun p3 h=> ?_) (fun p3 h=> ?_)
 ·conv=>whnf
  refine CallQ.o (Aw true) (by rfl) h (fun r h=>Bv h) (fun r4 h=> ?_)
  conv=>whnf
  refine CallQ.o (Aw true) (by rfl) h (fun r h=>Bv h) (fun r5 h=> ?_)
  conv=>whnf
  refine BslQ.o (Aw true) ([r4,r5]) (by exact fun _=>⟨rfl,rfl⟩) (by rfl) ?_
  conv=>whnf
  refine SetKids.lit rfl ?_
  conv=>whnf
  cases h;exact (by rfl)
 conv=>whnf
 refine Br.oe h (fun p6 h=> ?_) (fun p6 h=> ?_)
 ·conv=>whnf
  refine CallQ.o (Aw true) (by rfl) h (fun r h=>Bv h) (fun r7 h=> ?_)
  conv=>whnf
  refine CallQ.o (Aw true) (by rfl) h (fun r h=>Bv h) (fun r8 h=> ?_)
  conv=>whnf
  refine BslQ.o Ae ([(1:Int),(0:Int)]) (by exact fun _=>⟨rfl,rfl⟩) (by rfl) ?_
  conv=>whnf
  refine BslQ.o (Aw true) ([r7,r8,{ Arity:=(1:Int),Table:=[(1:Int),(0:Int)] }]) (by exact fun _=>⟨rfl,rfl⟩) (by rfl) ?_
  conv=>whnf
  refine SetKids.lit rfl ?_
  conv=>whnf
  cases h;exact (by rfl)
 conv=>whnf
 refine Br.oe h (fun p9 h=> ?_) (fun p9 h=> ?_)
 ·conv=>whnf
  refine CallQ.o (Aw true) (by rfl) h (fun r h=>Xr h) (fun r10 h=> ?_)
  conv=>whnf
  refine BslQ.o (Aw true) [r10] (by exact fun _=>⟨rfl,rfl⟩) (by rfl) ?_
  conv=>whnf
  refine SetKids.lit rfl ?_
  conv=>whnf
  cases h;exact (by rfl)
 conv=>whnf
 refine Br.oe h (fun p11 h=> ?_) (fun p11 h=> ?_)
 ·conv=>whnf
  refine CallQ.o (Aw true) (by rfl) h (fun r h=>Bv h) (fun r12 h=> ?_)
  conv=>whnf
  refine BslQ.o (Aw true) [r12] (by exact fun _=>⟨rfl,rfl⟩) (by rfl) ?_
  conv=>whnf
  refine SetKids.lit rfl ?_
  conv=>whnf
  cases h;exact (by rfl)
 conv=>whnf
 refine Br.oe h (fun p13 h=> ?_) (fun p13 h=> ?_)
 ·conv=>whnf
  refine CallQ.o (Aw true) (by rfl) h (fun r h=>Bv h) (fun r14 h=> ?_)
  conv=>whnf
  refine BslQ.o (Aw true) [r14] (by exact fun _=>⟨rfl,rfl⟩) (by rfl) ?_
  conv=>whnf
  refine SetKids.lit rfl ?_
  conv=>whnf
  cases h;exact (by rfl)
 conv=>whnf
 refine Br.oe h (fun p15 h=> ?_) (fun p15 h=> ?_)
 ·conv=>whnf
  refine CallQ.o (Aw true) (by rfl) h (fun r h=>Bv h) (fun r16 h=> ?_)
  conv=>whnf
  refine BslQ.o (Aw true) [r16] (by exact fun _=>⟨rfl,rfl⟩) (by rfl) ?_
  conv=>whnf
  refine SetKids.lit rfl ?_
  conv=>whnf
  cases h;exact (by rfl)
 conv=>whnf
 refine Br.oe h (fun p17 h=> ?_) (fun p17 h=> ?_)
 ·conv=>whnf
  refine CallQ.o (Aw true) (by rfl) h (fun r h=>Bv h) (fun r18 h=> ?_)
  conv=>whnf
  refine CallQ.o (Aw true) (by rfl) h (fun r h=>Bv h) (fun r19 h=> ?_)
  conv=>whnf
  refine BslQ.o (Aw true) ([r18,r19]) (by exact fun _=>⟨rfl,rfl⟩) (by rfl) ?_
  conv=>whnf
  refine SetKids.lit rfl ?_
  conv=>whnf
  cases h;exact (by rfl)
 conv=>whnf
 refine Br.oe h (fun p20 h=> ?_) (fun p20 h=> ?_)
 ·conv=>whnf
  refine BslQ.o Ae ([(1:Int),(2:Int),(3:Int),(0:Int)]) (by exact fun _=>⟨rfl,rfl⟩) (by rfl) ?_
  conv=>whnf
  refine BslQ.o (Aw true) ([{ Arity:=(1:Int),Table:=[(1:Int),(2:Int),(3:Int),(0:Int)] }]) (by exact fun _=>⟨rfl,rfl⟩) (by rfl) ?_
  conv=>whnf
  refine SetKids.lit rfl ?_
  conv=>whnf
  cases h;exact (by rfl)
 conv=>whnf
 refine Br.oe h (fun p21 h=> ?_) (fun p21 h=> ?_)
 ·conv=>whnf
  refine BslQ.o Ae ([(0:Int),(0:Int),(0:Int),(1:Int),(0:Int),(1:Int),(1:Int),(1:Int)]) (by exact fun _=>⟨rfl,rfl⟩) (by rfl) ?_
  conv=>whnf
  refine BslQ.o (Aw true) ([{ Arity:=(3:Int),Table:=[(0:Int),(0:Int),(0:Int),(1:Int),(0:Int),(1:Int),(1:Int),(1:Int)] }]) (by exact fun _=>⟨rfl,rfl⟩) (by rfl) ?_
  conv=>whnf
  refine SetKids.lit rfl ?_
  conv=>whnf
  cases h;exact (by rfl)
 conv=>whnf
 refine Br.oe h (fun p22 h=> ?_) (fun p22 h=> ?_)
 ·conv=>whnf
  refine CallQ.o (Aw true) (by rfl) h (fun r h=>Bv h) (fun r23 h=> ?_)
  conv=>whnf
  refine BslQ.o (Aw true) [r23] (by exact fun _=>⟨rfl,rfl⟩) (by rfl) ?_
  conv=>whnf
  refine SetKids.lit rfl ?_
  conv=>whnf
  cases h;exact (by rfl)
 conv=>whnf
 refine Br.oe h (fun p24 h=> ?_) (fun p24 h=> ?_)
 ·conv=>whnf
  refine CallQ.o (Aw true) (by rfl) h (fun r h=>Bv h) (fun r25 h=> ?_)
  conv=>whnf
  refine CallQ.o (Aw true) (by rfl) h (fun r h=>Bv h) (fun r26 h=> ?_)
  conv=>whnf
  refine BslQ.o (Aw true) ([r25,r26]) (by exact fun _=>⟨rfl,rfl⟩) (by rfl) ?_
  conv=>whnf
  refine SetKids.lit rfl ?_
  conv=>whnf
  cases h;exact (by rfl)
 conv=>whnf
 refine Br.oe h (fun p27 h=> ?_) (fun p27 h=> ?_)
 ·conv=>whnf
  refine CallQ.o (Aw true) (by rfl) h (fun r h=>Bv h) (fun r28 h=> ?_)
  conv=>whnf
  refine BslQ.o (Aw true) [r28] (by exact fun _=>⟨rfl,rfl⟩) (by rfl) ?_
  conv=>whnf
  refine SetKids.lit rfl ?_
  conv=>whnf
  cases h;exact (by rfl)
 conv=>whnf
 refine Br.oe h (fun p29 h=> ?_) (fun p29 h=> ?_)
 ·conv=>whnf
  refine BslQ.o Ae ([(0:Int),(0:Int),(1:Int)]) (by exact fun _=>⟨rfl,rfl⟩) (by rfl) ?_
  conv=>whnf
  refine BslQ.o Ae ([(2:Int)]) (by exact fun _=>⟨rfl,rfl⟩) (by rfl) ?_
  conv=>whnf
  refine BslQ.o (Aw true) ([{ Arity:=(1:Int),Table:=[(0:Int),(0:Int),(1:Int)] },{ Arity:=(0:Int),Table:=[(2:Int)] }]) (by exact fun _=>⟨rfl,rfl⟩) (by rfl) ?_
  conv=>whnf
  refine SetKids.lit rfl ?_
  conv=>whnf
  cases h;exact (by rfl)
 conv=>whnf
 refine Br.oe h (fun p30 h=> ?_) (fun p30 h=> ?_)
 ·conv=>whnf
  refine CallQ.o (Aw true) (by rfl) h (fun r h=>Bv h) (fun r31 h=> ?_)
  conv=>whnf
  refine BslQ.o (Aw true) [r31] (by exact fun _=>⟨rfl,rfl⟩) (by rfl) ?_
  conv=>whnf
  refine SetKids.lit rfl ?_
  conv=>whnf
  cases h;exact (by rfl)
 conv=>whnf
 refine Br.oe h (fun p32 h=> ?_) (fun p32 h=> ?_)
 ·conv=>whnf
  refine CallQ.o (Aw true) (by rfl) h (fun r h=>Xr h) (fun r33 h=> ?_)
  conv=>whnf
  refine BslQ.o (Aw true) [r33] (by exact fun _=>⟨rfl,rfl⟩) (by rfl) ?_
  conv=>whnf
  refine SetKids.lit rfl ?_
  conv=>whnf
  cases h;exact (by rfl)
 conv=>whnf
 refine SetKids.lit rfl ?_
 conv=>whnf
 cases h;exact (by rfl)
noncomputable def A7 (c0:Sl1Cur) (n0:Int):Option (Int×Sl1Cur):=
 if n0≤(1:Int) then
 some ((0:Int),c0)
 else
 (E8 (c0)).bind fun (r2,u3)=>
 if n0>(200:Int) then
 ask (InI (r2*(256:Int))) <|
 (E8 (u3)).bind fun (r6,u7)=>
 ask (InI (r2*(256:Int)+r6)) <|
 ask (n0≠(0:Int)) <|
 some ((r2*(256:Int)+r6).tmod n0,u7)
 else
 ask (n0≠(0:Int)) <|
 some (r2.tmod n0,u3)
theorem Bf {c0} {n0} {v} (h:A7 c0 n0=some v):Se Try.prog A6 [(rP true (Aj false)) c0,Ae n0] (Ae v.1) 0 (rP true (Aj false) v.2):=by
 refine Q9 Ac3 (Nat.le_of_ble_eq_true rfl) ?_
 unfold A7 at h
 conv=>whnf
 refine Br.od h (fun p1 h=> ?_) (fun p1 h=> ?_)
 ·conv=>whnf
  cases h;exact ⟨(by rfl),(by rfl)⟩
 conv=>whnf
 refine CallQ.io Ae (rP true (Aj false)) (by rfl) rfl (fun _=>rfl) (fun _=>⟨rfl,rfl⟩) rfl h (fun r h=>Ti h) (fun r2 u3 h=> ?_)
 conv=>whnf
 refine Br.od h (fun p4 h=> ?_) (fun p4 h=> ?_)
 ·conv=>whnf
  refine Ask.o h fun p5 h=> ?_
  conv=>whnf
  refine CallQ.io Ae (rP true (Aj false)) (by rfl) rfl (fun _=>rfl) (fun _=>⟨rfl,rfl⟩) rfl h (fun r h=>Ti h) (fun r6 u7 h=> ?_)
  conv=>whnf
  refine Ask.o h fun p8 h=> ?_
  conv=>whnf
  refine Ask.o h fun p9 h=> ?_
  conv=>whnf
  cases h;exact ⟨(by rfl),(by rfl)⟩
 conv=>whnf
 refine Ask.o h fun p10 h=> ?_
 conv=>whnf
 cases h;exact ⟨(by rfl),(by rfl)⟩
end Go.Proofs.Ytmmcfdfdacpjgaa.Ax
