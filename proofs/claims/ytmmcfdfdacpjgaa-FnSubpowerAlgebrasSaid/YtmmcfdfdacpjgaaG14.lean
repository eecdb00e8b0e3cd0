/-
 What the functions compute, as functions on plain data, and that the program does compute it; written by program.
-/
import Derived.Test.YtmmcfdfdacpjgaaCode
import Derived.Test.YtmmcfdfdacpjgaaG1
import Derived.Test.YtmmcfdfdacpjgaaG5
import Derived.Test.YtmmcfdfdacpjgaaG7
import Derived.Test.YtmmcfdfdacpjgaaG12
import Derived.Test.YtmmcfdfdacpjgaaG13
namespace Go.Proofs.Ytmmcfdfdacpjgaa.Ax
open Go
set_option maxRecDepth 100000
set_option maxHeartbeats 4000000
noncomputable def Cr (_a0:SAlgebra) (_k0:Int) (tuples0:List (List Int)) (x8:Int):(Int×(List Bool))→Option ((Int×(List Bool)) ⊕ (List Bool)):=fun (x27,x9)=>
 if x27<(↑tuples0.length:Int) then
 ask ((0:Int)≤x27∧x27<(↑tuples0.length:Int)) <|
 ask ((0:Int)≤x8∧x8<(↑(nth tuples0 x27.toNat).length:Int)) <|
 ask ((0:Int)≤nth (nth tuples0 x27.toNat) x8.toNat∧nth (nth tuples0 x27.toNat) x8.toNat<(↑x9.length:Int)) <|
 ask (InI (x27+(1:Int))) <|
 some (.inl (x27+(1:Int),x9.set (nth (nth tuples0 x27.toNat) x8.toNat).toNat true))
 else
 some (.inr x9)
def Jg (a0:SAlgebra) (k0:Int) (tuples0:List (List Int)) (x8:Int):(Int×(List Bool))→St:=fun s=>[(27,A.val (Ae s.1)),(26,A.val (Ae ((↑tuples0.length:Int)))),(25,A.val (slr false 1 (slr false 1 Ae) tuples0)),(9,A.val (slr true 1 V.bool s.2)),(8,A.val (Ae x8)),(3,A.val (rP true (Af false) a0)),(1,A.val (Ae k0)),(2,A.val (slr false 1 (slr false 1 Ae) tuples0))]
def Np (a0:SAlgebra) (k0:Int) (tuples0:List (List Int)) (x8:Int):(List Bool)→Tgt
 | s=>((Ex.exit 2),[9,8,3,1,2],[(9,A.val (slr true 1 V.bool s)),(8,A.val (Ae x8)),(3,A.val (rP true (Af false) a0)),(1,A.val (Ae k0)),(2,A.val (slr false 1 (slr false 1 Ae) tuples0))])
theorem Xx {a0} {k0} {tuples0} {x8} (s) o (h:Cr a0 k0 tuples0 x8 s=some o):vc Try.prog Nq (Co [27,26,25,9,8,3,1,2] (Jg a0 k0 tuples0 x8) (Np a0 k0 tuples0 x8) o) (Jg a0 k0 tuples0 x8 s):=by
 obtain ⟨x27,x9⟩:=s
 unfold Cr at h
 try dsimp only at h
 conv=>whnf
 refine Br.od h (fun p5 h=> ?_) (fun p5 h=> ?_)
 ·conv=>whnf
  refine Len.map ?_
  conv=>whnf
  refine Ask.o h fun p6 h=> ?_
  conv=>whnf
  refine Elem.o (by first | omega | (simp [At] at * <;> omega)) ?_
  conv=>whnf
  refine Len.map ?_
  conv=>whnf
  refine Ask.o h fun p7 h=> ?_
  conv=>whnf
  refine Elem.o (by first | omega | (simp [At] at * <;> omega)) ?_
  conv=>whnf
  refine Len.map ?_
  conv=>whnf
  refine Ask.o h fun p8 h=> ?_
  conv=>whnf
  refine SetKids.one (fun _=>⟨rfl,rfl⟩) (true) (by rfl) (by first | omega | (simp [At] at * <;> omega)) ?_
  conv=>whnf
  refine Ask.o h fun p9 h=> ?_
  conv=>whnf
  cases h;exact ⟨rfl,rfl⟩
 conv=>whnf
 cases h;exact ⟨rfl,rfl⟩
noncomputable def Ca (a0:SAlgebra) (k0:Int) (tuples0:List (List Int)):Int→Option (Int ⊕ (Unit ⊕ Unit)):=fun x8=>
 if x8<k0 then
 ask ((0:Int)≤a0.Size∧a0.Size≤(↑LIM:Int)) <|
 (Am (Cr a0 k0 tuples0 x8) ((0:Int),List.replicate a0.Size.toNat false)).bind fun q10_9=>
 (K7 (q10_9)).bind fun r11=>
 if (↑r11.length:Int)<a0.Size then
 some (.inr (.inl ()))
 else
 ask (InI (x8+(1:Int))) <|
 some (.inl (x8+(1:Int)))
 else
 some (.inr (.inr ()))
def Ja (a0:SAlgebra) (k0:Int) (tuples0:List (List Int)):Int→St:=fun s=>[(8,A.val (Ae s)),(3,A.val (rP true (Af false) a0)),(1,A.val (Ae k0)),(2,A.val (slr false 1 (slr false 1 Ae) tuples0))]
def Ng (_a0:SAlgebra) (_k0:Int) (_tuples0:List (List Int)):(Unit ⊕ Unit)→Tgt
 | (.inl _s)=>(Ex.ret,[7,6],[(7,A.val (V.bool true)),(6,A.val (V.bool false))])
 | (.inr _s)=>((Ex.exit 0),[],[])
theorem X3 {a0} {k0} {tuples0} (x8) o (h:Ca a0 k0 tuples0 x8=some o):vc Try.prog Nt (Co [8,3,1,2] (Ja a0 k0 tuples0) (Ng a0 k0 tuples0) o) (Ja a0 k0 tuples0 x8):=by
 unfold Ca at h
 try dsimp only at h
 conv=>whnf
 refine Br.od h (fun p3 h=> ?_) (fun p3 h=> ?_)
 ·conv=>whnf
  refine Cells.lit rfl rfl ?_
  conv=>whnf
  refine Ask.o h fun p4 h=> ?_
  conv=>whnf
  refine MkQ.o V.bool (false) rfl ?_
  conv=>whnf
  refine Len.map ?_
  conv=>whnf
  refine LoopQ.o [27,26,25,9,8,3,1,2] (Jg a0 k0 tuples0 x8) (Np a0 k0 tuples0 x8) h (fun s o h=>Xx s o h) (by rfl) (fun _=>rfl) ?_
  rintro q10_9 h
  try dsimp only at h
  conv=>whnf
  refine CallP.rd (slr true 1 Ae) (by first | rfl | simp only [V.fz,Ab,slr] | simp [Aa,V.fz,fzL,V.up,upL,Ab,Ac,Ad,slr]) (fun _=>by simp [V.noFz,Ch]) h (fun r h=>Amv h) (fun r11 h=> ?_)
  conv=>whnf
  refine Len.map ?_
  conv=>whnf
  refine Cells.lit rfl rfl ?_
  conv=>whnf
  refine Br.od h (fun p12 h=> ?_) (fun p12 h=> ?_)
  ·conv=>whnf
   cases h;exact ⟨rfl,rfl⟩
  conv=>whnf
  refine Ask.o h fun p13 h=> ?_
  conv=>whnf
  cases h;exact ⟨rfl,rfl⟩
 conv=>whnf
 cases h;exact ⟨rfl,rfl⟩
noncomputable def Gr (a0:SAlgebra) (k0:Int) (tuples0:(List (List Int))):Option (Bool×Bool):=
 (Ew (a0) (k0) (tuples0)).bind fun r1=>
 if (r1)=true then
 (Am (Ca a0 k0 tuples0) (0:Int)).bind fun t=>match t with
 | (.inl _)=>(some (false,true))
 | (.inr _)=>(some (true,true))
 else
 some (false,false)
theorem Abd {a0} {k0} {tuples0} {v} (h:Gr a0 k0 tuples0=some v):Ret Try.prog Ls [(Af false) a0,Ae k0,(slr false 1 (slr false 1 Ae)) tuples0] ((fun r=>V.tup [V.bool r.1,V.bool r.2]) v):=by
 refine Ba Aa9 (Nat.le_of_ble_eq_true rfl) ?_
 unfold Gr at h
 conv=>whnf
 refine Cells.lit rfl rfl ?_
 conv=>whnf
 refine CallQ.o V.bool (by rfl) h (fun r h=>R3 h) (fun r1 h=> ?_)
 conv=>whnf
 refine Br.flip ?_
 conv=>whnf
 refine Br.ob h (fun p2 h=> ?_) (fun p2 h=> ?_)
 ·conv=>whnf
  refine LoopQ.o [8,3,1,2] (Ja a0 k0 tuples0) (Ng a0 k0 tuples0) h (fun s o h=>X3 s o h) (by rfl) (by rintro (_ | _)<;>rfl) ?_
  rintro (⟨⟩ | ⟨⟩) h
  ·try dsimp only at h
   conv=>whnf
   cases h;exact (by rfl)
  try dsimp only at h
  conv=>whnf
  cases h;exact (by rfl)
 conv=>whnf
 cases h;exact (by rfl)
noncomputable def Ct (_a0:SAlgebra) (_k0:Int) (tuples0:List (List Int)) (x8:Int):(Int×(List Int))→Option ((Int×(List Int)) ⊕ (List Int)):=fun (x10,x9)=>
 if x10<(↑tuples0.length:Int) then
 ask ((0:Int)≤x10∧x10<(↑tuples0.length:Int)) <|
 ask ((0:Int)≤x8∧x8<(↑(nth tuples0 x10.toNat).length:Int)) <|
 (Mr (x9) (nth (nth tuples0 x10.toNat) x8.toNat)).bind fun r7=>
 ask (InI (x10+(1:Int))) <|
 some (.inl (x10+(1:Int),r7))
 else
 some (.inr x9)
def Jf (a0:SAlgebra) (k0:Int) (tuples0:List (List Int)) (x8:Int):(Int×(List Int))→St:=fun s=>[(10,A.val (Ae s.1)),(9,A.val (slr false 1 Ae s.2)),(8,A.val (Ae x8)),(3,A.val (rP true (Af false) a0)),(1,A.val (Ae k0)),(2,A.val (slr false 1 (slr false 1 Ae) tuples0))]
def Nm (a0:SAlgebra) (k0:Int) (tuples0:List (List Int)) (x8:Int):(List Int)→Tgt
 | s=>((Ex.exit 2),[9,8,3,1,2],[(9,A.val (slr false 1 Ae s)),(8,A.val (Ae x8)),(3,A.val (rP true (Af false) a0)),(1,A.val (Ae k0)),(2,A.val (slr false 1 (slr false 1 Ae) tuples0))])
theorem X4 {a0} {k0} {tuples0} {x8} (s) o (h:Ct a0 k0 tuples0 x8 s=some o):vc Try.prog Ns (Co [10,9,8,3,1,2] (Jf a0 k0 tuples0 x8) (Nm a0 k0 tuples0 x8) o) (Jf a0 k0 tuples0 x8 s):=by
 obtain ⟨x10,x9⟩:=s
 unfold Ct at h
 try dsimp only at h
 conv=>whnf
 refine Len.map ?_
 conv=>whnf
 refine Br.od h (fun p4 h=> ?_) (fun p4 h=> ?_)
 ·conv=>whnf
  refine Len.map ?_
  conv=>whnf
  refine Ask.o h fun p5 h=> ?_
  conv=>whnf
  refine Elem.o (by first | omega | (simp [At] at * <;> omega)) ?_
  conv=>whnf
  refine Len.map ?_
  conv=>whnf
  refine Ask.o h fun p6 h=> ?_
  conv=>whnf
  refine Elem.o (by first | omega | (simp [At] at * <;> omega)) ?_
  conv=>whnf
  refine CallQ.o (slr false 1 Ae) (by rfl) h (fun r h=>Ap7 h) (fun r7 h=> ?_)
  conv=>whnf
  refine Ask.o h fun p8 h=> ?_
  conv=>whnf
  cases h;exact ⟨rfl,rfl⟩
 conv=>whnf
 cases h;exact ⟨rfl,rfl⟩
noncomputable def Cb (a0:SAlgebra) (k0:Int) (tuples0:List (List Int)):Int→Option (Int ⊕ (Unit ⊕ Unit)):=fun x8=>
 if x8<k0 then
 (Am (Ct a0 k0 tuples0 x8) ((0:Int),Ar Int)).bind fun q9_9=>
 if (↑q9_9.length:Int)≠a0.Size then
 some (.inr (.inl ()))
 else
 ask (InI (x8+(1:Int))) <|
 some (.inl (x8+(1:Int)))
 else
 some (.inr (.inr ()))
def Jk (a0:SAlgebra) (k0:Int) (tuples0:List (List Int)):Int→St:=fun s=>[(8,A.val (Ae s)),(3,A.val (rP true (Af false) a0)),(1,A.val (Ae k0)),(2,A.val (slr false 1 (slr false 1 Ae) tuples0))]
def Nw (_a0:SAlgebra) (_k0:Int) (_tuples0:List (List Int)):(Unit ⊕ Unit)→Tgt
 | (.inl _s)=>(Ex.ret,[7,6],[(7,A.val (V.bool true)),(6,A.val (V.bool false))])
 | (.inr _s)=>((Ex.exit 0),[],[])
theorem X2 {a0} {k0} {tuples0} (x8) o (h:Cb a0 k0 tuples0 x8=some o):vc Try.prog N6 (Co [8,3,1,2] (Jk a0 k0 tuples0) (Nw a0 k0 tuples0) o) (Jk a0 k0 tuples0 x8):=by
 unfold Cb at h
 try dsimp only at h
 conv=>whnf
 refine Br.od h (fun p3 h=> ?_) (fun p3 h=> ?_)
 ·conv=>whnf
  refine BslQ.o Ae (Ar Int) (by exact fun _=>⟨rfl,rfl⟩) (by rfl) ?_
  conv=>whnf
  refine FrzQ.d (V.sl false (1:Nat) (List.map Ae (Ar Int))) (by first | (simp only [Al,Ac];done) | exact (Al _).trans (Eq.trans (b:=V.fz (V.sl true (1:Nat) (List.map Ae (Ar Int)))) rfl (Ac _ _ _)) | (simp [Al,V.fz,Ab,Ac,slr];done) | (simp [Al,V.fz,fzL,Ab,slr];done)) ?_
  conv=>whnf
  refine LoopQ.o [10,9,8,3,1,2] (Jf a0 k0 tuples0 x8) (Nm a0 k0 tuples0 x8) h (fun s o h=>X4 s o h) (by rfl) (fun _=>rfl) ?_
  rintro q9_9 h
  try dsimp only at h
  conv=>whnf
  refine Len.map ?_
  conv=>whnf
  refine Cells.lit rfl rfl ?_
  conv=>whnf
  refine Br.on h (fun p10 h=> ?_) (fun p10 h=> ?_)
  ·conv=>whnf
   cases h;exact ⟨rfl,rfl⟩
  conv=>whnf
  refine Ask.o h fun p11 h=> ?_
  conv=>whnf
  cases h;exact ⟨rfl,rfl⟩
 conv=>whnf
 cases h;exact ⟨rfl,rfl⟩
noncomputable def Gl (a0:SAlgebra) (k0:Int) (tuples0:(List (List Int))):Option (Bool×Bool):=
 (Hu (a0) (k0) (tuples0)).bind fun r1=>
 if (r1)=true then
 (Am (Cb a0 k0 tuples0) (0:Int)).bind fun t=>match t with
 | (.inl _)=>(some (false,true))
 | (.inr _)=>(some (true,true))
 else
 some (false,false)
theorem Acd {a0} {k0} {tuples0} {v} (h:Gl a0 k0 tuples0=some v):Ret Try.prog Lo [(Af false) a0,Ae k0,(slr false 1 (slr false 1 Ae)) tuples0] ((fun r=>V.tup [V.bool r.1,V.bool r.2]) v):=by
 refine Ba Abq (Nat.le_of_ble_eq_true rfl) ?_
 unfold Gl at h
 conv=>whnf
 refine Cells.lit rfl rfl ?_
 conv=>whnf
 refine CallQ.o V.bool (by rfl) h (fun r h=>Yr h) (fun r1 h=> ?_)
 conv=>whnf
 refine Br.flip ?_
 conv=>whnf
 refine Br.ob h (fun p2 h=> ?_) (fun p2 h=> ?_)
 ·conv=>whnf
  refine LoopQ.o [8,3,1,2] (Jk a0 k0 tuples0) (Nw a0 k0 tuples0) h (fun s o h=>X2 s o h) (by rfl) (by rintro (_ | _)<;>rfl) ?_
  rintro (⟨⟩ | ⟨⟩) h
  ·try dsimp only at h
   conv=>whnf
   cases h;exact (by rfl)
  try dsimp only at h
  conv=>whnf
  cases h;exact (by rfl)
 conv=>whnf
 cases h;exact (by rfl)
noncomputable def Mh (a0:SAlgebra) (b0:SAlgebra) (f0:(List Int)):Option (Bool×Bool):=
 (Iw (a0) (b0)).bind fun r1=>
 if (r1)=true then
 (M6 (a0) (b0) (f0)).bind fun r3=>
 some (r3,true)
 else
 some (false,false)
theorem Apt {a0} {b0} {f0} {v} (h:Mh a0 b0 f0=some v):Ret Try.prog Wk [(Af false) a0,(Af false) b0,(slr false 1 Ae) f0] ((fun r=>V.tup [V.bool r.1,V.bool r.2]) v):=by
 refine Ba An7 (Nat.le_of_ble_eq_true rfl) ?_
 unfold Mh at h
 conv=>whnf
 refine Cells.lit rfl rfl ?_
 conv=>whnf
 refine Cells.lit rfl rfl ?_
 conv=>whnf
 refine CallQ.o V.bool (by rfl) h (fun r h=>Aia h) (fun r1 h=> ?_)
 conv=>whnf
 refine Br.flip ?_
 conv=>whnf
 refine Br.ob h (fun p2 h=> ?_) (fun p2 h=> ?_)
 ·conv=>whnf
  refine Cells.lit rfl rfl ?_
  conv=>whnf
  refine Cells.lit rfl rfl ?_
  conv=>whnf
  refine CallQ.o V.bool (by rfl) h (fun r h=>An5 h) (fun r3 h=> ?_)
  conv=>whnf
  cases h;exact (by rfl)
 conv=>whnf
 cases h;exact (by rfl)
noncomputable def Gu (code0:(List Int)):Option (SAlgebra×Int×(List (List Int))):=
 (Dy ({ code:=code0,at_:=(0:Int),seed:=(0:Int) })).bind fun (r1,u2)=>
 (D7 (u2) (r1)).bind fun (r3,_u4)=>
 some (r1,r3)
theorem X6 {code0} {v} (h:Gu code0=some v):Ret Try.prog Jh [(slr false 1 (V.int IntKind.u8)) code0] ((fun r=>V.tup [(Af false) r.1,Ae r.2.1,(slr false 1 (slr false 1 Ae)) r.2.2]) v):=by
 refine Ba Xz (Nat.le_of_ble_eq_true rfl) ?_
 unfold Gu at h
 conv=>whnf
 refine CallQ.io (Af false) (rP true (Aj false)) (by rfl) rfl (fun _=>rfl) (fun _=>⟨rfl,rfl⟩) rfl h (fun r h=>Se.frz (Pm h) (by first | rfl | simp only [V.fz,fzL,Ab] | simp [Aa,V.fz,fzL,V.up,upL,Ab,Ac,Ad,slr])) (fun r1 u2 h=> ?_)
 conv=>whnf
 refine SetKids.lit rfl ?_
 conv=>whnf
 refine Cells.lit rfl rfl ?_
 conv=>whnf
 refine CallQ.io (fun r=>V.tup [Ae r.1,(slr false 1 (slr false 1 Ae)) r.2]) (rP true (Aj false)) (by rfl) rfl (fun _=>rfl) (fun _=>⟨rfl,rfl⟩) rfl h (fun r h=>W1 h) (fun r3 u4 h=> ?_)
 conv=>whnf
 refine Cells.lit rfl rfl ?_
 conv=>whnf
 refine SetKids.lit rfl ?_
 conv=>whnf
 cases h;exact (by rfl)
noncomputable def Cn (code0:(List Int)):Option (SAlgebra×Int×(List (List Int))):=
 (Gu (code0)).bind fun r1=>
 some r1
theorem Qb {code0} {v} (h:Cn code0=some v):Ret Try.prog Fs [(slr false 1 (V.int IntKind.u8)) code0] ((fun r=>V.tup [(Af false) r.1,Ae r.2.1,(slr false 1 (slr false 1 Ae)) r.2.2]) v):=by
 refine Ba Pz (Nat.le_of_ble_eq_true rfl) ?_
 unfold Cn at h
 conv=>whnf
 refine CallQ.o (fun r=>V.tup [(Af false) r.1,Ae r.2.1,(slr false 1 (slr false 1 Ae)) r.2.2]) (by rfl) h (fun r h=>X6 h) (fun r1 h=> ?_)
 conv=>whnf
 refine SetKids.lit rfl ?_
 conv=>whnf
 cases h;exact (by rfl)
end Go.Proofs.Ytmmcfdfdacpjgaa.Ax
