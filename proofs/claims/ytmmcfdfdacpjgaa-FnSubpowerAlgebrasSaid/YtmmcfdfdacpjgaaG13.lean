/-
 What the functions compute, as functions on plain data, and that the program does compute it; written by program.
-/
import Derived.Test.YtmmcfdfdacpjgaaCode
import Derived.Test.YtmmcfdfdacpjgaaG1
import Derived.Test.YtmmcfdfdacpjgaaG2
import Derived.Test.YtmmcfdfdacpjgaaG4
import Derived.Test.YtmmcfdfdacpjgaaG5
import Derived.Test.YtmmcfdfdacpjgaaG9
import Derived.Test.YtmmcfdfdacpjgaaG12
namespace Go.Proofs.Ytmmcfdfdacpjgaa.Ax
open Go
set_option maxRecDepth 100000
set_option maxHeartbeats 4000000
noncomputable def D7 (c0:Sl1Cur) (a0:SAlgebra):Option ((Int×(List (List Int)))×Sl1Cur):=
 (Gq (c0) (a0) ((3:Int))).bind fun (r1,u2)=>
 (((((I5 (a0) (r1.fst) (r1.snd)).bind fun r3=>
 if (r3)=true then
 (Bz (u2) ((12:Int))).bind fun (r5,u6)=>
 some (!r5,u6)
 else
 some (false,u2):Option (Bool×Sl1Cur))).bind fun (q7_24,q7_52)=>
 if (q7_24)=true then
 (Hw (a0) (r1.fst) (r1.snd)).bind fun r9=>
 some (r9.fst,q7_52)
 else
 some (r1.snd,q7_52):Option ((List (List Int))×Sl1Cur))).bind fun (q10_8,q10_52)=>
 (A7 (q10_52) ((32:Int))).bind fun (r11,u12)=>
 if r11=(0:Int) then
 if (↑q10_8.length:Int)>(0:Int) then
 ask (0≤(1:Int)∧(1:Int)≤(↑q10_8.length:Int)∧(↑q10_8.length:Int)≤((q10_8.length:Nat):Int)) <|
 some ((r1.fst,List.take ((↑q10_8.length:Int).toNat-Int.toNat (1:Int)) (List.drop (Int.toNat (1:Int)) q10_8)),u12)
 else
 some ((r1.fst,q10_8),u12)
 else
 if r11=(1:Int) then
 (E1 (r1.fst) ((64:Int))).bind fun r16=>
 (I2 ((0:Int)) (r16)).bind fun r17=>
 ask ((0:Int)≤r17∧r17≤(↑LIM:Int)) <|
 ask ((q10_8).length+([List.replicate r17.toNat (0:Int)]).length≤LIM) <|
 some ((r1.fst,q10_8++[List.replicate r17.toNat (0:Int)]),u12)
 else
 some ((r1.fst,q10_8),u12)
theorem W1 {c0} {a0} {v} (h:D7 c0 a0=some v):Se Try.prog Il [(rP true (Aj false)) c0,(Af false) a0] ((fun r=>V.tup [Ae r.1,(slr false 1 (slr false 1 Ae)) r.2]) v.1) 0 (rP true (Aj false) v.2):=by
 refine Ans Wm (Nat.le_of_ble_eq_true rfl) ?_
 unfold D7 at h
 conv=>whnf
 refine Cells.lit rfl rfl ?_
 conv=>whnf
 refine CallQ.io (fun r=>V.tup [Ae r.1,(slr true 1 (slr true 1 Ae)) r.2]) (rP true (Aj false)) (by rfl) rfl (fun _=>rfl) (fun _=>⟨rfl,rfl⟩) rfl h (fun r h=>Aa4 h) (fun r1 u2 h=> ?_)
 conv=>whnf
 refine FrzQ.d (V.sl true (1:Nat) (List.map (slr false (1:Nat) Ae) r1.snd)) (by first | (simp only [V.fzAt,Ln,Ab,slr];done) | exact Eq.trans (b:=V.sl true (1:Nat) (List.map (slr false (1:Nat) Ae) r1.snd)) rfl (by simp only [Ac])) ?_
 conv=>whnf
 refine CutQ.o (fun t:((List (List Int))×Sl1Cur)=>match t with | s=>(Ex.normal,[8,6,0,52],[(8,A.val ((slr true 1 (slr false 1 Ae)) s.1)),(6,A.val (Ae (r1.fst))),(0,A.ref 52 []),(52,A.val ((rP true (Aj false)) s.2))])) h ?_ ?_
 ·intro t h
  conv=>whnf
  refine CutQ.o (fun t:(Bool×Sl1Cur)=>match t with | s=>(Ex.normal,[24,8,7,6,3,0,52],[(24,A.val (V.bool s.1)),(8,A.val ((slr true 1 (slr false 1 Ae)) (r1.snd))),(7,A.ref 8 []),(6,A.val (Ae (r1.fst))),(3,A.val ((rP true (Af false)) (a0))),(0,A.ref 52 []),(52,A.val ((rP true (Aj false)) s.2))])) h ?_ ?_
  ·intro t h
   conv=>whnf
   refine Cells.lit rfl rfl ?_
   conv=>whnf
   refine CallQ.rd V.bool (by first | rfl | simp only [V.fz,fzL,V.up,Ab,Ad,slr] | simp [Aa,V.fz,fzL,V.up,upL,Ab,Ac,Ad,slr]) (fun _=>rfl) h (fun r h=>Amb h) (fun r3 h=> ?_)
   conv=>whnf
   refine Br.ob h (fun p4 h=> ?_) (fun p4 h=> ?_)
   ·conv=>whnf
    refine Br.yes ?_
    conv=>whnf
    refine CallQ.io V.bool (rP true (Aj false)) (by rfl) rfl (fun _=>rfl) (fun _=>⟨rfl,rfl⟩) rfl h (fun r h=>Et h) (fun r5 u6 h=> ?_)
    conv=>whnf
    refine Br.yes ?_
    conv=>whnf
    refine Br.yes ?_
    conv=>whnf
    cases h;exact ⟨rfl,rfl⟩
   conv=>whnf
   refine Br.no ?_
   conv=>whnf
   refine Br.no ?_
   conv=>whnf
   refine Br.no ?_
   conv=>whnf
   cases h;exact ⟨rfl,rfl⟩
  rintro ⟨q7_24,q7_52⟩ h
  try dsimp only at h
  conv=>whnf
  refine Br.ob h (fun p8 h=> ?_) (fun p8 h=> ?_)
  ·conv=>whnf
   refine FrzQ.d (V.sl false (1:Nat) (List.map (slr false (1:Nat) Ae) r1.snd)) (by first | (simp only [Al,Ac,slr];done) | exact (Al _).trans (Eq.trans (b:=V.fz (V.sl true (1:Nat) (List.map (slr false (1:Nat) Ae) r1.snd))) rfl (Ac _ _ _)) | (simp [Al,V.fz,Ab,Ac,slr];done) | (simp [Al,V.fz,fzL,Ab,slr];done)) ?_
   conv=>whnf
   refine Cells.lit rfl rfl ?_
   conv=>whnf
   refine CallQ.o (fun r=>V.tup [(slr true 1 (slr false 1 Ae)) r.1,V.bool r.2]) (by rfl) h (fun r h=>Ai8 h) (fun r9 h=> ?_)
   conv=>whnf
   cases h;exact ⟨rfl,rfl⟩
  conv=>whnf
  cases h;exact ⟨rfl,rfl⟩
 rintro ⟨q10_8,q10_52⟩ h
 try dsimp only at h
 conv=>whnf
 refine CallQ.io Ae (rP true (Aj false)) (by rfl) rfl (fun _=>rfl) (fun _=>⟨rfl,rfl⟩) rfl h (fun r h=>Bf h) (fun r11 u12 h=> ?_)
 conv=>whnf
 refine Br.oe h (fun p13 h=> ?_) (fun p13 h=> ?_)
 ·conv=>whnf
  refine Len.map ?_
  conv=>whnf
  refine Br.od h (fun p14 h=> ?_) (fun p14 h=> ?_)
  ·conv=>whnf
   refine FrzQ.d (V.sl false (1:Nat) (List.map (slr false (1:Nat) Ae) q10_8)) (by first | (simp only [slr];done) | exact (Al _).trans (Eq.trans (b:=V.fz (V.sl true (1:Nat) (List.map (slr false (1:Nat) Ae) q10_8))) rfl (Ac _ _ _)) | (simp [Al,V.fz,Ab,Ac,slr];done) | (simp [Al,V.fz,fzL,Ab,slr];done)) ?_
   conv=>whnf
   refine Len.map ?_
   conv=>whnf
   refine SlcQ.o (slr false 1 Ae) h fun h=> ?_
   conv=>whnf
   cases h;exact ⟨(by rfl),(by rfl)⟩
  conv=>whnf
  cases h;exact ⟨(by first | rfl | simp only [Ah,V.fz,fzL,V.up,Ab,slr] | simp [Ah,Aa,V.fz,fzL,V.up,upL,Ab,Ac,Ad,slr]),(by rfl)⟩
 conv=>whnf
 refine Br.oe h (fun p15 h=> ?_) (fun p15 h=> ?_)
 ·conv=>whnf
  refine CallQ.o Ae (by rfl) h (fun r h=>Yx h) (fun r16 h=> ?_)
  conv=>whnf
  refine CallQ.o Ae (by rfl) h (fun r h=>Aar h) (fun r17 h=> ?_)
  conv=>whnf
  refine Ask.o h fun p18 h=> ?_
  conv=>whnf
  refine MkQ.o Ae ((0:Int)) rfl ?_
  conv=>whnf
  refine FrzQ.d (V.sl false (1:Nat) (List.map Ae (List.replicate r17.toNat (0:Int)))) (by first | (simp only [Al,Ac];done) | exact (Al _).trans (Eq.trans (b:=V.fz (V.sl true (1:Nat) (List.map Ae (List.replicate r17.toNat (0:Int))))) rfl (Ac _ _ _)) | (simp [Al,V.fz,Ab,Ac,slr];done) | (simp [Al,V.fz,fzL,Ab,slr];done)) ?_
  conv=>whnf
  refine BslQ.o (slr false 1 Ae) ([List.replicate r17.toNat (0:Int)]) (by exact fun _=>⟨rfl,rfl⟩) (by rfl) ?_
  conv=>whnf
  refine NoOwn.o (fun _=>rfl) ?_
  conv=>whnf
  refine AppQ.o (m:=1) (slr false 1 Ae) (by exact fun _=>⟨rfl,rfl⟩) (q10_8) ([List.replicate r17.toNat (0:Int)]) (by rfl) (by rfl) h fun h=> ?_
  conv=>whnf
  cases h;exact ⟨(by first | rfl | simp only [Ah,V.fz,fzL,V.up,Ab,slr] | simp [Ah,Aa,V.fz,fzL,V.up,upL,Ab,Ac,Ad,slr]),(by rfl)⟩
 conv=>whnf
 cases h;exact ⟨(by first | rfl | simp only [Ah,V.fz,fzL,V.up,Ab,slr] | simp [Ah,Aa,V.fz,fzL,V.up,upL,Ab,Ac,Ad,slr]),(by rfl)⟩
noncomputable def B8 (_a0:SAlgebra) (_k0:Int) (tuples0:List (List Int)):(Int×(List (ByteArray×Int)))→Option ((Int×(List (ByteArray×Int))) ⊕ (List (ByteArray×Int))):=fun (x38,x8)=>
 if x38<(↑tuples0.length:Int) then
 ask ((0:Int)≤x38∧x38<(↑tuples0.length:Int)) <|
 (Hi (nth tuples0 x38.toNat)).bind fun r8=>
 ask (InI (x38+(1:Int))) <|
 some (.inl (x38+(1:Int),L9 x8 r8 x38))
 else
 some (.inr x8)
def F2 (a0:SAlgebra) (k0:Int) (tuples0:List (List Int)):(Int×(List (ByteArray×Int)))→St:=fun s=>[(38,A.val (Ae s.1)),(37,A.val (Ae ((↑tuples0.length:Int)))),(36,A.val (slr false 1 (slr false 1 Ae) tuples0)),(8,A.val (rMp true (Lf.int IntKind.i64) s.2)),(6,A.val ((rP true (Af true)) ({ Size:=(0:Int),Ops:=Ar SOp }))),(3,A.val (rP true (Af false) a0)),(1,A.val (Ae k0)),(2,A.val (slr false 1 (slr false 1 Ae) tuples0))]
def Ju (a0:SAlgebra) (k0:Int) (tuples0:List (List Int)):(List (ByteArray×Int))→Tgt
 | s=>((Ex.exit 0),[8,6,3,1,2],[(8,A.val (rMp true (Lf.int IntKind.i64) s)),(6,A.val ((rP true (Af true)) ({ Size:=(0:Int),Ops:=Ar SOp }))),(3,A.val (rP true (Af false) a0)),(1,A.val (Ae k0)),(2,A.val (slr false 1 (slr false 1 Ae) tuples0))])
theorem Q4 {a0} {k0} {tuples0} (s) o (h:B8 a0 k0 tuples0 s=some o):vc Try.prog Jm (Co [38,37,36,8,6,3,1,2] (F2 a0 k0 tuples0) (Ju a0 k0 tuples0) o) (F2 a0 k0 tuples0 s):=by
 obtain ⟨x38,x8⟩:=s
 unfold B8 at h
 try dsimp only at h
 conv=>whnf
 refine Br.od h (fun p6 h=> ?_) (fun p6 h=> ?_)
 ·conv=>whnf
  refine Len.map ?_
  conv=>whnf
  refine Ask.o h fun p7 h=> ?_
  conv=>whnf
  refine Elem.o (by first | omega | (simp [At] at * <;> omega)) ?_
  conv=>whnf
  refine CallQ.o V.str (by rfl) h (fun r h=>Rg h) (fun r8 h=> ?_)
  conv=>whnf
  refine MsQ.o (Lf.int IntKind.i64) x8 x38 (by rfl) rfl ?_
  conv=>whnf
  refine Ask.o h fun p9 h=> ?_
  conv=>whnf
  cases h;exact ⟨rfl,rfl⟩
 conv=>whnf
 cases h;exact ⟨rfl,rfl⟩
noncomputable def Bx (_a0:SAlgebra) (_k0:Int) (tuples0:List (List Int)) (_q10_8:List (ByteArray×Int)) (_x54:Int) (_x11:SAlgebra) (_x15:Int) (_x14:SOp) (r15:List Int):(Int×(List (List Int)))→Option ((Int×(List (List Int))) ⊕ (List (List Int))):=fun (x78,x16)=>
 if x78<(↑r15.length:Int) then
 ask ((0:Int)≤x78∧x78<(↑r15.length:Int)) <|
 ask ((0:Int)≤nth r15 x78.toNat∧nth r15 x78.toNat<(↑tuples0.length:Int)) <|
 ask ((x16).length+([nth tuples0 (nth r15 x78.toNat).toNat]).length≤LIM) <|
 ask (InI (x78+(1:Int))) <|
 some (.inl (x78+(1:Int),x16++[nth tuples0 (nth r15 x78.toNat).toNat]))
 else
 some (.inr x16)
def F4 (a0:SAlgebra) (k0:Int) (tuples0:List (List Int)) (q10_8:List (ByteArray×Int)) (x54:Int) (x11:SAlgebra) (x15:Int) (x14:SOp) (r15:List Int):(Int×(List (List Int)))→St:=fun s=>[(78,A.val (Ae s.1)),(77,A.val (Ae ((↑r15.length:Int)))),(76,A.val (slr true 1 Ae r15)),(16,A.val (slr true 1 (slr false 1 Ae) s.2)),(15,A.val (Ae x15)),(14,A.val (rP true (Aw true) x14)),(13,A.val ((rP true (Aw false)) (nth a0.Ops x54.toNat))),(54,A.val (Ae x54)),(53,A.val (Ae ((↑a0.Ops.length:Int)))),(52,A.val (slr false 2 (Aw false) a0.Ops)),(11,A.val (rP true (Af true) x11)),(8,A.val (rMp true (Lf.int IntKind.i64) q10_8)),(6,A.val ((rP true (Af true)) ({ Size:=(0:Int),Ops:=Ar SOp }))),(3,A.val (rP true (Af false) a0)),(1,A.val (Ae k0)),(2,A.val (slr false 1 (slr false 1 Ae) tuples0))]
def Jo (a0:SAlgebra) (k0:Int) (tuples0:List (List Int)) (q10_8:List (ByteArray×Int)) (x54:Int) (x11:SAlgebra) (x15:Int) (x14:SOp) (_r15:List Int):(List (List Int))→Tgt
 | s=>((Ex.exit 6),[16,15,14,13,54,53,52,11,8,6,3,1,2],[(16,A.val (slr true 1 (slr false 1 Ae) s)),(15,A.val (Ae x15)),(14,A.val (rP true (Aw true) x14)),(13,A.val ((rP true (Aw false)) (nth a0.Ops x54.toNat))),(54,A.val (Ae x54)),(53,A.val (Ae ((↑a0.Ops.length:Int)))),(52,A.val (slr false 2 (Aw false) a0.Ops)),(11,A.val (rP true (Af true) x11)),(8,A.val (rMp true (Lf.int IntKind.i64) q10_8)),(6,A.val ((rP true (Af true)) ({ Size:=(0:Int),Ops:=Ar SOp }))),(3,A.val (rP true (Af false) a0)),(1,A.val (Ae k0)),(2,A.val (slr false 1 (slr false 1 Ae) tuples0))])
theorem Rd {a0} {k0} {tuples0} {q10_8} {x54} {x11} {x15} {x14} {r15} (s) o (h:Bx a0 k0 tuples0 q10_8 x54 x11 x15 x14 r15 s=some o):vc Try.prog Jt (Co [78,77,76,16,15,14,13,54,53,52,11,8,6,3,1,2] (F4 a0 k0 tuples0 q10_8 x54 x11 x15 x14 r15) (Jo a0 k0 tuples0 q10_8 x54 x11 x15 x14 r15) o) (F4 a0 k0 tuples0 q10_8 x54 x11 x15 x14 r15 s):=by
 obtain ⟨x78,x16⟩:=s
 unfold Bx at h
 try dsimp only at h
 conv=>whnf
 refine Br.od h (fun p16 h=> ?_) (fun p16 h=> ?_)
 ·conv=>whnf
  refine Len.map ?_
  conv=>whnf
  refine Ask.o h fun p17 h=> ?_
  conv=>whnf
  refine Cells.one (fun _=>⟨rfl,rfl⟩) (by first | omega | (simp [At] at * <;> omega)) ?_
  conv=>whnf
  refine Len.map ?_
  conv=>whnf
  refine Ask.o h fun p18 h=> ?_
  conv=>whnf
  refine Elem.o (by first | omega | (simp [At] at * <;> omega)) ?_
  conv=>whnf
  refine BslQ.o (slr false 1 Ae) ([nth tuples0 (nth r15 x78.toNat).toNat]) (by exact fun _=>⟨rfl,rfl⟩) (by rfl) ?_
  conv=>whnf
  refine NoOwn.o (fun _=>rfl) ?_
  conv=>whnf
  refine AppQ.o (m:=1) (slr false 1 Ae) (by exact fun _=>⟨rfl,rfl⟩) (x16) ([nth tuples0 (nth r15 x78.toNat).toNat]) (by rfl) (by rfl) h fun h=> ?_
  conv=>whnf
  refine Ask.o h fun p19 h=> ?_
  conv=>whnf
  cases h;exact ⟨rfl,rfl⟩
 conv=>whnf
 cases h;exact ⟨rfl,rfl⟩
noncomputable def Bw (a0:SAlgebra) (k0:Int) (tuples0:List (List Int)) (q10_8:List (ByteArray×Int)) (x54:Int) (x11:SAlgebra):(Int×SOp)→Option ((Int×SOp) ⊕ SOp):=fun (x15,x14)=>
 (G7 (x11.Size) ((nth a0.Ops x54.toNat).Arity)).bind fun r13=>
 if x15<r13 then
 (K8 (x15) ((nth a0.Ops x54.toNat).Arity) (x11.Size)).bind fun r15=>
 (Am (Bx a0 k0 tuples0 q10_8 x54 x11 x15 x14 r15) ((0:Int),Ar (List Int))).bind fun q20_16=>
 (Cx (a0) (nth a0.Ops x54.toNat) (k0) (q20_16)).bind fun r21=>
 (Hi (r21)).bind fun r22=>
 ask ((x14.Table).length+([(Dz q10_8 r22).getD (0:Int)]).length≤LIM) <|
 ask (InI (x15+(1:Int))) <|
 some (.inl (x15+(1:Int),{ Arity:=x14.Arity,Table:=x14.Table++[(Dz q10_8 r22).getD (0:Int)] }))
 else
 some (.inr x14)
def Fy (a0:SAlgebra) (k0:Int) (tuples0:List (List Int)) (q10_8:List (ByteArray×Int)) (x54:Int) (x11:SAlgebra):(Int×SOp)→St:=fun s=>[(15,A.val (Ae s.1)),(14,A.val (rP true (Aw true) s.2)),(13,A.val ((rP true (Aw false)) (nth a0.Ops x54.toNat))),(54,A.val (Ae x54)),(53,A.val (Ae ((↑a0.Ops.length:Int)))),(52,A.val (slr false 2 (Aw false) a0.Ops)),(11,A.val (rP true (Af true) x11)),(8,A.val (rMp true (Lf.int IntKind.i64) q10_8)),(6,A.val ((rP true (Af true)) ({ Size:=(0:Int),Ops:=Ar SOp }))),(3,A.val (rP true (Af false) a0)),(1,A.val (Ae k0)),(2,A.val (slr false 1 (slr false 1 Ae) tuples0))]
def Jn (a0:SAlgebra) (k0:Int) (tuples0:List (List Int)) (q10_8:List (ByteArray×Int)) (x54:Int) (x11:SAlgebra):SOp→Tgt
 | s=>((Ex.exit 4),[14,54,53,52,11,8,6,3,1,2],[(14,A.val (rP true (Aw true) s)),(54,A.val (Ae x54)),(53,A.val (Ae ((↑a0.Ops.length:Int)))),(52,A.val (slr false 2 (Aw false) a0.Ops)),(11,A.val (rP true (Af true) x11)),(8,A.val (rMp true (Lf.int IntKind.i64) q10_8)),(6,A.val ((rP true (Af true)) ({ Size:=(0:Int),Ops:=Ar SOp }))),(3,A.val (rP true (Af false) a0)),(1,A.val (Ae k0)),(2,A.val (slr false 1 (slr false 1 Ae) tuples0))])
theorem Q5 {a0} {k0} {tuples0} {q10_8} {x54} {x11} (s) o (h:Bw a0 k0 tuples0 q10_8 x54 x11 s=some o):vc Try.prog Jw (Co [15,14,13,54,53,52,11,8,6,3,1,2] (Fy a0 k0 tuples0 q10_8 x54 x11) (Jn a0 k0 tuples0 q10_8 x54 x11) o) (Fy a0 k0 tuples0 q10_8 x54 x11 s):=by
 obtain ⟨x15,x14⟩:=s
 unfold Bw at h
 try dsimp only at h
 conv=>whnf
 refine Cells.lit rfl rfl ?_
 conv=>whnf
 refine Cells.lit rfl rfl ?_
 conv=>whnf
 refine CallQ.o Ae (by rfl) h (fun r h=>Aeo h) (fun r13 h=> ?_)
 conv=>whnf
 refine Br.od h (fun p14 h=> ?_) (fun p14 h=> ?_)
 ·conv=>whnf
  refine BslQ.o (slr true 1 Ae) (Ar (List Int)) (by exact fun _=>⟨rfl,rfl⟩) (by rfl) ?_
  conv=>whnf
  refine Cells.lit rfl rfl ?_
  conv=>whnf
  refine Cells.lit rfl rfl ?_
  conv=>whnf
  refine CallQ.o (slr true 1 Ae) (by rfl) h (fun r h=>Amc h) (fun r15 h=> ?_)
  conv=>whnf
  refine Len.map ?_
  conv=>whnf
  refine LoopQ.o [78,77,76,16,15,14,13,54,53,52,11,8,6,3,1,2] (F4 a0 k0 tuples0 q10_8 x54 x11 x15 x14 r15) (Jo a0 k0 tuples0 q10_8 x54 x11 x15 x14 r15) h (fun s o h=>Rd s o h) (by rfl) (fun _=>rfl) ?_
  rintro q20_16 h
  try dsimp only at h
  conv=>whnf
  refine Cells.lit rfl rfl ?_
  conv=>whnf
  refine Cells.lit rfl rfl ?_
  conv=>whnf
  refine Cells.lit rfl rfl ?_
  conv=>whnf
  refine CallP.rd (slr true 1 Ae) (by first | rfl | simp only [V.fz,fzL,V.up,Ab,Ad,slr] | simp [Aa,V.fz,fzL,V.up,upL,Ab,Ac,Ad,slr]) (fun _=>by simp [V.noFz,Ch]) h (fun r h=>Ll h) (fun r21 h=> ?_)
  conv=>whnf
  refine CallP.rd V.str (by first | rfl | simp only [V.fz,Ab,slr] | simp [Aa,V.fz,fzL,V.up,upL,Ab,Ac,Ad,slr]) (fun _=>rfl) h (fun r h=>Rg h) (fun r22 h=> ?_)
  conv=>whnf
  refine LkQ.one (Lf.int IntKind.i64) Ae q10_8 ((0:Int)) (by rfl) rfl (fun _=>rfl) ?_
  conv=>whnf
  refine BslQ.o Ae ([(Dz q10_8 r22).getD (0:Int)]) (by exact fun _=>⟨rfl,rfl⟩) (by rfl) ?_
  conv=>whnf
  refine NoOwn.o (fun _=>rfl) ?_
  conv=>whnf
  refine Kid.lit rfl rfl ?_
  conv=>whnf
  refine Kid.lit rfl rfl ?_
  conv=>whnf
  refine SetKids.lit rfl ?_
  conv=>whnf
  refine AppQ.o (m:=1) Ae (by exact fun _=>⟨rfl,rfl⟩) (x14.Table) ([(Dz q10_8 r22).getD (0:Int)]) (by rfl) (by rfl) h fun h=> ?_
  conv=>whnf
  refine SetKids.lit rfl ?_
  conv=>whnf
  refine Ask.o h fun p23 h=> ?_
  conv=>whnf
  cases h;exact ⟨rfl,rfl⟩
 conv=>whnf
 cases h;exact ⟨rfl,rfl⟩
noncomputable def Bn (a0:SAlgebra) (k0:Int) (tuples0:List (List Int)) (q10_8:List (ByteArray×Int)):(Int×SAlgebra)→Option ((Int×SAlgebra) ⊕ SAlgebra):=fun (x54,x11)=>
 if x54<(↑a0.Ops.length:Int) then
 ask ((0:Int)≤x54∧x54<(↑a0.Ops.length:Int)) <|
 (Am (Bw a0 k0 tuples0 q10_8 x54 x11) ((0:Int),{ Arity:=(nth a0.Ops x54.toNat).Arity,Table:=Ar Int })).bind fun q24_14=>
 ask ((x11.Ops).length+([q24_14]).length≤LIM) <|
 ask (InI (x54+(1:Int))) <|
 some (.inl (x54+(1:Int),{ Size:=x11.Size,Ops:=x11.Ops++[q24_14] }))
 else
 some (.inr x11)
def F0 (a0:SAlgebra) (k0:Int) (tuples0:List (List Int)) (q10_8:List (ByteArray×Int)):(Int×SAlgebra)→St:=fun s=>[(54,A.val (Ae s.1)),(53,A.val (Ae ((↑a0.Ops.length:Int)))),(52,A.val (slr false 2 (Aw false) a0.Ops)),(11,A.val (rP true (Af true) s.2)),(8,A.val (rMp true (Lf.int IntKind.i64) q10_8)),(6,A.val ((rP true (Af true)) ({ Size:=(0:Int),Ops:=Ar SOp }))),(3,A.val (rP true (Af false) a0)),(1,A.val (Ae k0)),(2,A.val (slr false 1 (slr false 1 Ae) tuples0))]
def Jp (_a0:SAlgebra) (_k0:Int) (_tuples0:List (List Int)) (_q10_8:List (ByteArray×Int)):SAlgebra→Tgt
 | s=>((Ex.exit 2),[11,6],[(11,A.val (rP true (Af true) s)),(6,A.val ((rP true (Af true)) ({ Size:=(0:Int),Ops:=Ar SOp })))])
theorem Q8 {a0} {k0} {tuples0} {q10_8} (s) o (h:Bn a0 k0 tuples0 q10_8 s=some o):vc Try.prog Jv (Co [54,53,52,11,8,6,3,1,2] (F0 a0 k0 tuples0 q10_8) (Jp a0 k0 tuples0 q10_8) o) (F0 a0 k0 tuples0 q10_8 s):=by
 obtain ⟨x54,x11⟩:=s
 unfold Bn at h
 try dsimp only at h
 conv=>whnf
 refine Br.od h (fun p11 h=> ?_) (fun p11 h=> ?_)
 ·conv=>whnf
  refine Len.map ?_
  conv=>whnf
  refine Ask.o h fun p12 h=> ?_
  conv=>whnf
  refine Elem.o (by first | omega | (simp [At] at * <;> omega)) ?_
  conv=>whnf
  refine SetKids.lit rfl ?_
  conv=>whnf
  refine Cells.lit rfl rfl ?_
  conv=>whnf
  refine SetKids.lit rfl ?_
  conv=>whnf
  refine LoopQ.o [15,14,13,54,53,52,11,8,6,3,1,2] (Fy a0 k0 tuples0 q10_8 x54 x11) (Jn a0 k0 tuples0 q10_8 x54 x11) h (fun s o h=>Q5 s o h) (by rfl) (fun _=>rfl) ?_
  rintro q24_14 h
  try dsimp only at h
  conv=>whnf
  refine Cells.lit rfl rfl ?_
  conv=>whnf
  refine Cells.lit rfl rfl ?_
  conv=>whnf
  refine BslQ.o (Aw true) [q24_14] (by exact fun _=>⟨rfl,rfl⟩) (by rfl) ?_
  conv=>whnf
  refine NoOwn.own rfl ?_
  conv=>whnf
  refine Kid.lit rfl rfl ?_
  conv=>whnf
  refine Kid.lit rfl rfl ?_
  conv=>whnf
  refine SetKids.lit rfl ?_
  conv=>whnf
  refine AppQ.o (m:=2) (Aw true) (by exact fun _=>⟨rfl,rfl⟩) (x11.Ops) ([q24_14]) (by rfl) (by rfl) h fun h=> ?_
  conv=>whnf
  refine SetKids.lit rfl ?_
  conv=>whnf
  refine Ask.o h fun p25 h=> ?_
  conv=>whnf
  cases h;exact ⟨rfl,rfl⟩
 conv=>whnf
 cases h;exact ⟨rfl,rfl⟩
noncomputable def Dh (a0:SAlgebra) (k0:Int) (tuples0:(List (List Int))):Option (SAlgebra×Bool):=
 (((Ew (a0) (k0) (tuples0)).bind fun r1=>
 if (r1)=true then
 if (↑tuples0.length:Int)=(0:Int) then
 some (.inl ())
 else
 if (↑tuples0.length:Int)>(8:Int) then
 some (.inl ())
 else
 some (.inr ())
 else
 some (.inl ()):Option (Unit ⊕ Unit))).bind fun t=>match t with
 | (.inl _)=>(some ({ Size:=(0:Int),Ops:=Ar SOp },false))
 | (.inr _)=>((Am (B8 a0 k0 tuples0) ((0:Int),Ar (ByteArray×Int))).bind fun q10_8=>
 (Am (Bn a0 k0 tuples0 q10_8) ((0:Int),{ Size:=(↑tuples0.length:Int),Ops:=Ar SOp })).bind fun q26_11=>
 some (q26_11,true))
theorem Un {a0} {k0} {tuples0} {v} (h:Dh a0 k0 tuples0=some v):Ret Try.prog Hm [(Af false) a0,Ae k0,(slr false 1 (slr false 1 Ae)) tuples0] ((fun r=>V.tup [(Af true) r.1,V.bool r.2]) v):=by
 refine Ba T9 (Nat.le_of_ble_eq_true rfl) ?_
 unfold Dh at h
 conv=>whnf
 refine CutQ.o (fun t:(Unit ⊕ Unit)=>match t with | (.inl s)=>(Ex.ret,[7,6],[(7,A.val (V.bool (false))),(6,A.val ((rP true (Af true)) ({ Size:=(0:Int),Ops:=Ar SOp })))]) | (.inr s)=>(Ex.normal,[6,3,1,2],[(6,A.val ((rP true (Af true)) ({ Size:=(0:Int),Ops:=Ar SOp }))),(3,A.val ((rP true (Af false)) (a0))),(1,A.val (Ae (k0))),(2,A.val ((slr false 1 (slr false 1 Ae)) (tuples0)))])) h ?_ ?_
 ·intro t h
  conv=>whnf
  refine Cells.lit rfl rfl ?_
  conv=>whnf
  refine CallQ.o V.bool (by rfl) h (fun r h=>R3 h) (fun r1 h=> ?_)
  conv=>whnf
  refine Br.flip ?_
  conv=>whnf
  refine Br.ob h (fun p2 h=> ?_) (fun p2 h=> ?_)
  ·conv=>whnf
   refine Br.no ?_
   conv=>whnf
   refine Len.map ?_
   conv=>whnf
   refine Br.no ?_
   conv=>whnf
   refine Br.no ?_
   conv=>whnf
   refine Br.oe h (fun p3 h=> ?_) (fun p3 h=> ?_)
   ·conv=>whnf
    refine Br.yes ?_
    conv=>whnf
    refine Br.yes ?_
    conv=>whnf
    refine Br.yes ?_
    conv=>whnf
    refine Br.yes ?_
    conv=>whnf
    refine SetKids.lit rfl ?_
    conv=>whnf
    cases h;exact ⟨rfl,rfl⟩
   conv=>whnf
   refine Br.no ?_
   conv=>whnf
   refine Len.map ?_
   conv=>whnf
   refine Br.no ?_
   conv=>whnf
   refine Br.no ?_
   conv=>whnf
   refine Br.od h (fun p4 h=> ?_) (fun p4 h=> ?_)
   ·conv=>whnf
    refine SetKids.lit rfl ?_
    conv=>whnf
    cases h;exact ⟨rfl,rfl⟩
   conv=>whnf
   cases h;exact ⟨rfl,rfl⟩
  conv=>whnf
  refine Br.yes ?_
  conv=>whnf
  refine Br.yes ?_
  conv=>whnf
  refine Br.yes ?_
  conv=>whnf
  refine Br.yes ?_
  conv=>whnf
  refine Br.yes ?_
  conv=>whnf
  refine Br.yes ?_
  conv=>whnf
  refine Br.yes ?_
  conv=>whnf
  refine Br.yes ?_
  conv=>whnf
  refine SetKids.lit rfl ?_
  conv=>whnf
  cases h;exact ⟨rfl,rfl⟩
 rintro (⟨⟩ | ⟨⟩) h
 ·try dsimp only at h
  conv=>whnf
  cases h;exact (by rfl)
 try dsimp only at h
 conv=>whnf
 refine Len.map ?_
 conv=>whnf
 refine LoopQ.o [38,37,36,8,6,3,1,2] (F2 a0 k0 tuples0) (Ju a0 k0 tuples0) h (fun s o h=>Q4 s o h) (by rfl) (fun _=>rfl) ?_
 rintro q10_8 h
 try dsimp only at h
 conv=>whnf
 refine Len.map ?_
 conv=>whnf
 refine SetKids.lit rfl ?_
 conv=>whnf
 refine Cells.lit rfl rfl ?_
 conv=>whnf
 refine Len.map ?_
 conv=>whnf
 refine LoopQ.o [54,53,52,11,8,6,3,1,2] (F0 a0 k0 tuples0 q10_8) (Jp a0 k0 tuples0 q10_8) h (fun s o h=>Q8 s o h) (by rfl) (fun _=>rfl) ?_
 rintro q26_11 h
 try dsimp only at h
 conv=>whnf
 refine Cells.lit rfl rfl ?_
 conv=>whnf
 refine SetKids.lit rfl ?_
 conv=>whnf
 cases h;exact (by rfl)
noncomputable def Dk (a0:SAlgebra) (k0:Int) (tuples0:(List (List Int))):Option (SAlgebra×Bool):=
 (Hu (a0) (k0) (tuples0)).bind fun r1=>
 if (r1)=true then
 (Ec ((↑tuples0.length:Int)) ((1:Int)) ((8:Int))).bind fun r3=>
 if (r3)=true then
 (H9 (a0) (k0) (tuples0)).bind fun r5=>
 some (r5,true)
 else
 some ({ Size:=(0:Int),Ops:=Ar SOp },false)
 else
 some ({ Size:=(0:Int),Ops:=Ar SOp },false)
theorem Uh {a0} {k0} {tuples0} {v} (h:Dk a0 k0 tuples0=some v):Ret Try.prog Ho [(Af false) a0,Ae k0,(slr false 1 (slr false 1 Ae)) tuples0] ((fun r=>V.tup [(Af true) r.1,V.bool r.2]) v):=by
 refine Ba Uq (Nat.le_of_ble_eq_true rfl) ?_
 unfold Dk at h
 conv=>whnf
 refine Cells.lit rfl rfl ?_
 conv=>whnf
 refine CallQ.o V.bool (by rfl) h (fun r h=>Yr h) (fun r1 h=> ?_)
 conv=>whnf
 refine Br.flip ?_
 conv=>whnf
 refine Br.ob h (fun p2 h=> ?_) (fun p2 h=> ?_)
 ·conv=>whnf
  refine Br.no ?_
  conv=>whnf
  refine Len.map ?_
  conv=>whnf
  refine Br.no ?_
  conv=>whnf
  refine CallQ.o V.bool (by rfl) h (fun r h=>Ib h) (fun r3 h=> ?_)
  conv=>whnf
  refine Br.no ?_
  conv=>whnf
  refine Br.no ?_
  conv=>whnf
  refine Br.flip ?_
  conv=>whnf
  refine Br.ob h (fun p4 h=> ?_) (fun p4 h=> ?_)
  ·conv=>whnf
   refine Cells.lit rfl rfl ?_
   conv=>whnf
   refine CallQ.o (Af true) (by rfl) h (fun r h=>Af4 h) (fun r5 h=> ?_)
   conv=>whnf
   refine SetKids.lit rfl ?_
   conv=>whnf
   cases h;exact (by rfl)
  conv=>whnf
  refine SetKids.lit rfl ?_
  conv=>whnf
  cases h;exact (by rfl)
 conv=>whnf
 refine Br.yes ?_
 conv=>whnf
 refine Br.yes ?_
 conv=>whnf
 refine Br.yes ?_
 conv=>whnf
 refine Br.yes ?_
 conv=>whnf
 refine Br.yes ?_
 conv=>whnf
 refine SetKids.lit rfl ?_
 conv=>whnf
 cases h;exact (by rfl)
end Go.Proofs.Ytmmcfdfdacpjgaa.Ax
