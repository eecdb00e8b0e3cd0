/-
 What the functions compute, as functions on plain data, and that the program does compute it; written by program.
-/
import Derived.Test.YtmmcfdfdacpjgaaCode
import Derived.Test.YtmmcfdfdacpjgaaG1
import Derived.Test.YtmmcfdfdacpjgaaG3
import Derived.Test.YtmmcfdfdacpjgaaG10
import Derived.Test.YtmmcfdfdacpjgaaG11
import Derived.Test.YtmmcfdfdacpjgaaG13
import Derived.Test.YtmmcfdfdacpjgaaG14
namespace Go.Proofs.Ytmmcfdfdacpjgaa.Ax
open Go
set_option maxRecDepth 100000
set_option maxHeartbeats 4000000
noncomputable def B6 (_code0:List Int) (r3:SAlgebra×Int×List (List Int)) (_r4:SAlgebra×Bool) (_r10:Bool×Bool) (x15:Int) (_x14:Bool):(Int×(List Int)×(List Int))→Option ((Int×(List Int)×(List Int)) ⊕ ((List Int)×(List Int))):=fun (x18,x17,x16)=>
 if x18<(↑r3.snd.snd.length:Int) then
 ask ((0:Int)≤x18∧x18<(↑r3.snd.snd.length:Int)) <|
 ask ((0:Int)≤x15∧x15<(↑(nth r3.snd.snd x18.toNat).length:Int)) <|
 ask ((x16).length+([nth (nth r3.snd.snd x18.toNat) x15.toNat]).length≤LIM) <|
 ask ((0:Int)≤x18∧x18<(↑r3.snd.snd.length:Int)) <|
 ask ((0:Int)≤x15∧x15<(↑(nth r3.snd.snd x18.toNat).length:Int)) <|
 (Ps (x17) (nth (nth r3.snd.snd x18.toNat) x15.toNat)).bind fun r24=>
 if (r24)=true then
 ask (InI (x18+(1:Int))) <|
 some (.inl (x18+(1:Int),x17,x16++[nth (nth r3.snd.snd x18.toNat) x15.toNat]))
 else
 ask ((0:Int)≤x18∧x18<(↑r3.snd.snd.length:Int)) <|
 ask ((0:Int)≤x15∧x15<(↑(nth r3.snd.snd x18.toNat).length:Int)) <|
 ask ((x17).length+([nth (nth r3.snd.snd x18.toNat) x15.toNat]).length≤LIM) <|
 ask (InI (x18+(1:Int))) <|
 some (.inl (x18+(1:Int),x17++[nth (nth r3.snd.snd x18.toNat) x15.toNat],x16++[nth (nth r3.snd.snd x18.toNat) x15.toNat]))
 else
 some (.inr (x17,x16))
def Fq (code0:List Int) (r3:SAlgebra×Int×List (List Int)) (r4:SAlgebra×Bool) (r10:Bool×Bool) (x15:Int) (x14:Bool):(Int×(List Int)×(List Int))→St:=fun s=>[(18,A.val (Ae s.1)),(17,A.val (slr true 1 Ae s.2.1)),(16,A.val (slr true 1 Ae s.2.2)),(15,A.val (Ae x15)),(14,A.val (V.bool x14)),(10,A.val (V.bool r10.fst)),(6,A.val (rP true (Af true) r4.fst)),(5,A.val (slr false 1 (slr false 1 Ae) r3.snd.snd)),(4,A.val (Ae r3.snd.fst)),(3,A.val (rP true (Af false) r3.fst)),(0,A.val (slr false 1 (V.int IntKind.u8) code0))]
def Ip (code0:List Int) (r3:SAlgebra×Int×List (List Int)) (r4:SAlgebra×Bool) (r10:Bool×Bool) (x15:Int) (x14:Bool):((List Int)×(List Int))→Tgt
 | s=>((Ex.exit 2),[17,16,15,14,10,6,5,4,3,0],[(17,A.val (slr true 1 Ae s.1)),(16,A.val (slr true 1 Ae s.2)),(15,A.val (Ae x15)),(14,A.val (V.bool x14)),(10,A.val (V.bool r10.fst)),(6,A.val (rP true (Af true) r4.fst)),(5,A.val (slr false 1 (slr false 1 Ae) r3.snd.snd)),(4,A.val (Ae r3.snd.fst)),(3,A.val (rP true (Af false) r3.fst)),(0,A.val (slr false 1 (V.int IntKind.u8) code0))])
theorem Qj {code0} {r3} {r4} {r10} {x15} {x14} (s) o (h:B6 code0 r3 r4 r10 x15 x14 s=some o):vc Try.prog Ir (Co [18,17,16,15,14,10,6,5,4,3,0] (Fq code0 r3 r4 r10 x15 x14) (Ip code0 r3 r4 r10 x15 x14) o) (Fq code0 r3 r4 r10 x15 x14 s):=by
 obtain ⟨x18,x17,x16⟩:=s
 unfold B6 at h
 try dsimp only at h
 conv=>whnf
 refine Len.map ?_
 conv=>whnf
 refine Br.od h (fun p19 h=> ?_) (fun p19 h=> ?_)
 ·conv=>whnf
  refine Len.map ?_
  conv=>whnf
  refine Ask.o h fun p20 h=> ?_
  conv=>whnf
  refine Elem.o (by first | omega | (simp [At] at * <;> omega)) ?_
  conv=>whnf
  refine Len.map ?_
  conv=>whnf
  refine Ask.o h fun p21 h=> ?_
  conv=>whnf
  refine Elem.o (by first | omega | (simp [At] at * <;> omega)) ?_
  conv=>whnf
  refine BslQ.o Ae ([nth (nth r3.snd.snd x18.toNat) x15.toNat]) (by exact fun _=>⟨rfl,rfl⟩) (by rfl) ?_
  conv=>whnf
  refine NoOwn.o (fun _=>rfl) ?_
  conv=>whnf
  refine AppQ.o (m:=1) Ae (by exact fun _=>⟨rfl,rfl⟩) (x16) ([nth (nth r3.snd.snd x18.toNat) x15.toNat]) (by rfl) (by rfl) h fun h=> ?_
  conv=>whnf
  refine Len.map ?_
  conv=>whnf
  refine Ask.o h fun p22 h=> ?_
  conv=>whnf
  refine Elem.o (by first | omega | (simp [At] at * <;> omega)) ?_
  conv=>whnf
  refine Len.map ?_
  conv=>whnf
  refine Ask.o h fun p23 h=> ?_
  conv=>whnf
  refine Elem.o (by first | omega | (simp [At] at * <;> omega)) ?_
  conv=>whnf
  refine CallQ.rd V.bool (by first | rfl | simp only [V.fz,Ab,slr] | simp [Aa,V.fz,fzL,V.up,upL,Ab,Ac,Ad,slr]) (fun _=>rfl) h (fun r h=>Asv h) (fun r24 h=> ?_)
  conv=>whnf
  refine Br.flip ?_
  conv=>whnf
  refine Br.ob h (fun p25 h=> ?_) (fun p25 h=> ?_)
  ·conv=>whnf
   refine Ask.o h fun p26 h=> ?_
   conv=>whnf
   cases h;exact ⟨rfl,rfl⟩
  conv=>whnf
  refine Len.map ?_
  conv=>whnf
  refine Ask.o h fun p27 h=> ?_
  conv=>whnf
  refine Elem.o (by first | omega | (simp [At] at * <;> omega)) ?_
  conv=>whnf
  refine Len.map ?_
  conv=>whnf
  refine Ask.o h fun p28 h=> ?_
  conv=>whnf
  refine Elem.o (by first | omega | (simp [At] at * <;> omega)) ?_
  conv=>whnf
  refine BslQ.o Ae ([nth (nth r3.snd.snd x18.toNat) x15.toNat]) (by exact fun _=>⟨rfl,rfl⟩) (by rfl) ?_
  conv=>whnf
  refine NoOwn.o (fun _=>rfl) ?_
  conv=>whnf
  refine AppQ.o (m:=1) Ae (by exact fun _=>⟨rfl,rfl⟩) (x17) ([nth (nth r3.snd.snd x18.toNat) x15.toNat]) (by rfl) (by rfl) h fun h=> ?_
  conv=>whnf
  refine Ask.o h fun p29 h=> ?_
  conv=>whnf
  cases h;exact ⟨rfl,rfl⟩
 conv=>whnf
 cases h;exact ⟨rfl,rfl⟩
noncomputable def Bu (code0:List Int) (r3:SAlgebra×Int×List (List Int)) (r4:SAlgebra×Bool) (r10:Bool×Bool):(Int×Bool)→Option ((Int×Bool) ⊕ (Unit ⊕ Bool)):=fun (x15,x14)=>
 if x15<r3.snd.fst then
 (Am (B6 code0 r3 r4 r10 x15 x14) ((0:Int),Ar Int,Ar Int)).bind fun (q30_17,q30_16)=>
 (((Mh (r4.fst) (r3.fst) (q30_16)).bind fun r31=>
 if (r31.snd)=true then
 if (r31.fst)=true then
 some (.inl ())
 else
 some (.inr ())
 else
 some (.inr ()):Option (Unit ⊕ Unit))).bind fun t=>match t with
 | (.inl _)=>(if (x14)=true then
 ask (InI (x15+(1:Int))) <|
 some (.inl (x15+(1:Int),(↑q30_17.length:Int)==r3.fst.Size))
 else
 ask (InI (x15+(1:Int))) <|
 some (.inl (x15+(1:Int),false)))
 | (.inr _)=>(some (.inr (.inl ())))
 else
 some (.inr (.inr x14))
def Fg (code0:List Int) (r3:SAlgebra×Int×List (List Int)) (r4:SAlgebra×Bool) (r10:Bool×Bool):(Int×Bool)→St:=fun s=>[(15,A.val (Ae s.1)),(14,A.val (V.bool s.2)),(10,A.val (V.bool r10.fst)),(6,A.val (rP true (Af true) r4.fst)),(5,A.val (slr false 1 (slr false 1 Ae) r3.snd.snd)),(4,A.val (Ae r3.snd.fst)),(3,A.val (rP true (Af false) r3.fst)),(0,A.val (slr false 1 (V.int IntKind.u8) code0))]
def Ix (code0:List Int) (_r3:SAlgebra×Int×List (List Int)) (_r4:SAlgebra×Bool) (r10:Bool×Bool):(Unit ⊕ Bool)→Tgt
 | (.inl _s)=>(Ex.ret,[2],[(2,A.val (V.bool false))])
 | (.inr s)=>((Ex.exit 0),[14,10,0],[(14,A.val (V.bool s)),(10,A.val (V.bool r10.fst)),(0,A.val (slr false 1 (V.int IntKind.u8) code0))])
theorem Qi {code0} {r3} {r4} {r10} (s) o (h:Bu code0 r3 r4 r10 s=some o):vc Try.prog Iv (Co [15,14,10,6,5,4,3,0] (Fg code0 r3 r4 r10) (Ix code0 r3 r4 r10) o) (Fg code0 r3 r4 r10 s):=by
 obtain ⟨x15,x14⟩:=s
 unfold Bu at h
 try dsimp only at h
 conv=>whnf
 refine Br.od h (fun p18 h=> ?_) (fun p18 h=> ?_)
 ·conv=>whnf
  refine BslQ.o Ae (Ar Int) (by exact fun _=>⟨rfl,rfl⟩) (by rfl) ?_
  conv=>whnf
  refine BslQ.o Ae (Ar Int) (by exact fun _=>⟨rfl,rfl⟩) (by rfl) ?_
  conv=>whnf
  refine LoopQ.o [18,17,16,15,14,10,6,5,4,3,0] (Fq code0 r3 r4 r10 x15 x14) (Ip code0 r3 r4 r10 x15 x14) h (fun s o h=>Qj s o h) (by rfl) (fun _=>rfl) ?_
  rintro ⟨q30_17,q30_16⟩ h
  try dsimp only at h
  conv=>whnf
  refine CutQ.o (fun t:(Unit ⊕ Unit)=>match t with | (.inl s)=>(Ex.normal,[17,15,14,10,6,5,4,3,0],[(17,A.val ((slr true 1 Ae) (q30_17))),(15,A.val (Ae (x15))),(14,A.val (V.bool (x14))),(10,A.val (V.bool (r10.fst))),(6,A.val ((rP true (Af true)) (r4.fst))),(5,A.val ((slr false 1 (slr false 1 Ae)) (r3.snd.snd))),(4,A.val (Ae (r3.snd.fst))),(3,A.val ((rP true (Af false)) (r3.fst))),(0,A.val ((slr false 1 (V.int IntKind.u8)) (code0)))]) | (.inr s)=>(Ex.ret,[2],[(2,A.val (V.bool (false)))])) h ?_ ?_
  ·intro t h
   conv=>whnf
   refine Cells.lit rfl rfl ?_
   conv=>whnf
   refine Cells.lit rfl rfl ?_
   conv=>whnf
   refine CallQ.rd (fun r=>V.tup [V.bool r.1,V.bool r.2]) (by first | rfl | simp only [V.fz,fzL,Ab,slr] | simp [Aa,V.fz,fzL,V.up,upL,Ab,Ac,Ad,slr]) (fun _=>by simp [V.noFz,Ce]) h (fun r h=>Apt h) (fun r31 h=> ?_)
   conv=>whnf
   refine Br.flip ?_
   conv=>whnf
   refine Br.ob h (fun p32 h=> ?_) (fun p32 h=> ?_)
   ·conv=>whnf
    refine Br.no ?_
    conv=>whnf
    refine Br.no ?_
    conv=>whnf
    refine Br.flip ?_
    conv=>whnf
    refine Br.ob h (fun p33 h=> ?_) (fun p33 h=> ?_)
    ·conv=>whnf
     cases h;exact ⟨rfl,rfl⟩
    conv=>whnf
    cases h;exact ⟨rfl,rfl⟩
   conv=>whnf
   refine Br.yes ?_
   conv=>whnf
   refine Br.yes ?_
   conv=>whnf
   refine Br.yes ?_
   conv=>whnf
   cases h;exact ⟨rfl,rfl⟩
  rintro (⟨⟩ | ⟨⟩) h
  ·try dsimp only at h
   conv=>whnf
   refine Br.ob h (fun p35 h=> ?_) (fun p35 h=> ?_)
   ·conv=>whnf
    refine Br.yes ?_
    conv=>whnf
    refine Len.map ?_
    conv=>whnf
    refine Br.yes ?_
    conv=>whnf
    refine Br.yes ?_
    conv=>whnf
    refine Cells.lit rfl rfl ?_
    conv=>whnf
    refine Br.yes ?_
    conv=>whnf
    refine Br.yes ?_
    conv=>whnf
    refine Ask.o h fun p36 h=> ?_
    conv=>whnf
    cases h;exact ⟨rfl,rfl⟩
   conv=>whnf
   refine Br.no ?_
   conv=>whnf
   refine Br.no ?_
   conv=>whnf
   refine Br.no ?_
   conv=>whnf
   refine Br.no ?_
   conv=>whnf
   refine Br.no ?_
   conv=>whnf
   refine Ask.o h fun p37 h=> ?_
   conv=>whnf
   cases h;exact ⟨rfl,rfl⟩
  try dsimp only at h
  conv=>whnf
  cases h;exact ⟨rfl,rfl⟩
 conv=>whnf
 cases h;exact ⟨rfl,rfl⟩
noncomputable def Bs (r41:SAlgebra×Int×List (List Int)) (_r42:List Int×Bool) (x28:Int):(Int×(List Int))→Option ((Int×(List Int)) ⊕ (List Int)):=fun (x30,x29)=>
 if x30<(↑r41.snd.snd.length:Int) then
 ask ((0:Int)≤x30∧x30<(↑r41.snd.snd.length:Int)) <|
 ask ((0:Int)≤x28∧x28<(↑(nth r41.snd.snd x30.toNat).length:Int)) <|
 ask ((x29).length+([nth (nth r41.snd.snd x30.toNat) x28.toNat]).length≤LIM) <|
 ask (InI (x30+(1:Int))) <|
 some (.inl (x30+(1:Int),x29++[nth (nth r41.snd.snd x30.toNat) x28.toNat]))
 else
 some (.inr x29)
def Ft (r41:SAlgebra×Int×List (List Int)) (r42:List Int×Bool) (x28:Int):(Int×(List Int))→St:=fun s=>[(30,A.val (Ae s.1)),(29,A.val (slr true 1 Ae s.2)),(28,A.val (Ae x28)),(24,A.val (slr true 1 Ae r42.fst)),(23,A.val (slr false 1 (slr false 1 Ae) r41.snd.snd)),(22,A.val (Ae r41.snd.fst)),(21,A.val (rP true (Af false) r41.fst))]
def Iu (r41:SAlgebra×Int×List (List Int)) (r42:List Int×Bool) (x28:Int):(List Int)→Tgt
 | s=>((Ex.exit 6),[29,28,24,23,22,21],[(29,A.val (slr true 1 Ae s)),(28,A.val (Ae x28)),(24,A.val (slr true 1 Ae r42.fst)),(23,A.val (slr false 1 (slr false 1 Ae) r41.snd.snd)),(22,A.val (Ae r41.snd.fst)),(21,A.val (rP true (Af false) r41.fst))])
theorem P4 {r41} {r42} {x28} (s) o (h:Bs r41 r42 x28 s=some o):vc Try.prog I0 (Co [30,29,28,24,23,22,21] (Ft r41 r42 x28) (Iu r41 r42 x28) o) (Ft r41 r42 x28 s):=by
 obtain ⟨x30,x29⟩:=s
 unfold Bs at h
 try dsimp only at h
 conv=>whnf
 refine Len.map ?_
 conv=>whnf
 refine Br.od h (fun p50 h=> ?_) (fun p50 h=> ?_)
 ·conv=>whnf
  refine Len.map ?_
  conv=>whnf
  refine Ask.o h fun p51 h=> ?_
  conv=>whnf
  refine Elem.o (by first | omega | (simp [At] at * <;> omega)) ?_
  conv=>whnf
  refine Len.map ?_
  conv=>whnf
  refine Ask.o h fun p52 h=> ?_
  conv=>whnf
  refine Elem.o (by first | omega | (simp [At] at * <;> omega)) ?_
  conv=>whnf
  refine BslQ.o Ae ([nth (nth r41.snd.snd x30.toNat) x28.toNat]) (by exact fun _=>⟨rfl,rfl⟩) (by rfl) ?_
  conv=>whnf
  refine NoOwn.o (fun _=>rfl) ?_
  conv=>whnf
  refine AppQ.o (m:=1) Ae (by exact fun _=>⟨rfl,rfl⟩) (x29) ([nth (nth r41.snd.snd x30.toNat) x28.toNat]) (by rfl) (by rfl) h fun h=> ?_
  conv=>whnf
  refine Ask.o h fun p53 h=> ?_
  conv=>whnf
  cases h;exact ⟨rfl,rfl⟩
 conv=>whnf
 cases h;exact ⟨rfl,rfl⟩
noncomputable def Bt (r41:SAlgebra×Int×List (List Int)) (r42:List Int×Bool):Int→Option (Int ⊕ (Unit ⊕ Unit)):=fun x28=>
 if x28<(↑r42.fst.length:Int) then
 (Am (Bs r41 r42 x28) ((0:Int),Ar Int)).bind fun q54_29=>
 (J1 (r41.fst) (r41.snd.fst) (q54_29)).bind fun r55=>
 if (r55.snd)=true then
 ask ((0:Int)≤x28∧x28<(↑r42.fst.length:Int)) <|
 if r55.fst≠nth r42.fst x28.toNat then
 some (.inr (.inl ()))
 else
 ask (InI (x28+(1:Int))) <|
 some (.inl (x28+(1:Int)))
 else
 some (.inr (.inl ()))
 else
 some (.inr (.inr ()))
def Fh (r41:SAlgebra×Int×List (List Int)) (r42:List Int×Bool):Int→St:=fun s=>[(28,A.val (Ae s)),(24,A.val (slr true 1 Ae r42.fst)),(23,A.val (slr false 1 (slr false 1 Ae) r41.snd.snd)),(22,A.val (Ae r41.snd.fst)),(21,A.val (rP true (Af false) r41.fst))]
def Iz (_r41:SAlgebra×Int×List (List Int)) (_r42:List Int×Bool):(Unit ⊕ Unit)→Tgt
 | (.inl _s)=>(Ex.ret,[2],[(2,A.val (V.bool false))])
 | (.inr _s)=>((Ex.exit 4),[],[])
theorem P7 {r41} {r42} (x28) o (h:Bt r41 r42 x28=some o):vc Try.prog It (Co [28,24,23,22,21] (Fh r41 r42) (Iz r41 r42) o) (Fh r41 r42 x28):=by
 unfold Bt at h
 try dsimp only at h
 conv=>whnf
 refine Len.map ?_
 conv=>whnf
 refine Br.od h (fun p49 h=> ?_) (fun p49 h=> ?_)
 ·conv=>whnf
  refine BslQ.o Ae (Ar Int) (by exact fun _=>⟨rfl,rfl⟩) (by rfl) ?_
  conv=>whnf
  refine LoopQ.o [30,29,28,24,23,22,21] (Ft r41 r42 x28) (Iu r41 r42 x28) h (fun s o h=>P4 s o h) (by rfl) (fun _=>rfl) ?_
  rintro q54_29 h
  try dsimp only at h
  conv=>whnf
  refine Cells.lit rfl rfl ?_
  conv=>whnf
  refine CallQ.rd (fun r=>V.tup [Ae r.1,V.bool r.2]) (by first | rfl | simp only [V.fz,fzL,V.up,Ab,Ad,slr] | simp [Aa,V.fz,fzL,V.up,upL,Ab,Ac,Ad,slr]) (fun _=>by simp [V.noFz,Ce]) h (fun r h=>Ak6 h) (fun r55 h=> ?_)
  conv=>whnf
  refine Br.flip ?_
  conv=>whnf
  refine Br.ob h (fun p56 h=> ?_) (fun p56 h=> ?_)
  ·conv=>whnf
   refine Br.no ?_
   conv=>whnf
   refine Br.no ?_
   conv=>whnf
   refine Br.no ?_
   conv=>whnf
   refine Len.map ?_
   conv=>whnf
   refine Ask.o h fun p57 h=> ?_
   conv=>whnf
   refine Br.no ?_
   conv=>whnf
   refine Cells.one (fun _=>⟨rfl,rfl⟩) (by first | omega | (simp [At] at * <;> omega)) ?_
   conv=>whnf
   refine Br.no ?_
   conv=>whnf
   refine Br.no ?_
   conv=>whnf
   refine Br.on h (fun p58 h=> ?_) (fun p58 h=> ?_)
   ·conv=>whnf
    cases h;exact ⟨rfl,rfl⟩
   conv=>whnf
   refine Ask.o h fun p59 h=> ?_
   conv=>whnf
   cases h;exact ⟨rfl,rfl⟩
  conv=>whnf
  refine Br.yes ?_
  conv=>whnf
  refine Br.yes ?_
  conv=>whnf
  refine Br.yes ?_
  conv=>whnf
  refine Br.yes ?_
  conv=>whnf
  refine Br.yes ?_
  conv=>whnf
  refine Br.yes ?_
  conv=>whnf
  refine Br.yes ?_
  conv=>whnf
  cases h;exact ⟨rfl,rfl⟩
 conv=>whnf
 cases h;exact ⟨rfl,rfl⟩
noncomputable def Ej (code0:(List Int)):Option Bool:=
 (S4 (code0)).bind fun r1=>
 if (r1)=true then
 some true
 else
 (Cn (code0)).bind fun r3=>
 (Dh (r3.fst) (r3.snd.fst) (r3.snd.snd)).bind fun r4=>
 (((Dk (r3.fst) (r3.snd.fst) (r3.snd.snd)).bind fun r5=>
 if (r4.snd==r5.snd)=true then
 (G2 (r4.fst) (r5.fst)).bind fun r7=>
 if (r7)=true then
 some (.inl ())
 else
 some (.inr ())
 else
 some (.inr ()):Option (Unit ⊕ Unit))).bind fun t=>match t with
 | (.inl _)=>((Gr (r3.fst) (r3.snd.fst) (r3.snd.snd)).bind fun r10=>
 (((Gl (r3.fst) (r3.snd.fst) (r3.snd.snd)).bind fun r11=>
 if (r10.fst==r11.fst)=true then
 if (r10.snd==r11.snd)=true then
 if (r4.snd)=true then
 if (r10.snd)=true then
 some (.inl ())
 else
 some (.inr ())
 else
 some (.inl ())
 else
 some (.inr ())
 else
 some (.inr ()):Option (Unit ⊕ Unit))).bind fun t=>match t with
 | (.inl _)=>(((if (r4.snd)=true then
 (Am (Bu code0 r3 r4 r10) ((0:Int),true)).bind fun t=>match t with
 | (.inl _)=>(some (.inl ()))
 | (.inr q38_14)=>(if (q38_14==r10.fst)=true then
 some (.inr ())
 else
 some (.inl ()))
 else
 some (.inr ()):Option (Unit ⊕ Unit))).bind fun t=>match t with
 | (.inl _)=>(some false)
 | (.inr _)=>((Gk (code0)).bind fun r41=>
 (Kd (r41.fst) (r41.snd.fst) (r41.snd.snd)).bind fun r42=>
 (((Kf (r41.fst) (r41.snd.fst) (r41.snd.snd)).bind fun r43=>
 if (r42.snd==r43.snd)=true then
 (Ki (r42.fst) (r43.fst)).bind fun r45=>
 if (r45)=true then
 some (.inl ())
 else
 some (.inr ())
 else
 some (.inr ()):Option (Unit ⊕ Unit))).bind fun t=>match t with
 | (.inl _)=>(if (r42.snd)=true then
 (Am (Bt r41 r42) (0:Int)).bind fun t=>match t with
 | (.inl _)=>(some false)
 | (.inr _)=>(some true)
 else
 some true)
 | (.inr _)=>(some false)))
 | (.inr _)=>(some false))
 | (.inr _)=>(some false)
theorem Su {code0} {v} (h:Ej code0=some v):Ret Try.prog Kt [(slr false 1 (V.int IntKind.u8)) code0] (V.bool v):=by
 refine Ba Sv (Nat.le_of_ble_eq_true rfl) ?_
 unfold Ej at h
 conv=>whnf
 refine CallQ.o V.bool (by rfl) h (fun r h=>Arx h) (fun r1 h=> ?_)
 conv=>whnf
 refine Br.ob h (fun p2 h=> ?_) (fun p2 h=> ?_)
 ·conv=>whnf
  cases h;exact (by rfl)
 conv=>whnf
 refine CallQ.o (fun r=>V.tup [(Af false) r.1,Ae r.2.1,(slr false 1 (slr false 1 Ae)) r.2.2]) (by rfl) h (fun r h=>Qb h) (fun r3 h=> ?_)
 conv=>whnf
 refine SetKids.lit rfl ?_
 conv=>whnf
 refine Cells.lit rfl rfl ?_
 conv=>whnf
 refine CallQ.o (fun r=>V.tup [(Af true) r.1,V.bool r.2]) (by rfl) h (fun r h=>Un h) (fun r4 h=> ?_)
 conv=>whnf
 refine SetKids.lit rfl ?_
 conv=>whnf
 refine CutQ.o (fun t:(Unit ⊕ Unit)=>match t with | (.inl s)=>(Ex.normal,[7,6,5,4,3,0],[(7,A.val (V.bool (r4.snd))),(6,A.val ((rP true (Af true)) (r4.fst))),(5,A.val ((slr false 1 (slr false 1 Ae)) (r3.snd.snd))),(4,A.val (Ae (r3.snd.fst))),(3,A.val ((rP true (Af false)) (r3.fst))),(0,A.val ((slr false 1 (V.int IntKind.u8)) (code0)))]) | (.inr s)=>(Ex.ret,[2],[(2,A.val (V.bool (false)))])) h ?_ ?_
 ·intro t h
  conv=>whnf
  refine Cells.lit rfl rfl ?_
  conv=>whnf
  refine CallQ.o (fun r=>V.tup [(Af true) r.1,V.bool r.2]) (by rfl) h (fun r h=>Uh h) (fun r5 h=> ?_)
  conv=>whnf
  refine SetKids.lit rfl ?_
  conv=>whnf
  refine Br.flip ?_
  conv=>whnf
  refine Br.ob h (fun p6 h=> ?_) (fun p6 h=> ?_)
  ·conv=>whnf
   refine Cells.lit rfl rfl ?_
   conv=>whnf
   refine Br.no ?_
   conv=>whnf
   refine Cells.lit rfl rfl ?_
   conv=>whnf
   refine Br.no ?_
   conv=>whnf
   refine CallQ.rd V.bool (by first | rfl | simp only [V.fz,Ab] | simp [Aa,V.fz,fzL,V.up,upL,Ab,Ac,Ad,slr]) (fun _=>rfl) h (fun r h=>Ahj h) (fun r7 h=> ?_)
   conv=>whnf
   refine Br.no ?_
   conv=>whnf
   refine Br.no ?_
   conv=>whnf
   refine Br.flip ?_
   conv=>whnf
   refine Br.ob h (fun p8 h=> ?_) (fun p8 h=> ?_)
   ·conv=>whnf
    cases h;exact ⟨rfl,rfl⟩
   conv=>whnf
   cases h;exact ⟨rfl,rfl⟩
  conv=>whnf
  refine Br.yes ?_
  conv=>whnf
  refine Br.yes ?_
  conv=>whnf
  refine Br.yes ?_
  conv=>whnf
  refine Br.yes ?_
  conv=>whnf
  refine Br.yes ?_
  conv=>whnf
  cases h;exact ⟨rfl,rfl⟩
 rintro (⟨⟩ | ⟨⟩) h
 ·try dsimp only at h
  conv=>whnf
  refine Cells.lit rfl rfl ?_
  conv=>whnf
  refine CallQ.o (fun r=>V.tup [V.bool r.1,V.bool r.2]) (by rfl) h (fun r h=>Abd h) (fun r10 h=> ?_)
  conv=>whnf
  refine CutQ.o (fun t:(Unit ⊕ Unit)=>match t with | (.inl s)=>(Ex.normal,[10,7,6,5,4,3,0],[(10,A.val (V.bool (r10.fst))),(7,A.val (V.bool (r4.snd))),(6,A.val ((rP true (Af true)) (r4.fst))),(5,A.val ((slr false 1 (slr false 1 Ae)) (r3.snd.snd))),(4,A.val (Ae (r3.snd.fst))),(3,A.val ((rP true (Af false)) (r3.fst))),(0,A.val ((slr false 1 (V.int IntKind.u8)) (code0)))]) | (.inr s)=>(Ex.ret,[2],[(2,A.val (V.bool (false)))])) h ?_ ?_
  ·intro t h
   conv=>whnf
   refine Cells.lit rfl rfl ?_
   conv=>whnf
   refine CallQ.o (fun r=>V.tup [V.bool r.1,V.bool r.2]) (by rfl) h (fun r h=>Acd h) (fun r11 h=> ?_)
   conv=>whnf
   refine Br.flip ?_
   conv=>whnf
   refine Br.ob h (fun p12 h=> ?_) (fun p12 h=> ?_)
   ·conv=>whnf
    refine Br.no ?_
    conv=>whnf
    refine Br.no ?_
    conv=>whnf
    refine Br.no ?_
    conv=>whnf
    refine Br.flip ?_
    conv=>whnf
    refine Br.ob h (fun p13 h=> ?_) (fun p13 h=> ?_)
    ·conv=>whnf
     refine Br.no ?_
     conv=>whnf
     refine Br.ob h (fun p14 h=> ?_) (fun p14 h=> ?_)
     ·conv=>whnf
      refine Br.yes ?_
      conv=>whnf
      refine Br.no ?_
      conv=>whnf
      refine Br.yes ?_
      conv=>whnf
      refine Br.no ?_
      conv=>whnf
      refine Br.flip ?_
      conv=>whnf
      refine Br.ob h (fun p15 h=> ?_) (fun p15 h=> ?_)
      ·conv=>whnf
       cases h;exact ⟨rfl,rfl⟩
      conv=>whnf
      cases h;exact ⟨rfl,rfl⟩
     conv=>whnf
     refine Br.no ?_
     conv=>whnf
     refine Br.no ?_
     conv=>whnf
     refine Br.no ?_
     conv=>whnf
     refine Br.no ?_
     conv=>whnf
     refine Br.no ?_
     conv=>whnf
     cases h;exact ⟨rfl,rfl⟩
    conv=>whnf
    refine Br.yes ?_
    conv=>whnf
    refine Br.yes ?_
    conv=>whnf
    refine Br.yes ?_
    conv=>whnf
    refine Br.yes ?_
    conv=>whnf
    cases h;exact ⟨rfl,rfl⟩
   conv=>whnf
   refine Br.yes ?_
   conv=>whnf
   refine Br.yes ?_
   conv=>whnf
   refine Br.yes ?_
   conv=>whnf
   refine Br.yes ?_
   conv=>whnf
   refine Br.yes ?_
   conv=>whnf
   refine Br.yes ?_
   conv=>whnf
   refine Br.yes ?_
   conv=>whnf
   refine Br.yes ?_
   conv=>whnf
   cases h;exact ⟨rfl,rfl⟩
  rintro (⟨⟩ | ⟨⟩) h
  ·try dsimp only at h
   conv=>whnf
   refine CutQ.o (fun t:(Unit ⊕ Unit)=>match t with | (.inl s)=>(Ex.ret,[2],[(2,A.val (V.bool (false)))]) | (.inr s)=>(Ex.normal,[0],[(0,A.val ((slr false 1 (V.int IntKind.u8)) (code0)))])) h ?_ ?_
   ·intro t h
    conv=>whnf
    refine Br.ob h (fun p17 h=> ?_) (fun p17 h=> ?_)
    ·conv=>whnf
     refine LoopQ.o [15,14,10,6,5,4,3,0] (Fg code0 r3 r4 r10) (Ix code0 r3 r4 r10) h (fun s o h=>Qi s o h) (by rfl) (by rintro (_ | _)<;>rfl) ?_
     rintro (⟨⟩ | q38_14) h
     ·try dsimp only at h
      conv=>whnf
      cases h;exact ⟨rfl,rfl⟩
     try dsimp only at h
     conv=>whnf
     refine Br.flip ?_
     conv=>whnf
     refine Br.ob h (fun p39 h=> ?_) (fun p39 h=> ?_)
     ·conv=>whnf
      cases h;exact ⟨rfl,rfl⟩
     conv=>whnf
     cases h;exact ⟨rfl,rfl⟩
    conv=>whnf
    cases h;exact ⟨rfl,rfl⟩
   rintro (⟨⟩ | ⟨⟩) h
   ·try dsimp only at h
    conv=>whnf
    cases h;exact (by rfl)
   try dsimp only at h
   conv=>whnf
   refine CallQ.o (fun r=>V.tup [(Af false) r.1,Ae r.2.1,(slr false 1 (slr false 1 Ae)) r.2.2]) (by rfl) h (fun r h=>Abb h) (fun r41 h=> ?_)
   conv=>whnf
   refine SetKids.lit rfl ?_
   conv=>whnf
   refine Cells.lit rfl rfl ?_
   conv=>whnf
   refine CallQ.o (fun r=>V.tup [(slr true 1 Ae) r.1,V.bool r.2]) (by rfl) h (fun r h=>Aio h) (fun r42 h=> ?_)
   conv=>whnf
   refine CutQ.o (fun t:(Unit ⊕ Unit)=>match t with | (.inl s)=>(Ex.normal,[25,24,23,22,21],[(25,A.val (V.bool (r42.snd))),(24,A.val ((slr true 1 Ae) (r42.fst))),(23,A.val ((slr false 1 (slr false 1 Ae)) (r41.snd.snd))),(22,A.val (Ae (r41.snd.fst))),(21,A.val ((rP true (Af false)) (r41.fst)))]) | (.inr s)=>(Ex.ret,[2],[(2,A.val (V.bool (false)))])) h ?_ ?_
   ·intro t h
    conv=>whnf
    refine Cells.lit rfl rfl ?_
    conv=>whnf
    refine CallQ.o (fun r=>V.tup [(slr true 1 Ae) r.1,V.bool r.2]) (by rfl) h (fun r h=>Aj7 h) (fun r43 h=> ?_)
    conv=>whnf
    refine Br.flip ?_
    conv=>whnf
    refine Br.ob h (fun p44 h=> ?_) (fun p44 h=> ?_)
    ·conv=>whnf
     refine Br.no ?_
     conv=>whnf
     refine Br.no ?_
     conv=>whnf
     refine CallQ.rd V.bool (by first | rfl | simp only [V.fz,Ab,slr] | simp [Aa,V.fz,fzL,V.up,upL,Ab,Ac,Ad,slr]) (fun _=>rfl) h (fun r h=>Aed h) (fun r45 h=> ?_)
     conv=>whnf
     refine Br.no ?_
     conv=>whnf
     refine Br.no ?_
     conv=>whnf
     refine Br.flip ?_
     conv=>whnf
     refine Br.ob h (fun p46 h=> ?_) (fun p46 h=> ?_)
     ·conv=>whnf
      cases h;exact ⟨rfl,rfl⟩
     conv=>whnf
     cases h;exact ⟨rfl,rfl⟩
    conv=>whnf
    refine Br.yes ?_
    conv=>whnf
    refine Br.yes ?_
    conv=>whnf
    refine Br.yes ?_
    conv=>whnf
    refine Br.yes ?_
    conv=>whnf
    refine Br.yes ?_
    conv=>whnf
    cases h;exact ⟨rfl,rfl⟩
   rintro (⟨⟩ | ⟨⟩) h
   ·try dsimp only at h
    conv=>whnf
    refine Br.ob h (fun p48 h=> ?_) (fun p48 h=> ?_)
    ·conv=>whnf
     refine LoopQ.o [28,24,23,22,21] (Fh r41 r42) (Iz r41 r42) h (fun s o h=>P7 s o h) (by rfl) (by rintro (_ | _)<;>rfl) ?_
     rintro (⟨⟩ | ⟨⟩) h
     ·try dsimp only at h
      conv=>whnf
      cases h;exact (by rfl)
     try dsimp only at h
     conv=>whnf
     cases h;exact (by rfl)
    conv=>whnf
    cases h;exact (by rfl)
   try dsimp only at h
   conv=>whnf
   cases h;exact (by rfl)
  try dsimp only at h
  conv=>whnf
  cases h;exact (by rfl)
 try dsimp only at h
 conv=>whnf
 cases h;exact (by rfl)
end Go.Proofs.Ytmmcfdfdacpjgaa.Ax
