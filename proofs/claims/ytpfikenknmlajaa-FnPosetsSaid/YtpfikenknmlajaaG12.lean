/-
 What the functions compute, as functions on plain data, and that the program does compute it; written by program.
-/
import Derived.Test.YtpfikenknmlajaaCode
import Derived.Test.YtpfikenknmlajaaG2
import Derived.Test.YtpfikenknmlajaaG5
import Derived.Test.YtpfikenknmlajaaG9
import Derived.Test.YtpfikenknmlajaaG10
namespace Go.Proofs.Ytpfikenknmlajaa.Ax
open Go
set_option maxRecDepth 100000
set_option maxHeartbeats 4000000
noncomputable def Bv (p0:SPoset) (x6:Int) (x7:Int) (_x5':List Int):(Int×Bool)→Option ((Int×Bool) ⊕ Bool):=fun (x9,x8)=>
 ((ask ((0:Int)≤x7∧x7<(↑p0.Below.length:Int)) <|
 if x9<(↑(nth p0.Below x7.toNat).length:Int) then
 if (x8)=true then
 some (.inl ())
 else
 some (.inr ())
 else
 some (.inr ()):Option (Unit ⊕ Unit))).bind fun t=>match t with
 | (.inl _)=>(ask ((0:Int)≤x7∧x7<(↑p0.Below.length:Int)) <|
 ask ((0:Int)≤x9∧x9<(↑(nth p0.Below x7.toNat).length:Int)) <|
 if nth (nth p0.Below x7.toNat) x9.toNat=x7 then
 ask (InI (x9+(1:Int))) <|
 some (.inl (x9+(1:Int),true))
 else
 ask ((0:Int)≤x7∧x7<(↑p0.Below.length:Int)) <|
 ask ((0:Int)≤x9∧x9<(↑(nth p0.Below x7.toNat).length:Int)) <|
 ask ((0:Int)≤nth (nth p0.Below x7.toNat) x9.toNat) <|
 ask (InI (x9+(1:Int))) <|
 some (.inl (x9+(1:Int),Ahh (Adn x6 (nth (nth p0.Below x7.toNat) x9.toNat)) (1:Int)==(1:Int))))
 | (.inr _)=>(some (.inr x8))
def Hz (p0:SPoset) (x6:Int) (x7:Int) (x5':List Int):(Int×Bool)→St:=fun s=>[(9,A.val (Af s.1)),(8,A.val (V.bool s.2)),(7,A.val (Af (x7))),(6,A.val (Af (x6))),(5,A.val ((slr true 1 Af) (x5'))),(4,A.val (Af ((↑p0.Below.length:Int)))),(1,A.val ((rP true (Ag false)) (p0)))]
def Ma (p0:SPoset) (x6:Int) (x7:Int) (x5':List Int):Bool→Tgt
 | s=>((Ex.exit 4),[8,7,6,5,4,1],[(8,A.val (V.bool s)),(7,A.val (Af (x7))),(6,A.val (Af (x6))),(5,A.val ((slr true 1 Af) (x5'))),(4,A.val (Af ((↑p0.Below.length:Int)))),(1,A.val ((rP true (Ag false)) (p0)))])
theorem Vf {p0:SPoset} {x6:Int} {x7:Int} {x5':List Int} (s:(Int×Bool)) (o:(Int×Bool) ⊕ Bool) (h:Bv p0 x6 x7 x5' s=some o):vc Try.prog Mb (Cc [9,8,7,6,5,4,1] (Hz p0 x6 x7 x5') (Ma p0 x6 x7 x5') o) (Hz p0 x6 x7 x5' s):=by
 obtain ⟨x9,x8⟩:=s
 unfold Bv at h
 try dsimp only at h
 refine CutQ.o (fun t:(Unit ⊕ Unit)=>match t with | (.inl s)=>(Ex.normal,[9,7,6,5,4,1],[(9,A.val (Af (x9))),(7,A.val (Af (x7))),(6,A.val (Af (x6))),(5,A.val ((slr true 1 Af) (x5'))),(4,A.val (Af ((↑p0.Below.length:Int)))),(1,A.val ((rP true (Ag false)) (p0)))]) | (.inr s)=>((Ex.exit 4),[8,7,6,5,4,1],[(8,A.val (V.bool (x8))),(7,A.val (Af (x7))),(6,A.val (Af (x6))),(5,A.val ((slr true 1 Af) (x5'))),(4,A.val (Af ((↑p0.Below.length:Int)))),(1,A.val ((rP true (Ag false)) (p0)))])) h ?_ ?_
 ·intro t h
  refine Cells.lit rfl rfl<|Len.map<|Ask.o h fun p13 h=>Elem.o (by first | omega | (simp [Ak] at * <;> omega))<|Len.map<|Br.od h (fun p14 h=> ?_) (fun p14 h=> ?_)
  ·refine Br.yes<|Br.ob h (fun p15 h=> ?_) (fun p15 h=> ?_)
   ·cases h;exact ⟨rfl,rfl⟩
   cases h;exact ⟨rfl,rfl⟩
  refine Br.no<|Br.no ?_
  cases h;exact ⟨rfl,rfl⟩
 rintro (⟨⟩ | ⟨⟩) h
 ·try dsimp only at h
  refine Cells.lit rfl rfl<|Len.map<|Ask.o h fun p17 h=>Elem.o (by first | omega | (simp [Ak] at * <;> omega))<|Len.map<|Ask.o h fun p18 h=>Elem.o (by first | omega | (simp [Ak] at * <;> omega))<|Br.oe h (fun p19 h=> ?_) (fun p19 h=> ?_)
  ·refine Br.yes<|Br.yes<|Br.yes<|Br.yes<|Br.yes<|Br.yes<|Br.yes<|Br.yes<|Br.yes<|Br.yes<|Br.yes<|Br.yes<|Ask.o h fun p20 h=> ?_
   cases h;exact ⟨rfl,rfl⟩
  refine Br.no<|Br.no<|Cells.lit rfl rfl<|Br.no<|Br.no<|Len.map<|Ask.o h fun p21 h=>Elem.o (by first | omega | (simp [Ak] at * <;> omega))<|Br.no<|Br.no<|Br.no<|Len.map<|Ask.o h fun p22 h=>Elem.o (by first | omega | (simp [Ak] at * <;> omega))<|Br.no<|Br.no<|Ask.o h fun p23 h=>Br.no<|Br.no<|Br.no<|Ask.o h fun p24 h=> ?_
  cases h;exact ⟨rfl,rfl⟩
 try dsimp only at h
 cases h;exact ⟨rfl,rfl⟩
noncomputable def Bu (p0:SPoset) (x6:Int):(Int×(List Int))→Option ((Int×(List Int)) ⊕ (List Int)):=fun (x7,x5')=>
 ((if x7<(↑p0.Below.length:Int) then
 ask ((0:Int)≤x6∧x6<(↑x5'.length:Int)) <|
 if nth x5' x6.toNat>(0:Int) then
 some (.inl ())
 else
 some (.inr ())
 else
 some (.inr ()):Option (Unit ⊕ Unit))).bind fun t=>match t with
 | (.inl _)=>(ask ((0:Int)≤x7) <|
 (Aj (Bv p0 x6 x7 x5') ((0:Int),Ahh (Adn x6 x7) (1:Int)==(0:Int))).bind fun q25_8=>
 if (q25_8)=true then
 ask ((0:Int)≤x7) <|
 ask ((0:Int)≤x7) <|
 ask ((0:Int)≤orI x6 (Il (1:Int) x7)∧orI x6 (Il (1:Int) x7)<(↑x5'.length:Int)) <|
 ask ((0:Int)≤x6∧x6<(↑x5'.length:Int)) <|
 ask (InI (nth x5' (orI x6 (Il (1:Int) x7)).toNat+nth x5' x6.toNat)) <|
 ask ((0:Int)≤orI x6 (Il (1:Int) x7)∧orI x6 (Il (1:Int) x7)<(↑x5'.length:Int)) <|
 ask (InI (x7+(1:Int))) <|
 some (.inl (x7+(1:Int),x5'.set (orI x6 (Il (1:Int) x7)).toNat (nth x5' (orI x6 (Il (1:Int) x7)).toNat+nth x5' x6.toNat)))
 else
 ask (InI (x7+(1:Int))) <|
 some (.inl (x7+(1:Int),x5')))
 | (.inr _)=>(some (.inr x5'))
def Hy (p0:SPoset) (x6:Int):(Int×(List Int))→St:=fun s=>[(7,A.val (Af s.1)),(6,A.val (Af (x6))),(5,A.val ((slr true 1 Af) s.2)),(4,A.val (Af ((↑p0.Below.length:Int)))),(1,A.val ((rP true (Ag false)) (p0)))]
def L5 (p0:SPoset) (x6:Int):(List Int)→Tgt
 | s=>((Ex.exit 2),[6,5,4,1],[(6,A.val (Af (x6))),(5,A.val ((slr true 1 Af) s)),(4,A.val (Af ((↑p0.Below.length:Int)))),(1,A.val ((rP true (Ag false)) (p0)))])
theorem Vc {p0:SPoset} {x6:Int} (s:(Int×(List Int))) (o:(Int×(List Int)) ⊕ (List Int)) (h:Bu p0 x6 s=some o):vc Try.prog Me (Cc [7,6,5,4,1] (Hy p0 x6) (L5 p0 x6) o) (Hy p0 x6 s):=by
 obtain ⟨x7,x5'⟩:=s
 unfold Bu at h
 try dsimp only at h
 refine CutQ.o (fun t:(Unit ⊕ Unit)=>match t with | (.inl s)=>(Ex.normal,[7,6,5,4,1],[(7,A.val (Af (x7))),(6,A.val (Af (x6))),(5,A.val ((slr true 1 Af) (x5'))),(4,A.val (Af ((↑p0.Below.length:Int)))),(1,A.val ((rP true (Ag false)) (p0)))]) | (.inr s)=>((Ex.exit 2),[6,5,4,1],[(6,A.val (Af (x6))),(5,A.val ((slr true 1 Af) (x5'))),(4,A.val (Af ((↑p0.Below.length:Int)))),(1,A.val ((rP true (Ag false)) (p0)))])) h ?_ ?_
 ·intro t h
  refine Br.od h (fun p8 h=> ?_) (fun p8 h=> ?_)
  ·refine Br.yes<|Br.yes<|Len.map<|Ask.o h fun p9 h=>Br.yes<|Cells.one (fun _=>⟨rfl,rfl⟩) (by first | omega | (simp [Ak] at * <;> omega))<|Br.yes<|Br.yes<|Br.od h (fun p10 h=> ?_) (fun p10 h=> ?_)
   ·cases h;exact ⟨rfl,rfl⟩
   cases h;exact ⟨rfl,rfl⟩
  refine Br.no<|Br.no<|Br.no<|Br.no<|Br.no<|Br.no ?_
  cases h;exact ⟨rfl,rfl⟩
 rintro (⟨⟩ | ⟨⟩) h
 ·try dsimp only at h
  refine Ask.o h fun p12 h=>LoopQ.o [9,8,7,6,5,4,1] (Hz p0 x6 x7 x5') (Ma p0 x6 x7 x5') h (fun s o h=>Vf s o h) (by rfl) (fun _=>rfl) ?_
  rintro q25_8 h
  try dsimp only at h
  refine Br.ob h (fun p26 h=> ?_) (fun p26 h=> ?_)
  ·refine Ask.o h fun p27 h=>Ask.o h fun p28 h=>Len.map<|Ask.o h fun p29 h=>Cells.one (fun _=>⟨rfl,rfl⟩) (by first | omega | (simp [Ak] at * <;> omega))<|Len.map<|Ask.o h fun p30 h=>Cells.one (fun _=>⟨rfl,rfl⟩) (by first | omega | (simp [Ak] at * <;> omega))<|Ask.o h fun p31 h=>Len.map<|Ask.o h fun p32 h=>SetKids.one (fun _=>⟨rfl,rfl⟩) (nth x5' (orI x6 (Il (1:Int) x7)).toNat+nth x5' x6.toNat) (by rfl) (by first | omega | (simp [Ak] at * <;> omega))<|Ask.o h fun p33 h=> ?_
   cases h;exact ⟨rfl,rfl⟩
  refine Ask.o h fun p34 h=> ?_
  cases h;exact ⟨rfl,rfl⟩
 try dsimp only at h
 cases h;exact ⟨rfl,rfl⟩
noncomputable def Cb (p0:SPoset):(Int×(List Int))→Option ((Int×(List Int)) ⊕ (List Int)):=fun (x6,x5)=>
 ask ((0:Int)≤(↑p0.Below.length:Int)) <|
 if x6<Il (1:Int) (↑p0.Below.length:Int) then
 (Aj (Bu p0 x6) ((0:Int),x5)).bind fun q35_5=>
 ask (InI (x6+(1:Int))) <|
 some (.inl (x6+(1:Int),q35_5))
 else
 some (.inr x5)
def H3 (p0:SPoset):(Int×(List Int))→St:=fun s=>[(6,A.val (Af s.1)),(5,A.val ((slr true 1 Af) s.2)),(4,A.val (Af ((↑p0.Below.length:Int)))),(1,A.val ((rP true (Ag false)) (p0)))]
def L7 (p0:SPoset):(List Int)→Tgt
 | s=>((Ex.exit 0),[5,4],[(5,A.val ((slr true 1 Af) s)),(4,A.val (Af ((↑p0.Below.length:Int))))])
theorem Vh {p0:SPoset} (s:(Int×(List Int))) (o:(Int×(List Int)) ⊕ (List Int)) (h:Cb p0 s=some o):vc Try.prog L8 (Cc [6,5,4,1] (H3 p0) (L7 p0) o) (H3 p0 s):=by
 obtain ⟨x6,x5⟩:=s
 unfold Cb at h
 try dsimp only at h
 refine Ask.o h fun p6 h=>Br.od h (fun p7 h=> ?_) (fun p7 h=> ?_)
 ·refine LoopQ.o [7,6,5,4,1] (Hy p0 x6) (L5 p0 x6) h (fun s o h=>Vc s o h) (by rfl) (fun _=>rfl) ?_
  rintro q35_5 h
  try dsimp only at h
  refine Ask.o h fun p36 h=> ?_
  cases h;exact ⟨rfl,rfl⟩
 cases h;exact ⟨rfl,rfl⟩
noncomputable def Eu (p0:SPoset):Option (Int×Bool):=
 (Gi (p0)).bind fun r1=>
 if (r1)=true then
 ask ((0:Int)≤(↑p0.Below.length:Int)) <|
 ask ((0:Int)≤Il (1:Int) (↑p0.Below.length:Int)∧Il (1:Int) (↑p0.Below.length:Int)≤(↑LIM:Int)) <|
 ask ((0:Int)≤(0:Int)∧(0:Int)<(↑(Il (1:Int) (↑p0.Below.length:Int)).toNat:Int)) <|
 (Aj (Cb p0) ((0:Int),(List.replicate (Il (1:Int) (↑p0.Below.length:Int)).toNat (0:Int)).set (Int.toNat (0:Int)) (1:Int))).bind fun q37_5=>
 ask ((0:Int)≤(↑p0.Below.length:Int)) <|
 ask (InI (Il (1:Int) (↑p0.Below.length:Int)-(1:Int))) <|
 ask ((0:Int)≤Il (1:Int) (↑p0.Below.length:Int)-(1:Int)∧Il (1:Int) (↑p0.Below.length:Int)-(1:Int)<(↑q37_5.length:Int)) <|
 some (nth q37_5 (Il (1:Int) (↑p0.Below.length:Int)-(1:Int)).toNat,true)
 else
 some ((0:Int),false)
theorem Z8 {p0:SPoset} {v:(Int×Bool)} (h:Eu p0=some v):Ret Try.prog Jv [(Ag false) p0] ((fun r=>V.tup [Af r.1,V.bool r.2]) v):=by
 refine A6 Aah (Nat.le_of_ble_eq_true rfl) ?_
 unfold Eu at h
 refine Cells.lit rfl rfl<|CallQ.o V.bool (by rfl) h (fun r h=>Pa h) (fun r1 h=> ?_)
 refine Br.flip<|Br.ob h (fun p2 h=> ?_) (fun p2 h=> ?_)
 ·refine Cells.lit rfl rfl<|Len.map<|Ask.o h fun p3 h=>Ask.o h fun p4 h=>MkQ.o Af ((0:Int)) rfl<|Len.mrep<|Ask.o h fun p5 h=>SetKids.one (fun _=>⟨rfl,rfl⟩) ((1:Int)) (by rfl) (by first | omega | (simp [Ak] at * <;> omega))<|LoopQ.o [6,5,4,1] (H3 p0) (L7 p0) h (fun s o h=>Vh s o h) (by rfl) (fun _=>rfl) ?_
  rintro q37_5 h
  try dsimp only at h
  refine Ask.o h fun p38 h=>Ask.o h fun p39 h=>Len.map<|Ask.o h fun p40 h=>Cells.one (fun _=>⟨rfl,rfl⟩) (by first | omega | (simp [Ak] at * <;> omega)) ?_
  cases h;exact (by rfl)
 cases h;exact (by rfl)
noncomputable def Ds (p0:SPoset):Option ((List Int)×Bool):=
 (Bj (p0)).bind fun r1=>
 if (r1.snd)=true then
 (Ej (r1.fst) (fun w_0=>Gf w_0 (r1.fst))).bind fun r3=>
 some (r3,true)
 else
 some (Ar Int,false)
theorem Z0 {p0:SPoset} {v:((List Int)×Bool)} (h:Ds p0=some v):Ret Try.prog Jr [(Ag false) p0] ((fun r=>V.tup [(slr true 1 Af) r.1,V.bool r.2]) v):=by
 refine A6 Zv (Nat.le_of_ble_eq_true rfl) ?_
 unfold Ds at h
 refine Cells.lit rfl rfl<|CallQ.o (fun r=>V.tup [(slr true 1 (slr true 1 V.bool)) r.1,V.bool r.2]) (by rfl) h (fun r h=>Dk h) (fun r1 h=> ?_)
 refine SetKids.lit rfl<|Br.flip<|Br.ob h (fun p2 h=> ?_) (fun p2 h=> ?_)
 ·refine Cells.lit rfl rfl<|Kid.lit rfl rfl<|CallQ.rd (slr true 1 Af) (by first | rfl | simp only [V.fz,Ab,slr] | simp [Aa,V.fz,fzL,V.up,upL,Ab,Ac,Ad,slr]) (fun _=>by simp [V.noFz,Cu]) h (fun r h=>M2 (f_so0:=Gb) (c_so0:=[(rP false (slr false 1 (slr false 1 V.bool))) (r1.fst)]) (fun w_0 v h=>Ret.cast (by rfl) (Xp h)) h) (fun r3 h=> ?_)
  cases h;exact (by rfl)
 refine BslQ.o Af (Ar Int) (by exact fun _=>⟨rfl,rfl⟩) (by first | rfl | (simp only [Aa,V.fz,fzL,V.up,upL,Ab,Ac,Ad,slr,List.cons_append,List.nil_append];done) | simp [Aa,V.fz,fzL,V.up,upL,Ab,Ac,Ad,slr]) ?_
 cases h;exact (by rfl)
noncomputable def Dt (p0:SPoset):Option ((List Int)×Bool):=
 (Bj (p0)).bind fun r1=>
 if (r1.snd)=true then
 (Ej (r1.fst) (fun w_0=>Gg w_0 (r1.fst))).bind fun r3=>
 some (r3,true)
 else
 some (Ar Int,false)
theorem Zw {p0:SPoset} {v:((List Int)×Bool)} (h:Dt p0=some v):Ret Try.prog Jk [(Ag false) p0] ((fun r=>V.tup [(slr true 1 Af) r.1,V.bool r.2]) v):=by
 refine A6 Aac (Nat.le_of_ble_eq_true rfl) ?_
 unfold Dt at h
 refine Cells.lit rfl rfl<|CallQ.o (fun r=>V.tup [(slr true 1 (slr true 1 V.bool)) r.1,V.bool r.2]) (by rfl) h (fun r h=>Dk h) (fun r1 h=> ?_)
 refine SetKids.lit rfl<|Br.flip<|Br.ob h (fun p2 h=> ?_) (fun p2 h=> ?_)
 ·refine Cells.lit rfl rfl<|Kid.lit rfl rfl<|CallQ.rd (slr true 1 Af) (by first | rfl | simp only [V.fz,Ab,slr] | simp [Aa,V.fz,fzL,V.up,upL,Ab,Ac,Ad,slr]) (fun _=>by simp [V.noFz,Cu]) h (fun r h=>M2 (f_so0:=F9) (c_so0:=[(rP false (slr false 1 (slr false 1 V.bool))) (r1.fst)]) (fun w_0 v h=>Ret.cast (by rfl) (Xd h)) h) (fun r3 h=> ?_)
  cases h;exact (by rfl)
 refine BslQ.o Af (Ar Int) (by exact fun _=>⟨rfl,rfl⟩) (by first | rfl | (simp only [Aa,V.fz,fzL,V.up,upL,Ab,Ac,Ad,slr,List.cons_append,List.nil_append];done) | simp [Aa,V.fz,fzL,V.up,upL,Ab,Ac,Ad,slr]) ?_
 cases h;exact (by rfl)
noncomputable def Dl (p0:SPoset):(Int×(List Int))→Option ((Int×(List Int)) ⊕ (List Int)):=fun (x4,x3)=>
 ask ((0:Int)≤(↑p0.Below.length:Int)) <|
 if x4<Il (1:Int) (↑p0.Below.length:Int) then
 (Mo (x4)).bind fun r3=>
 if (↑r3.length:Int)>(↑x3.length:Int) then
 (Hg (p0) (r3)).bind fun r5=>
 if (r5)=true then
 ask (InI (x4+(1:Int))) <|
 some (.inl (x4+(1:Int),r3))
 else
 ask (InI (x4+(1:Int))) <|
 some (.inl (x4+(1:Int),x3))
 else
 if (↑r3.length:Int)=(↑x3.length:Int) then
 (Mu (r3) (x3)).bind fun r10=>
 if (r10)=true then
 (Hg (p0) (r3)).bind fun r12=>
 if (r12)=true then
 ask (InI (x4+(1:Int))) <|
 some (.inl (x4+(1:Int),r3))
 else
 ask (InI (x4+(1:Int))) <|
 some (.inl (x4+(1:Int),x3))
 else
 ask (InI (x4+(1:Int))) <|
 some (.inl (x4+(1:Int),x3))
 else
 ask (InI (x4+(1:Int))) <|
 some (.inl (x4+(1:Int),x3))
 else
 some (.inr x3)
def La (p0:SPoset):(Int×(List Int))→St:=fun s=>[(4,A.val (Af s.1)),(3,A.val ((slr true 1 Af) s.2)),(1,A.val ((rP true (Ag false)) (p0)))]
def R3 (_p0:SPoset):(List Int)→Tgt
 | s=>((Ex.exit 0),[3],[(3,A.val ((slr true 1 Af) s))])
theorem Acd {p0:SPoset} (s:(Int×(List Int))) (o:(Int×(List Int)) ⊕ (List Int)) (h:Dl p0 s=some o):vc Try.prog Sd (Cc [4,3,1] (La p0) (R3 p0) o) (La p0 s):=by
 obtain ⟨x4,x3⟩:=s
 unfold Dl at h
 try dsimp only at h
 refine Cells.lit rfl rfl<|Len.map<|Ask.o h fun p1 h=>Br.od h (fun p2 h=> ?_) (fun p2 h=> ?_)
 ·refine CallQ.o (slr true 1 Af) (by rfl) h (fun r h=>Aqe h) (fun r3 h=> ?_)
  refine Len.map<|Len.map<|Br.od h (fun p4 h=> ?_) (fun p4 h=> ?_)
  ·refine Br.yes<|Br.yes<|Br.yes<|Br.yes<|Br.yes<|Br.yes<|Br.yes<|Br.yes<|Cells.lit rfl rfl<|Br.yes<|Br.yes<|CallQ.rd V.bool (by first | rfl | simp only [V.fz,fzL,Ab,slr] | simp [Aa,V.fz,fzL,V.up,upL,Ab,Ac,Ad,slr]) (fun _=>rfl) h (fun r h=>Ab6 h) (fun r5 h=> ?_)
   refine Br.yes<|Br.ob h (fun p6 h=> ?_) (fun p6 h=> ?_)
   ·refine Ask.o h fun p7 h=> ?_
    cases h;exact ⟨rfl,rfl⟩
   refine Ask.o h fun p8 h=> ?_
   cases h;exact ⟨rfl,rfl⟩
  refine Br.no<|Len.map<|Br.no<|Br.no<|Len.map<|Br.no<|Br.no<|Br.oe h (fun p9 h=> ?_) (fun p9 h=> ?_)
  ·refine Br.yes<|Br.yes<|CallQ.rd V.bool (by first | rfl | simp only [V.fz,Ab,slr] | simp [Aa,V.fz,fzL,V.up,upL,Ab,Ac,Ad,slr]) (fun _=>rfl) h (fun r h=>Ap9 h) (fun r10 h=> ?_)
   refine Br.no<|Br.yes<|Br.no<|Br.ob h (fun p11 h=> ?_) (fun p11 h=> ?_)
   ·refine Cells.lit rfl rfl<|Br.yes<|Br.yes<|CallQ.rd V.bool (by first | rfl | simp only [V.fz,fzL,Ab,slr] | simp [Aa,V.fz,fzL,V.up,upL,Ab,Ac,Ad,slr]) (fun _=>rfl) h (fun r h=>Ab6 h) (fun r12 h=> ?_)
    refine Br.yes<|Br.ob h (fun p13 h=> ?_) (fun p13 h=> ?_)
    ·refine Ask.o h fun p14 h=> ?_
     cases h;exact ⟨rfl,rfl⟩
    refine Ask.o h fun p15 h=> ?_
    cases h;exact ⟨rfl,rfl⟩
   refine Br.no<|Br.no<|Br.no<|Br.no<|Ask.o h fun p16 h=> ?_
   cases h;exact ⟨rfl,rfl⟩
  refine Br.no<|Br.no<|Br.no<|Br.no<|Br.no<|Br.no<|Br.no<|Br.no<|Br.no<|Br.no<|Ask.o h fun p17 h=> ?_
  cases h;exact ⟨rfl,rfl⟩
 cases h;exact ⟨rfl,rfl⟩
noncomputable def Ig (p0:SPoset):Option (List Int):=
 (Aj (Dl p0) ((0:Int),Ar Int)).bind fun q18_3=>
 some q18_3
theorem Air {p0:SPoset} {v:(List Int)} (h:Ig p0=some v):Ret Try.prog Pl [(Ag false) p0] ((slr true 1 Af) v):=by
 refine A6 Ahf (Nat.le_of_ble_eq_true rfl) ?_
 unfold Ig at h
 refine BslQ.o Af (Ar Int) (by exact fun _=>⟨rfl,rfl⟩) (by first | rfl | (simp only [Aa,V.fz,fzL,V.up,upL,Ab,Ac,Ad,slr,List.cons_append,List.nil_append];done) | simp [Aa,V.fz,fzL,V.up,upL,Ab,Ac,Ad,slr])<|LoopQ.o [4,3,1] (La p0) (R3 p0) h (fun s o h=>Acd s o h) (by rfl) (fun _=>rfl) ?_
 rintro q18_3 h
 try dsimp only at h
 cases h;exact (by rfl)
end Go.Proofs.Ytpfikenknmlajaa.Ax
