/-
 What the functions compute, as functions on plain data, and that the program does compute it; written by program.
-/
import Derived.Test.YtpfikenknmlajaaCode
import Derived.Test.YtpfikenknmlajaaG2
import Derived.Test.YtpfikenknmlajaaG5
import Derived.Test.YtpfikenknmlajaaG6
namespace Go.Proofs.Ytpfikenknmlajaa.Ax
open Go
set_option maxRecDepth 100000
set_option maxHeartbeats 4000000
noncomputable def Ca (r1:List (List Bool)×Bool) (x25:Int) (x6:List Int):(Int×(List Int))→Option ((Int×(List Int)) ⊕ (List Int)):=fun (x32,x6')=>
 if x32<(↑r1.fst.length:Int) then
 ((ask ((0:Int)≤x32) <|
 if Ahh (Adn x25 x32) (1:Int)=(1:Int) then
 some (.inl ())
 else
 if nth x6 x25.toNat=(0:Int) then
 some (.inl ())
 else
 some (.inr ()):Option (Unit ⊕ Unit))).bind fun t=>match t with
 | (.inl _)=>(ask (InI (x32+(1:Int))) <|
 some (.inl (x32+(1:Int),x6')))
 | (.inr _)=>((E6 (r1.fst) (fun w_0=>Gd w_0 (r1.fst) (x32) (x25))).bind fun r14=>
 if (r14)=true then
 ask ((0:Int)≤x32) <|
 ask ((0:Int)≤orI x25 (Il (1:Int) x32)∧orI x25 (Il (1:Int) x32)<(↑x6'.length:Int)) <|
 ask ((0:Int)≤x25∧x25<(↑x6'.length:Int)) <|
 ask (InI (nth x6' (orI x25 (Il (1:Int) x32)).toNat+nth x6' x25.toNat)) <|
 ask ((0:Int)≤orI x25 (Il (1:Int) x32)∧orI x25 (Il (1:Int) x32)<(↑x6'.length:Int)) <|
 ask (InI (x32+(1:Int))) <|
 some (.inl (x32+(1:Int),x6'.set (orI x25 (Il (1:Int) x32)).toNat (nth x6' (orI x25 (Il (1:Int) x32)).toNat+nth x6' x25.toNat)))
 else
 ask (InI (x32+(1:Int))) <|
 some (.inl (x32+(1:Int),x6')))
 else
 some (.inr x6')
def H4 (r1:List (List Bool)×Bool) (x25:Int) (x6:List Int):(Int×(List Int))→St:=fun s=>[(32,A.val (Af s.1)),(31,A.val (Af ((↑r1.fst.length:Int)))),(8,A.val (Af (nth x6 x25.toNat))),(7,A.val ((rP true Af) (x25))),(25,A.val (Af (x25))),(24,A.val (Af ((↑((List.replicate (Il (1:Int) (↑r1.fst.length:Int)).toNat (0:Int)).set (Int.toNat (0:Int)) (1:Int)).length:Int)))),(23,A.ref 6 []),(6,A.val ((slr true 1 Af) s.2)),(4,A.val ((rP true (slr true 1 (slr true 1 V.bool))) (r1.fst)))]
def L6 (r1:List (List Bool)×Bool) (x25:Int) (_x6:List Int):(List Int)→Tgt
 | s=>((Ex.exit 2),[25,24,23,6,4],[(25,A.val (Af (x25))),(24,A.val (Af ((↑((List.replicate (Il (1:Int) (↑r1.fst.length:Int)).toNat (0:Int)).set (Int.toNat (0:Int)) (1:Int)).length:Int)))),(23,A.ref 6 []),(6,A.val ((slr true 1 Af) s)),(4,A.val ((rP true (slr true 1 (slr true 1 V.bool))) (r1.fst)))])
theorem Va {r1:List (List Bool)×Bool} {x25:Int} {x6:List Int} (s:(Int×(List Int))) (o:(Int×(List Int)) ⊕ (List Int)) (h:Ca r1 x25 x6 s=some o):vc Try.prog Md (Cc [32,31,8,7,25,24,23,6,4] (H4 r1 x25 x6) (L6 r1 x25 x6) o) (H4 r1 x25 x6 s):=by
 obtain ⟨x32,x6'⟩:=s
 unfold Ca at h
 try dsimp only at h
 refine Br.od h (fun p8 h=> ?_) (fun p8 h=> ?_)
 ·refine SetKids.lit rfl<|CutQ.o (fun t:(Unit ⊕ Unit)=>match t with | (.inl s)=>((Ex.exit 3),[32,31,8,7,25,24,23,6,4],[(32,A.val (Af (x32))),(31,A.val (Af ((↑r1.fst.length:Int)))),(8,A.val (Af (nth x6 x25.toNat))),(7,A.val ((rP true Af) (x25))),(25,A.val (Af (x25))),(24,A.val (Af ((↑((List.replicate (Il (1:Int) (↑r1.fst.length:Int)).toNat (0:Int)).set (Int.toNat (0:Int)) (1:Int)).length:Int)))),(23,A.ref 6 []),(6,A.val ((slr true 1 Af) (x6'))),(4,A.val ((rP true (slr true 1 (slr true 1 V.bool))) (r1.fst)))]) | (.inr s)=>(Ex.normal,[9,32,31,8,7,25,24,23,6,4],[(9,A.val ((rP true Af) (x32))),(32,A.val (Af (x32))),(31,A.val (Af ((↑r1.fst.length:Int)))),(8,A.val (Af (nth x6 x25.toNat))),(7,A.val ((rP true Af) (x25))),(25,A.val (Af (x25))),(24,A.val (Af ((↑((List.replicate (Il (1:Int) (↑r1.fst.length:Int)).toNat (0:Int)).set (Int.toNat (0:Int)) (1:Int)).length:Int)))),(23,A.ref 6 []),(6,A.val ((slr true 1 Af) (x6'))),(4,A.val ((rP true (slr true 1 (slr true 1 V.bool))) (r1.fst)))])) h ?_ ?_
  ·intro t h
   refine Cells.lit rfl rfl<|Cells.lit rfl rfl<|Ask.o h fun p9 h=>Br.oe h (fun p10 h=> ?_) (fun p10 h=> ?_)
   ·refine Br.yes<|Br.yes<|Br.yes ?_
    cases h;exact ⟨rfl,rfl⟩
   refine Br.no<|Br.no<|Br.oe h (fun p11 h=> ?_) (fun p11 h=> ?_)
   ·cases h;exact ⟨rfl,rfl⟩
   cases h;exact ⟨rfl,rfl⟩
  rintro (⟨⟩ | ⟨⟩) h
  ·try dsimp only at h
   refine Ask.o h fun p13 h=> ?_
   cases h;exact ⟨rfl,rfl⟩
  try dsimp only at h
  refine Cells.lit rfl rfl<|Kid.lit rfl rfl<|CallQ.rd V.bool (by first | rfl | simp only [V.fz,Ab,slr] | simp [Aa,V.fz,fzL,V.up,upL,Ab,Ac,Ad,slr]) (fun _=>rfl) h (fun r h=>Pr (f_so0:=Ga) (c_so0:=[(rP false (slr false 1 (slr false 1 V.bool))) (r1.fst),(rP false Af) (x32),(rP false Af) (x25)]) (fun w_0 v h=>Ret.cast (by rfl) (Xn h)) h) (fun r14 h=> ?_)
  refine Br.ob h (fun p15 h=> ?_) (fun p15 h=> ?_)
  ·refine Cells.lit rfl rfl<|Cells.lit rfl rfl<|Ask.o h fun p16 h=>Len.map<|Ask.o h fun p17 h=>Cells.one (fun _=>⟨rfl,rfl⟩) (by first | omega | (simp [Ak] at * <;> omega))<|Cells.lit rfl rfl<|Len.map<|Ask.o h fun p18 h=>Cells.one (fun _=>⟨rfl,rfl⟩) (by first | omega | (simp [Ak] at * <;> omega))<|Ask.o h fun p19 h=>Len.map<|Ask.o h fun p20 h=>SetKids.one (fun _=>⟨rfl,rfl⟩) (nth x6' (orI x25 (Il (1:Int) x32)).toNat+nth x6' x25.toNat) (by rfl) (by first | omega | (simp [Ak] at * <;> omega))<|Ask.o h fun p21 h=> ?_
   cases h;exact ⟨rfl,rfl⟩
  refine Ask.o h fun p22 h=> ?_
  cases h;exact ⟨rfl,rfl⟩
 cases h;exact ⟨rfl,rfl⟩
noncomputable def A5 (r1:List (List Bool)×Bool):(Int×(List Int))→Option ((Int×(List Int)) ⊕ (List Int)):=fun (x25,x6)=>
 if x25<(↑((List.replicate (Il (1:Int) (↑r1.fst.length:Int)).toNat (0:Int)).set (Int.toNat (0:Int)) (1:Int)).length:Int) then
 ask ((0:Int)≤x25∧x25<(↑x6.length:Int)) <|
 (Aj (Ca r1 x25 x6) ((0:Int),x6)).bind fun q23_6=>
 ask (InI (x25+(1:Int))) <|
 some (.inl (x25+(1:Int),q23_6))
 else
 some (.inr x6)
def H0 (r1:List (List Bool)×Bool):(Int×(List Int))→St:=fun s=>[(25,A.val (Af s.1)),(24,A.val (Af ((↑((List.replicate (Il (1:Int) (↑r1.fst.length:Int)).toNat (0:Int)).set (Int.toNat (0:Int)) (1:Int)).length:Int)))),(23,A.ref 6 []),(6,A.val ((slr true 1 Af) s.2)),(4,A.val ((rP true (slr true 1 (slr true 1 V.bool))) (r1.fst)))]
def Mc (_r1:List (List Bool)×Bool):(List Int)→Tgt
 | s=>((Ex.exit 0),[6],[(6,A.val ((slr true 1 Af) s))])
theorem Vg {r1:List (List Bool)×Bool} (s:(Int×(List Int))) (o:(Int×(List Int)) ⊕ (List Int)) (h:A5 r1 s=some o):vc Try.prog L9 (Cc [25,24,23,6,4] (H0 r1) (Mc r1) o) (H0 r1 s):=by
 obtain ⟨x25,x6⟩:=s
 unfold A5 at h
 try dsimp only at h
 refine Br.od h (fun p6 h=> ?_) (fun p6 h=> ?_)
 ·refine Len.map<|Ask.o h fun p7 h=>Cells.one (fun _=>⟨rfl,rfl⟩) (by first | omega | (simp [Ak] at * <;> omega))<|SetKids.lit rfl<|Cells.lit rfl rfl<|Kid.lit rfl rfl<|Len.map<|LoopQ.o [32,31,8,7,25,24,23,6,4] (H4 r1 x25 x6) (L6 r1 x25 x6) h (fun s o h=>Va s o h) (by rfl) (fun _=>rfl) ?_
  rintro q23_6 h
  try dsimp only at h
  refine Ask.o h fun p24 h=> ?_
  cases h;exact ⟨rfl,rfl⟩
 cases h;exact ⟨rfl,rfl⟩
noncomputable def Bx (p0:SPoset):Option (Int×Bool):=
 (Bj (p0)).bind fun r1=>
 if (r1.snd)=true then
 ask ((0:Int)≤(↑r1.fst.length:Int)) <|
 ask ((0:Int)≤Il (1:Int) (↑r1.fst.length:Int)∧Il (1:Int) (↑r1.fst.length:Int)≤(↑LIM:Int)) <|
 ask ((0:Int)≤(0:Int)∧(0:Int)<(↑(Il (1:Int) (↑r1.fst.length:Int)).toNat:Int)) <|
 (Aj (A5 r1) ((0:Int),(List.replicate (Il (1:Int) (↑r1.fst.length:Int)).toNat (0:Int)).set (Int.toNat (0:Int)) (1:Int))).bind fun q25_6=>
 ask (InI ((↑q25_6.length:Int)-(1:Int))) <|
 ask ((0:Int)≤(↑q25_6.length:Int)-(1:Int)∧(↑q25_6.length:Int)-(1:Int)<(↑q25_6.length:Int)) <|
 some (nth q25_6 ((↑q25_6.length:Int)-(1:Int)).toNat,true)
 else
 some ((0:Int),false)
theorem Og {p0:SPoset} {v:(Int×Bool)} (h:Bx p0=some v):Ret Try.prog G5 [(Ag false) p0] ((fun r=>V.tup [Af r.1,V.bool r.2]) v):=by
 refine A6 Aaw (Nat.le_of_ble_eq_true rfl) ?_
 unfold Bx at h
 refine Cells.lit rfl rfl<|CallQ.o (fun r=>V.tup [(slr true 1 (slr true 1 V.bool)) r.1,V.bool r.2]) (by rfl) h (fun r h=>Dk h) (fun r1 h=> ?_)
 refine SetKids.lit rfl<|Br.flip<|Br.ob h (fun p2 h=> ?_) (fun p2 h=> ?_)
 ·refine Cells.lit rfl rfl<|Kid.lit rfl rfl<|Len.map<|Ask.o h fun p3 h=>Ask.o h fun p4 h=>MkQ.o Af ((0:Int)) rfl<|Len.mrep<|Ask.o h fun p5 h=>SetKids.one (fun _=>⟨rfl,rfl⟩) ((1:Int)) (by rfl) (by first | omega | (simp [Ak] at * <;> omega))<|Len.map<|LoopQ.o [25,24,23,6,4] (H0 r1) (Mc r1) h (fun s o h=>Vg s o h) (by rfl) (fun _=>rfl) ?_
  rintro q25_6 h
  try dsimp only at h
  refine Len.map<|Ask.o h fun p26 h=>Len.map<|Ask.o h fun p27 h=>Cells.one (fun _=>⟨rfl,rfl⟩) (by first | omega | (simp [Ak] at * <;> omega)) ?_
  cases h;exact (by rfl)
 cases h;exact (by rfl)
noncomputable def Ey (p0:SPoset):Int→Option (Int ⊕ (Unit ⊕ Unit)):=fun x4=>
 if x4<(↑p0.Below.length:Int) then
 ask ((0:Int)≤x4∧x4<(↑p0.Below.length:Int)) <|
 ask (InI ((↑p0.Below.length:Int)-(1:Int))) <|
 (J1 (nth p0.Below x4.toNat) ((0:Int)) ((↑p0.Below.length:Int)-(1:Int))).bind fun r5=>
 if (r5)=true then
 ask ((0:Int)≤x4∧x4<(↑p0.Below.length:Int)) <|
 (Ii (nth p0.Below x4.toNat) (x4)).bind fun r8=>
 if (r8)=true then
 ask (InI (x4+(1:Int))) <|
 some (.inl (x4+(1:Int)))
 else
 some (.inr (.inl ()))
 else
 some (.inr (.inl ()))
 else
 some (.inr (.inr ()))
def Oj (p0:SPoset):Int→St:=fun s=>[(4,A.val (Af s)),(3,A.val (Af ((↑p0.Below.length:Int)))),(1,A.val ((rP true (Ag false)) (p0)))]
def Wh (p0:SPoset):(Unit ⊕ Unit)→Tgt
 | (.inl _s)=>(Ex.ret,[2],[(2,A.val (V.bool (false)))])
 | (.inr _s)=>((Ex.exit 0),[3,1],[(3,A.val (Af ((↑p0.Below.length:Int)))),(1,A.val ((rP true (Ag false)) (p0)))])
theorem Ai3 {p0:SPoset} (x4:Int) (o:Int ⊕ (Unit ⊕ Unit)) (h:Ey p0 x4=some o):vc Try.prog V7 (Cc [4,3,1] (Oj p0) (Wh p0) o) (Oj p0 x4):=by
 unfold Ey at h
 try dsimp only at h
 refine Br.od h (fun p2 h=> ?_) (fun p2 h=> ?_)
 ·refine Cells.lit rfl rfl<|Len.map<|Ask.o h fun p3 h=>Elem.o (by first | omega | (simp [Ak] at * <;> omega))<|Ask.o h fun p4 h=>CallQ.o V.bool (by rfl) h (fun r h=>Alo h) (fun r5 h=> ?_)
  refine Br.flip<|Br.ob h (fun p6 h=> ?_) (fun p6 h=> ?_)
  ·refine Br.no<|Cells.lit rfl rfl<|Br.no<|Br.no<|Len.map<|Ask.o h fun p7 h=>Elem.o (by first | omega | (simp [Ak] at * <;> omega))<|Br.no<|Br.no<|Br.no<|CallQ.o V.bool (by rfl) h (fun r h=>Tc h) (fun r8 h=> ?_)
   refine Br.no<|Br.no<|Br.flip<|Br.ob h (fun p9 h=> ?_) (fun p9 h=> ?_)
   ·refine Ask.o h fun p10 h=> ?_
    cases h;exact ⟨rfl,rfl⟩
   cases h;exact ⟨rfl,rfl⟩
  refine Br.yes<|Br.yes<|Br.yes<|Br.yes<|Br.yes<|Br.yes<|Br.yes<|Br.yes<|Br.yes ?_
  cases h;exact ⟨rfl,rfl⟩
 cases h;exact ⟨rfl,rfl⟩
noncomputable def D6 (p0:SPoset) (x5:Int):Int→Option (Int ⊕ (Unit ⊕ Unit)):=fun x6=>
 ask ((0:Int)≤x5∧x5<(↑p0.Below.length:Int)) <|
 if x6<(↑(nth p0.Below x5.toNat).length:Int) then
 ask ((0:Int)≤x5∧x5<(↑p0.Below.length:Int)) <|
 ask ((0:Int)≤x6∧x6<(↑(nth p0.Below x5.toNat).length:Int)) <|
 if nth (nth p0.Below x5.toNat) x6.toNat≠x5 then
 ask ((0:Int)≤nth (nth p0.Below x5.toNat) x6.toNat∧nth (nth p0.Below x5.toNat) x6.toNat<(↑p0.Below.length:Int)) <|
 (Ii (nth p0.Below (nth (nth p0.Below x5.toNat) x6.toNat).toNat) (x5)).bind fun r19=>
 if (r19)=true then
 some (.inr (.inl ()))
 else
 ask ((0:Int)≤nth (nth p0.Below x5.toNat) x6.toNat∧nth (nth p0.Below x5.toNat) x6.toNat<(↑p0.Below.length:Int)) <|
 ask ((0:Int)≤x5∧x5<(↑p0.Below.length:Int)) <|
 (H6 (nth p0.Below (nth (nth p0.Below x5.toNat) x6.toNat).toNat) (nth p0.Below x5.toNat)).bind fun r23=>
 if (r23)=true then
 ask (InI (x6+(1:Int))) <|
 some (.inl (x6+(1:Int)))
 else
 some (.inr (.inl ()))
 else
 ask ((0:Int)≤nth (nth p0.Below x5.toNat) x6.toNat∧nth (nth p0.Below x5.toNat) x6.toNat<(↑p0.Below.length:Int)) <|
 ask ((0:Int)≤x5∧x5<(↑p0.Below.length:Int)) <|
 (H6 (nth p0.Below (nth (nth p0.Below x5.toNat) x6.toNat).toNat) (nth p0.Below x5.toNat)).bind fun r28=>
 if (r28)=true then
 ask (InI (x6+(1:Int))) <|
 some (.inl (x6+(1:Int)))
 else
 some (.inr (.inl ()))
 else
 some (.inr (.inr ()))
def Oa (p0:SPoset) (x5:Int):Int→St:=fun s=>[(6,A.val (Af s)),(5,A.val (Af (x5))),(3,A.val (Af ((↑p0.Below.length:Int)))),(1,A.val ((rP true (Ag false)) (p0)))]
def Wk (p0:SPoset) (x5:Int):(Unit ⊕ Unit)→Tgt
 | (.inl _s)=>(Ex.ret,[2],[(2,A.val (V.bool (false)))])
 | (.inr _s)=>((Ex.exit 4),[5,3,1],[(5,A.val (Af (x5))),(3,A.val (Af ((↑p0.Below.length:Int)))),(1,A.val ((rP true (Ag false)) (p0)))])
theorem Ais {p0:SPoset} {x5:Int} (x6:Int) (o:Int ⊕ (Unit ⊕ Unit)) (h:D6 p0 x5 x6=some o):vc Try.prog W5 (Cc [6,5,3,1] (Oa p0 x5) (Wk p0 x5) o) (Oa p0 x5 x6):=by
 unfold D6 at h
 try dsimp only at h
 refine Cells.lit rfl rfl<|Len.map<|Ask.o h fun p13 h=>Elem.o (by first | omega | (simp [Ak] at * <;> omega))<|Len.map<|Br.od h (fun p14 h=> ?_) (fun p14 h=> ?_)
 ·refine Cells.lit rfl rfl<|Len.map<|Ask.o h fun p15 h=>Elem.o (by first | omega | (simp [Ak] at * <;> omega))<|Len.map<|Ask.o h fun p16 h=>Elem.o (by first | omega | (simp [Ak] at * <;> omega))<|Br.on h (fun p17 h=> ?_) (fun p17 h=> ?_)
  ·refine Br.yes<|Cells.lit rfl rfl<|Br.yes<|Br.yes<|Len.map<|Ask.o h fun p18 h=>Elem.o (by first | omega | (simp [Ak] at * <;> omega))<|Br.yes<|Br.yes<|Br.yes<|CallP.o V.bool (by rfl) h (fun r h=>Tc h) (fun r19 h=> ?_)
   refine Br.yes<|Br.ob h (fun p20 h=> ?_) (fun p20 h=> ?_)
   ·refine Br.yes<|Br.yes<|Br.yes<|Br.yes<|Br.yes<|Br.yes<|Br.yes<|Br.yes<|Br.yes<|Br.yes<|Br.yes<|Br.yes<|Br.yes ?_
    cases h;exact ⟨rfl,rfl⟩
   refine Br.no<|Cells.lit rfl rfl<|Br.no<|Br.no<|Len.map<|Ask.o h fun p21 h=>Elem.o (by first | omega | (simp [Ak] at * <;> omega))<|Br.no<|Br.no<|Br.no<|Cells.lit rfl rfl<|Br.no<|Br.no<|Len.map<|Ask.o h fun p22 h=>Elem.o (by first | omega | (simp [Ak] at * <;> omega))<|Br.no<|Br.no<|CallQ.o V.bool (by rfl) h (fun r h=>Aa9 h) (fun r23 h=> ?_)
   refine Br.no<|Br.no<|Br.flip<|Br.ob h (fun p24 h=> ?_) (fun p24 h=> ?_)
   ·refine Ask.o h fun p25 h=> ?_
    cases h;exact ⟨rfl,rfl⟩
   cases h;exact ⟨rfl,rfl⟩
  refine Br.no<|Br.no<|Br.no<|Br.no<|Br.no<|Br.no<|Br.no<|Br.no<|Br.no<|Cells.lit rfl rfl<|Br.no<|Br.no<|Len.map<|Ask.o h fun p26 h=>Elem.o (by first | omega | (simp [Ak] at * <;> omega))<|Br.no<|Br.no<|Br.no<|Cells.lit rfl rfl<|Br.no<|Br.no<|Len.map<|Ask.o h fun p27 h=>Elem.o (by first | omega | (simp [Ak] at * <;> omega))<|Br.no<|Br.no<|CallQ.o V.bool (by rfl) h (fun r h=>Aa9 h) (fun r28 h=> ?_)
  refine Br.no<|Br.no<|Br.flip<|Br.ob h (fun p29 h=> ?_) (fun p29 h=> ?_)
  ·refine Ask.o h fun p30 h=> ?_
   cases h;exact ⟨rfl,rfl⟩
  cases h;exact ⟨rfl,rfl⟩
 cases h;exact ⟨rfl,rfl⟩
noncomputable def Fc (p0:SPoset):Int→Option (Int ⊕ (Unit ⊕ Unit)):=fun x5=>
 if x5<(↑p0.Below.length:Int) then
 (Aj (D6 p0 x5) (0:Int)).bind fun t=>match t with
 | (.inl _)=>(some (.inr (.inl ())))
 | (.inr _)=>(ask (InI (x5+(1:Int))) <|
 some (.inl (x5+(1:Int))))
 else
 some (.inr (.inr ()))
def Pc (p0:SPoset):Int→St:=fun s=>[(5,A.val (Af s)),(3,A.val (Af ((↑p0.Below.length:Int)))),(1,A.val ((rP true (Ag false)) (p0)))]
def Vy (_p0:SPoset):(Unit ⊕ Unit)→Tgt
 | (.inl _s)=>(Ex.ret,[2],[(2,A.val (V.bool (false)))])
 | (.inr _s)=>((Ex.exit 2),[],[])
theorem Aht {p0:SPoset} (x5:Int) (o:Int ⊕ (Unit ⊕ Unit)) (h:Fc p0 x5=some o):vc Try.prog W2 (Cc [5,3,1] (Pc p0) (Vy p0) o) (Pc p0 x5):=by
 unfold Fc at h
 try dsimp only at h
 refine Br.od h (fun p12 h=> ?_) (fun p12 h=> ?_)
 ·refine LoopQ.o [6,5,3,1] (Oa p0 x5) (Wk p0 x5) h (fun s o h=>Ais s o h) (by rfl) (by rintro (_ | _)<;>rfl) ?_
  rintro (⟨⟩ | ⟨⟩) h
  ·try dsimp only at h
   cases h;exact ⟨rfl,rfl⟩
  try dsimp only at h
  refine Ask.o h fun p32 h=> ?_
  cases h;exact ⟨rfl,rfl⟩
 cases h;exact ⟨rfl,rfl⟩
noncomputable def Gi (p0:SPoset):Option Bool:=
 if (↑p0.Below.length:Int)>(10:Int) then
 some false
 else
 (Aj (Ey p0) (0:Int)).bind fun t=>match t with
 | (.inl _)=>(some false)
 | (.inr _)=>((Aj (Fc p0) (0:Int)).bind fun t=>match t with
 | (.inl _)=>(some false)
 | (.inr _)=>(some true))
theorem Pa {p0:SPoset} {v:Bool} (h:Gi p0=some v):Ret Try.prog Iw [(Ag false) p0] (V.bool v):=by
 refine A6 Apt (Nat.le_of_ble_eq_true rfl) ?_
 unfold Gi at h
 refine Cells.lit rfl rfl<|Len.map<|Br.od h (fun p1 h=> ?_) (fun p1 h=> ?_)
 ·cases h;exact (by rfl)
 refine LoopQ.o [4,3,1] (Oj p0) (Wh p0) h (fun s o h=>Ai3 s o h) (by rfl) (by rintro (_ | _)<;>rfl) ?_
 rintro (⟨⟩ | ⟨⟩) h
 ·try dsimp only at h
  cases h;exact (by rfl)
 try dsimp only at h
 refine LoopQ.o [5,3,1] (Pc p0) (Vy p0) h (fun s o h=>Aht s o h) (by rfl) (by rintro (_ | _)<;>rfl) ?_
 rintro (⟨⟩ | ⟨⟩) h
 ·try dsimp only at h
  cases h;exact (by rfl)
 try dsimp only at h
 cases h;exact (by rfl)
noncomputable def Hh (p0:SPoset) (x0:Int) (y0:Int):Option Bool:=
 if x0≠y0 then
 (Gc (p0) (x0) (y0)).bind fun r2=>
 some r2
 else
 some false
theorem Ui {p0:SPoset} {x0:Int} {y0:Int} {v:Bool} (h:Hh p0 x0 y0=some v):Ret Try.prog K0 [(Ag false) p0,Af x0,Af y0] (V.bool v):=by
 refine A6 Apq (Nat.le_of_ble_eq_true rfl) ?_
 unfold Hh at h
 refine Br.on h (fun p1 h=> ?_) (fun p1 h=> ?_)
 ·refine Cells.lit rfl rfl<|Br.yes<|Br.yes<|Br.yes<|CallQ.o V.bool (by rfl) h (fun r h=>Rj h) (fun r2 h=> ?_)
  refine Br.yes ?_
  cases h;exact (by rfl)
 refine Br.no<|Br.no<|Br.no<|Br.no ?_
 cases h;exact (by rfl)
noncomputable def Fk (o0:(List (List Bool))) (next0:(List Int)):Option Int:=
 (Ln ((↑o0.length:Int)) (fun w_0 w_1=>Fs w_0 w_1 (next0) (o0))).bind fun r1=>
 some r1
theorem Sx {o0:(List (List Bool))} {next0:(List Int)} {v:Int} (h:Fk o0 next0=some v):Ret Try.prog In [(slr false 1 (slr false 1 V.bool)) o0,(slr false 1 Af) next0] (Af v):=by
 refine A6 Ad6 (Nat.le_of_ble_eq_true rfl) ?_
 unfold Fk at h
 refine Cells.lit rfl rfl<|Len.map<|CallQ.rd Af (by rfl) (fun _=>rfl) h (fun r h=>Aol (f_less0:=Hw) (c_less0:=[(rP false (slr false 1 Af)) (next0),(rP false (slr false 1 (slr false 1 V.bool))) (o0)]) (fun w_0 w_1 v h=>Ret.cast (by rfl) (Abk h)) h) (fun r1 h=> ?_)
 cases h;exact (by rfl)
noncomputable def Gn (p0:SPoset) (x4:Int) (_x3:SPoset):(Int×(List Int))→Option ((Int×(List Int)) ⊕ (List Int)):=fun (x6,x5)=>
 if x6<(↑p0.Below.length:Int) then
 (Gc (p0) (x4) (x6)).bind fun r3=>
 if (r3)=true then
 ask ((x5).length+([x6]).length≤LIM) <|
 ask (InI (x6+(1:Int))) <|
 some (.inl (x6+(1:Int),x5++[x6]))
 else
 ask (InI (x6+(1:Int))) <|
 some (.inl (x6+(1:Int),x5))
 else
 some (.inr x5)
def O6 (p0:SPoset) (x4:Int) (x3:SPoset):(Int×(List Int))→St:=fun s=>[(6,A.val (Af s.1)),(5,A.val ((slr true 1 Af) s.2)),(4,A.val (Af (x4))),(3,A.val ((rP true (Ag true)) (x3))),(2,A.val ((rP true (Ag true)) ({ Below:=Ar (List Int) }))),(1,A.val ((rP true (Ag false)) (p0)))]
def We (p0:SPoset) (x4:Int) (x3:SPoset):(List Int)→Tgt
 | s=>((Ex.exit 2),[5,4,3,2,1],[(5,A.val ((slr true 1 Af) s)),(4,A.val (Af (x4))),(3,A.val ((rP true (Ag true)) (x3))),(2,A.val ((rP true (Ag true)) ({ Below:=Ar (List Int) }))),(1,A.val ((rP true (Ag false)) (p0)))])
theorem Aix {p0:SPoset} {x4:Int} {x3:SPoset} (s:(Int×(List Int))) (o:(Int×(List Int)) ⊕ (List Int)) (h:Gn p0 x4 x3 s=some o):vc Try.prog Vu (Cc [6,5,4,3,2,1] (O6 p0 x4 x3) (We p0 x4 x3) o) (O6 p0 x4 x3 s):=by
 obtain ⟨x6,x5⟩:=s
 unfold Gn at h
 try dsimp only at h
 refine Cells.lit rfl rfl<|Len.map<|Br.od h (fun p2 h=> ?_) (fun p2 h=> ?_)
 ·refine Cells.lit rfl rfl<|CallQ.o V.bool (by rfl) h (fun r h=>Rj h) (fun r3 h=> ?_)
  refine Br.ob h (fun p4 h=> ?_) (fun p4 h=> ?_)
  ·refine BslQ.o Af [x6] (by exact fun _=>⟨rfl,rfl⟩) (by first | rfl | (simp only [Aa,V.fz,fzL,V.up,upL,Ab,Ac,Ad,slr,List.cons_append,List.nil_append];done) | simp [Aa,V.fz,fzL,V.up,upL,Ab,Ac,Ad,slr])<|NoOwn.o (fun _=>rfl)<|AppQ.o (m:=1) Af (by exact fun _=>⟨rfl,rfl⟩) (x5) ([x6]) (by rfl) (by rfl) h fun h=>Ask.o h fun p5 h=> ?_
   cases h;exact ⟨rfl,rfl⟩
  refine Ask.o h fun p6 h=> ?_
  cases h;exact ⟨rfl,rfl⟩
 cases h;exact ⟨rfl,rfl⟩
noncomputable def Gr (p0:SPoset):(Int×SPoset)→Option ((Int×SPoset) ⊕ SPoset):=fun (x4,x3)=>
 if x4<(↑p0.Below.length:Int) then
 (Aj (Gn p0 x4 x3) ((0:Int),Ar Int)).bind fun q7_5=>
 ask ((x3.Below).length+([q7_5]).length≤LIM) <|
 ask (InI (x4+(1:Int))) <|
 some (.inl (x4+(1:Int),{ Below:=x3.Below++[q7_5] }))
 else
 some (.inr x3)
def Qd (p0:SPoset):(Int×SPoset)→St:=fun s=>[(4,A.val (Af s.1)),(3,A.val ((rP true (Ag true)) s.2)),(2,A.val ((rP true (Ag true)) ({ Below:=Ar (List Int) }))),(1,A.val ((rP true (Ag false)) (p0)))]
def Vx (_p0:SPoset):SPoset→Tgt
 | s=>((Ex.exit 0),[3,2],[(3,A.val ((rP true (Ag true)) s)),(2,A.val ((rP true (Ag true)) ({ Below:=Ar (List Int) })))])
theorem Agy {p0:SPoset} (s:(Int×SPoset)) (o:(Int×SPoset) ⊕ SPoset) (h:Gr p0 s=some o):vc Try.prog Wu (Cc [4,3,2,1] (Qd p0) (Vx p0) o) (Qd p0 s):=by
 obtain ⟨x4,x3⟩:=s
 unfold Gr at h
 try dsimp only at h
 refine Cells.lit rfl rfl<|Len.map<|Br.od h (fun p1 h=> ?_) (fun p1 h=> ?_)
 ·refine BslQ.o Af (Ar Int) (by exact fun _=>⟨rfl,rfl⟩) (by first | rfl | (simp only [Aa,V.fz,fzL,V.up,upL,Ab,Ac,Ad,slr,List.cons_append,List.nil_append];done) | simp [Aa,V.fz,fzL,V.up,upL,Ab,Ac,Ad,slr])<|LoopQ.o [6,5,4,3,2,1] (O6 p0 x4 x3) (We p0 x4 x3) h (fun s o h=>Aix s o h) (by rfl) (fun _=>rfl) ?_
  rintro q7_5 h
  try dsimp only at h
  refine Cells.lit rfl rfl<|BslQ.o (slr true 1 Af) [q7_5] (by exact fun _=>⟨rfl,rfl⟩) (by first | rfl | (simp only [Aa,V.fz,fzL,V.up,upL,Ab,Ac,Ad,slr,List.cons_append,List.nil_append];done) | simp [Aa,V.fz,fzL,V.up,upL,Ab,Ac,Ad,slr])<|NoOwn.own rfl<|Kid.lit rfl rfl<|Kid.lit rfl rfl<|SetKids.lit rfl<|AppQ.o (m:=1) (slr true 1 Af) (by exact fun _=>⟨rfl,rfl⟩) (x3.Below) ([q7_5]) (by rfl) (by rfl) h fun h=>SetKids.lit rfl<|Ask.o h fun p8 h=> ?_
  cases h;exact ⟨rfl,rfl⟩
 cases h;exact ⟨rfl,rfl⟩
noncomputable def Ku (p0:SPoset):Option SPoset:=
 (Aj (Gr p0) ((0:Int),{ Below:=Ar (List Int) })).bind fun q9_3=>
 some q9_3
theorem Anq {p0:SPoset} {v:SPoset} (h:Ku p0=some v):Ret Try.prog T4 [(Ag false) p0] ((Ag true) v):=by
 refine A6 Aov (Nat.le_of_ble_eq_true rfl) ?_
 unfold Ku at h
 refine BslQ.o (slr true 1 Af) (Ar (List Int)) (by exact fun _=>⟨rfl,rfl⟩) (by first | rfl | (simp only [Aa,V.fz,fzL,V.up,upL,Ab,Ac,Ad,slr,List.cons_append,List.nil_append];done) | simp [Aa,V.fz,fzL,V.up,upL,Ab,Ac,Ad,slr])<|SetKids.lit rfl<|LoopQ.o [4,3,2,1] (Qd p0) (Vx p0) h (fun s o h=>Agy s o h) (by rfl) (fun _=>rfl) ?_
 rintro q9_3 h
 try dsimp only at h
 refine Cells.lit rfl rfl<|SetKids.lit rfl ?_
 cases h;exact (by rfl)
end Go.Proofs.Ytpfikenknmlajaa.Ax
