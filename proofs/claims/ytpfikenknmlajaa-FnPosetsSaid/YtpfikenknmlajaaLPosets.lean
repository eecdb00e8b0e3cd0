/-
 What the functions compute, as functions on plain data, and that the program does compute it; written by program.
-/
import Derived.Test.YtpfikenknmlajaaCode
import Derived.Test.YtpfikenknmlajaaG1
import Derived.Test.YtpfikenknmlajaaG5
import Derived.Test.YtpfikenknmlajaaG7
import Derived.Test.YtpfikenknmlajaaG8
import Derived.Test.YtpfikenknmlajaaG9
import Derived.Test.YtpfikenknmlajaaG11
import Derived.Test.YtpfikenknmlajaaG12
import Derived.Test.YtpfikenknmlajaaG13
import Derived.Test.YtpfikenknmlajaaG15
namespace Go.Proofs.Ytpfikenknmlajaa.Ax
open Go
set_option maxRecDepth 100000
set_option maxHeartbeats 4000000
noncomputable def Ei (r3:SPoset) (r4:List (List Int)×Bool) (_r10:List Int×Bool) (x14:Int):(Int×(List Int))→Option ((Int×(List Int)) ⊕ (Unit ⊕ (List Int))):=fun (x15,x13')=>
 ask ((0:Int)≤x14∧x14<(↑r4.fst.length:Int)) <|
 if x15<(↑(nth r4.fst x14.toNat).length:Int) then
 ask ((0:Int)≤x14∧x14<(↑r4.fst.length:Int)) <|
 ask ((0:Int)≤x15∧x15<(↑(nth r4.fst x14.toNat).length:Int)) <|
 ask ((0:Int)≤x14∧x14<(↑r4.fst.length:Int)) <|
 ask ((0:Int)≤x15∧x15<(↑(nth r4.fst x14.toNat).length:Int)) <|
 ask ((0:Int)≤nth (nth r4.fst x14.toNat) x15.toNat∧nth (nth r4.fst x14.toNat) x15.toNat<(↑x13'.length:Int)) <|
 ask (InI (nth x13' (nth (nth r4.fst x14.toNat) x15.toNat).toNat+(1:Int))) <|
 ask ((0:Int)≤nth (nth r4.fst x14.toNat) x15.toNat∧nth (nth r4.fst x14.toNat) x15.toNat<(↑x13'.length:Int)) <|
 if x15>(0:Int) then
 ask ((0:Int)≤x14∧x14<(↑r4.fst.length:Int)) <|
 ask (InI (x15-(1:Int))) <|
 ask ((0:Int)≤x15-(1:Int)∧x15-(1:Int)<(↑(nth r4.fst x14.toNat).length:Int)) <|
 ask ((0:Int)≤x14∧x14<(↑r4.fst.length:Int)) <|
 ask ((0:Int)≤x15∧x15<(↑(nth r4.fst x14.toNat).length:Int)) <|
 (J3 (r3) (nth (nth r4.fst x14.toNat) (x15-(1:Int)).toNat) (nth (nth r4.fst x14.toNat) x15.toNat)).bind fun r35=>
 if (r35.snd)=true then
 if (r35.fst)=true then
 ask (InI (x15+(1:Int))) <|
 some (.inl (x15+(1:Int),x13'.set (nth (nth r4.fst x14.toNat) x15.toNat).toNat (nth x13' (nth (nth r4.fst x14.toNat) x15.toNat).toNat+(1:Int))))
 else
 some (.inr (.inl ()))
 else
 some (.inr (.inl ()))
 else
 ask (InI (x15+(1:Int))) <|
 some (.inl (x15+(1:Int),x13'.set (nth (nth r4.fst x14.toNat) x15.toNat).toNat (nth x13' (nth (nth r4.fst x14.toNat) x15.toNat).toNat+(1:Int))))
 else
 some (.inr (.inr x13'))
def M9 (r3:SPoset) (r4:List (List Int)×Bool) (r10:List Int×Bool) (x14:Int):(Int×(List Int))→St:=fun s=>[(15,A.val (Af s.1)),(14,A.val (Af (x14))),(13,A.val ((slr true 1 Af) s.2)),(12,A.val (Af ((↑r3.Below.length:Int)))),(8,A.val ((slr true 1 Af) (r10.fst))),(4,A.val ((slr true 1 (slr true 1 Af)) (r4.fst))),(3,A.val ((rP true (Ag false)) (r3)))]
def Tv (r3:SPoset) (r4:List (List Int)×Bool) (r10:List Int×Bool) (x14:Int):(Unit ⊕ (List Int))→Tgt
 | (.inl _s)=>(Ex.ret,[2],[(2,A.val (V.bool (false)))])
 | (.inr s)=>((Ex.exit 2),[14,13,12,8,4,3],[(14,A.val (Af (x14))),(13,A.val ((slr true 1 Af) s)),(12,A.val (Af ((↑r3.Below.length:Int)))),(8,A.val ((slr true 1 Af) (r10.fst))),(4,A.val ((slr true 1 (slr true 1 Af)) (r4.fst))),(3,A.val ((rP true (Ag false)) (r3)))])
theorem Af6 {r3:SPoset} {r4:List (List Int)×Bool} {r10:List Int×Bool} {x14:Int} (s:(Int×(List Int))) (o:(Int×(List Int)) ⊕ (Unit ⊕ (List Int))) (h:Ei r3 r4 r10 x14 s=some o):vc Try.prog Uc (Cc [15,14,13,12,8,4,3] (M9 r3 r4 r10 x14) (Tv r3 r4 r10 x14) o) (M9 r3 r4 r10 x14 s):=by
 obtain ⟨x15,x13'⟩:=s
 unfold Ei at h
 try dsimp only at h
 refine Len.map<|Ask.o h fun p20 h=>Cells.one (fun _=>⟨rfl,rfl⟩) (by first | omega | (simp [Ak] at * <;> omega))<|Kid.one (fun _=>⟨rfl,rfl⟩) (by first | omega | (simp [Ak] at * <;> omega))<|Len.map<|Br.od h (fun p21 h=> ?_) (fun p21 h=> ?_)
 ·refine Len.map<|Ask.o h fun p22 h=>Cells.one (fun _=>⟨rfl,rfl⟩) (by first | omega | (simp [Ak] at * <;> omega))<|Kid.one (fun _=>⟨rfl,rfl⟩) (by first | omega | (simp [Ak] at * <;> omega))<|Len.map<|Ask.o h fun p23 h=>Kid.one (fun _=>⟨rfl,rfl⟩) (by first | omega | (simp [Ak] at * <;> omega))<|Cells.one (fun _=>⟨rfl,rfl⟩) (by first | omega | (simp [Ak] at * <;> omega))<|Len.map<|Ask.o h fun p24 h=>Cells.one (fun _=>⟨rfl,rfl⟩) (by first | omega | (simp [Ak] at * <;> omega))<|Kid.one (fun _=>⟨rfl,rfl⟩) (by first | omega | (simp [Ak] at * <;> omega))<|Len.map<|Ask.o h fun p25 h=>Kid.one (fun _=>⟨rfl,rfl⟩) (by first | omega | (simp [Ak] at * <;> omega))<|Cells.one (fun _=>⟨rfl,rfl⟩) (by first | omega | (simp [Ak] at * <;> omega))<|Len.map<|Ask.o h fun p26 h=>Cells.one (fun _=>⟨rfl,rfl⟩) (by first | omega | (simp [Ak] at * <;> omega))<|Ask.o h fun p27 h=>Len.map<|Ask.o h fun p28 h=>SetKids.one (fun _=>⟨rfl,rfl⟩) (nth x13' (nth (nth r4.fst x14.toNat) x15.toNat).toNat+(1:Int)) (by rfl) (by first | omega | (simp [Ak] at * <;> omega))<|Br.od h (fun p29 h=> ?_) (fun p29 h=> ?_)
  ·refine Cells.lit rfl rfl<|Len.map<|Ask.o h fun p30 h=>Cells.one (fun _=>⟨rfl,rfl⟩) (by first | omega | (simp [Ak] at * <;> omega))<|Ask.o h fun p31 h=>Kid.one (fun _=>⟨rfl,rfl⟩) (by first | omega | (simp [Ak] at * <;> omega))<|Len.map<|Ask.o h fun p32 h=>Kid.one (fun _=>⟨rfl,rfl⟩) (by first | omega | (simp [Ak] at * <;> omega))<|Cells.one (fun _=>⟨rfl,rfl⟩) (by first | omega | (simp [Ak] at * <;> omega))<|Len.map<|Ask.o h fun p33 h=>Cells.one (fun _=>⟨rfl,rfl⟩) (by first | omega | (simp [Ak] at * <;> omega))<|Kid.one (fun _=>⟨rfl,rfl⟩) (by first | omega | (simp [Ak] at * <;> omega))<|Len.map<|Ask.o h fun p34 h=>Kid.one (fun _=>⟨rfl,rfl⟩) (by first | omega | (simp [Ak] at * <;> omega))<|Cells.one (fun _=>⟨rfl,rfl⟩) (by first | omega | (simp [Ak] at * <;> omega))<|CallP.o (fun r=>V.tup [V.bool r.1,V.bool r.2]) (by rfl) h (fun r h=>Alv h) (fun r35 h=> ?_)
   refine Br.flip<|Br.ob h (fun p36 h=> ?_) (fun p36 h=> ?_)
   ·refine Br.no<|Br.no<|Br.flip<|Br.ob h (fun p37 h=> ?_) (fun p37 h=> ?_)
    ·refine Ask.o h fun p38 h=> ?_
     cases h;exact ⟨rfl,rfl⟩
    cases h;exact ⟨rfl,rfl⟩
   refine Br.yes<|Br.yes<|Br.yes ?_
   cases h;exact ⟨rfl,rfl⟩
  refine Ask.o h fun p39 h=> ?_
  cases h;exact ⟨rfl,rfl⟩
 cases h;exact ⟨rfl,rfl⟩
noncomputable def Ek (r3:SPoset) (r4:List (List Int)×Bool) (r10:List Int×Bool):(Int×(List Int))→Option ((Int×(List Int)) ⊕ (Unit ⊕ (List Int))):=fun (x14,x13)=>
 if x14<(↑r4.fst.length:Int) then
 (Aj (Ei r3 r4 r10 x14) ((0:Int),x13)).bind fun t=>match t with
 | (.inl _)=>(some (.inr (.inl ())))
 | (.inr q40_13)=>(ask (InI (x14+(1:Int))) <|
 some (.inl (x14+(1:Int),q40_13)))
 else
 some (.inr (.inr x13))
def Na (r3:SPoset) (r4:List (List Int)×Bool) (r10:List Int×Bool):(Int×(List Int))→St:=fun s=>[(14,A.val (Af s.1)),(13,A.val ((slr true 1 Af) s.2)),(12,A.val (Af ((↑r3.Below.length:Int)))),(8,A.val ((slr true 1 Af) (r10.fst))),(4,A.val ((slr true 1 (slr true 1 Af)) (r4.fst))),(3,A.val ((rP true (Ag false)) (r3)))]
def U6 (r3:SPoset) (r4:List (List Int)×Bool) (r10:List Int×Bool):(Unit ⊕ (List Int))→Tgt
 | (.inl _s)=>(Ex.ret,[2],[(2,A.val (V.bool (false)))])
 | (.inr s)=>((Ex.exit 0),[13,12,8,4,3],[(13,A.val ((slr true 1 Af) s)),(12,A.val (Af ((↑r3.Below.length:Int)))),(8,A.val ((slr true 1 Af) (r10.fst))),(4,A.val ((slr true 1 (slr true 1 Af)) (r4.fst))),(3,A.val ((rP true (Ag false)) (r3)))])
theorem Ae9 {r3:SPoset} {r4:List (List Int)×Bool} {r10:List Int×Bool} (s:(Int×(List Int))) (o:(Int×(List Int)) ⊕ (Unit ⊕ (List Int))) (h:Ek r3 r4 r10 s=some o):vc Try.prog Ub (Cc [14,13,12,8,4,3] (Na r3 r4 r10) (U6 r3 r4 r10) o) (Na r3 r4 r10 s):=by
 obtain ⟨x14,x13⟩:=s
 unfold Ek at h
 try dsimp only at h
 refine Len.map<|Br.od h (fun p19 h=> ?_) (fun p19 h=> ?_)
 ·refine LoopQ.o [15,14,13,12,8,4,3] (M9 r3 r4 r10 x14) (Tv r3 r4 r10 x14) h (fun s o h=>Af6 s o h) (by rfl) (by rintro (_ | _)<;>rfl) ?_
  rintro (⟨⟩ | q40_13) h
  ·try dsimp only at h
   cases h;exact ⟨rfl,rfl⟩
  try dsimp only at h
  refine Ask.o h fun p41 h=> ?_
  cases h;exact ⟨rfl,rfl⟩
 cases h;exact ⟨rfl,rfl⟩
noncomputable def Ed (r3:SPoset) (_r4:List (List Int)×Bool) (_r10:List Int×Bool) (q42_13:List Int):Int→Option (Int ⊕ (Unit ⊕ Unit)):=fun x18=>
 if x18<(↑r3.Below.length:Int) then
 ask ((0:Int)≤x18∧x18<(↑q42_13.length:Int)) <|
 if nth q42_13 x18.toNat≠(1:Int) then
 some (.inr (.inl ()))
 else
 ask (InI (x18+(1:Int))) <|
 some (.inl (x18+(1:Int)))
 else
 some (.inr (.inr ()))
def M0 (r3:SPoset) (r4:List (List Int)×Bool) (r10:List Int×Bool) (q42_13:List Int):Int→St:=fun s=>[(18,A.val (Af s)),(13,A.val ((slr true 1 Af) (q42_13))),(12,A.val (Af ((↑r3.Below.length:Int)))),(8,A.val ((slr true 1 Af) (r10.fst))),(4,A.val ((slr true 1 (slr true 1 Af)) (r4.fst))),(3,A.val ((rP true (Ag false)) (r3)))]
def U3 (r3:SPoset) (r4:List (List Int)×Bool) (r10:List Int×Bool) (_q42_13:List Int):(Unit ⊕ Unit)→Tgt
 | (.inl _s)=>(Ex.ret,[2],[(2,A.val (V.bool (false)))])
 | (.inr _s)=>((Ex.exit 4),[12,8,4,3],[(12,A.val (Af ((↑r3.Below.length:Int)))),(8,A.val ((slr true 1 Af) (r10.fst))),(4,A.val ((slr true 1 (slr true 1 Af)) (r4.fst))),(3,A.val ((rP true (Ag false)) (r3)))])
theorem Agg {r3:SPoset} {r4:List (List Int)×Bool} {r10:List Int×Bool} {q42_13:List Int} (x18:Int) (o:Int ⊕ (Unit ⊕ Unit)) (h:Ed r3 r4 r10 q42_13 x18=some o):vc Try.prog Uw (Cc [18,13,12,8,4,3] (M0 r3 r4 r10 q42_13) (U3 r3 r4 r10 q42_13) o) (M0 r3 r4 r10 q42_13 x18):=by
 unfold Ed at h
 try dsimp only at h
 refine Br.od h (fun p43 h=> ?_) (fun p43 h=> ?_)
 ·refine Len.map<|Ask.o h fun p44 h=>Cells.one (fun _=>⟨rfl,rfl⟩) (by first | omega | (simp [Ak] at * <;> omega))<|Br.on h (fun p45 h=> ?_) (fun p45 h=> ?_)
  ·cases h;exact ⟨rfl,rfl⟩
  refine Ask.o h fun p46 h=> ?_
  cases h;exact ⟨rfl,rfl⟩
 cases h;exact ⟨rfl,rfl⟩
noncomputable def Dj (r3:SPoset) (r49:List Int×Bool) (_r50:List Int×Bool):(Int×Int)→Option ((Int×Int) ⊕ Int):=fun (x26,x25)=>
 if x26<(↑r3.Below.length:Int) then
 ask ((0:Int)≤x26∧x26<(↑r49.fst.length:Int)) <|
 ask (InI (nth r49.fst x26.toNat+(1:Int))) <|
 if nth r49.fst x26.toNat+(1:Int)>x25 then
 ask ((0:Int)≤x26∧x26<(↑r49.fst.length:Int)) <|
 ask (InI (nth r49.fst x26.toNat+(1:Int))) <|
 ask (InI (x26+(1:Int))) <|
 some (.inl (x26+(1:Int),nth r49.fst x26.toNat+(1:Int)))
 else
 ask (InI (x26+(1:Int))) <|
 some (.inl (x26+(1:Int),x25))
 else
 some (.inr x25)
def Nc (r3:SPoset) (r49:List Int×Bool) (r50:List Int×Bool):(Int×Int)→St:=fun s=>[(26,A.val (Af s.1)),(25,A.val (Af s.2)),(21,A.val ((slr true 1 Af) (r50.fst))),(19,A.val ((slr true 1 Af) (r49.fst))),(12,A.val (Af ((↑r3.Below.length:Int)))),(3,A.val ((rP true (Ag false)) (r3)))]
def T8 (r3:SPoset) (_r49:List Int×Bool) (r50:List Int×Bool):Int→Tgt
 | s=>((Ex.exit 6),[25,21,12,3],[(25,A.val (Af s)),(21,A.val ((slr true 1 Af) (r50.fst))),(12,A.val (Af ((↑r3.Below.length:Int)))),(3,A.val ((rP true (Ag false)) (r3)))])
theorem Af3 {r3:SPoset} {r49:List Int×Bool} {r50:List Int×Bool} (s:(Int×Int)) (o:(Int×Int) ⊕ Int) (h:Dj r3 r49 r50 s=some o):vc Try.prog Uk (Cc [26,25,21,19,12,3] (Nc r3 r49 r50) (T8 r3 r49 r50) o) (Nc r3 r49 r50 s):=by
 obtain ⟨x26,x25⟩:=s
 unfold Dj at h
 try dsimp only at h
 refine Br.od h (fun p59 h=> ?_) (fun p59 h=> ?_)
 ·refine Len.map<|Ask.o h fun p60 h=>Cells.one (fun _=>⟨rfl,rfl⟩) (by first | omega | (simp [Ak] at * <;> omega))<|Ask.o h fun p61 h=>Br.od h (fun p62 h=> ?_) (fun p62 h=> ?_)
  ·refine Len.map<|Ask.o h fun p63 h=>Cells.one (fun _=>⟨rfl,rfl⟩) (by first | omega | (simp [Ak] at * <;> omega))<|Ask.o h fun p64 h=>Ask.o h fun p65 h=> ?_
   cases h;exact ⟨rfl,rfl⟩
  refine Ask.o h fun p66 h=> ?_
  cases h;exact ⟨rfl,rfl⟩
 cases h;exact ⟨rfl,rfl⟩
noncomputable def Mx (code0:(List Int)):Option Bool:=
 (Wy (code0)).bind fun r1=>
 if (r1)=true then
 some true
 else
 (Em (code0)).bind fun r3=>
 (D3 (r3)).bind fun r4=>
 (((D1 (r3)).bind fun r5=>
 if (r4.snd==r5.snd)=true then
 (G8 (r4.fst) (r5.fst)).bind fun r7=>
 if (r7)=true then
 some (.inl ())
 else
 some (.inr ())
 else
 some (.inr ()):Option (Unit ⊕ Unit))).bind fun t=>match t with
 | (.inl _)=>((Cr (r3)).bind fun r10=>
 (((Cm (r3)).bind fun r11=>
 if (r10.snd==r11.snd)=true then
 if (r10.snd==r4.snd)=true then
 (Ic (r10.fst) (r11.fst)).bind fun r14=>
 if (r14)=true then
 some (.inl ())
 else
 some (.inr ())
 else
 some (.inr ())
 else
 some (.inr ()):Option (Unit ⊕ Unit))).bind fun t=>match t with
 | (.inl _)=>(if (r4.snd)=true then
 ask ((0:Int)≤(↑r3.Below.length:Int)∧(↑r3.Below.length:Int)≤(↑LIM:Int)) <|
 (Aj (Ek r3 r4 r10) ((0:Int),List.replicate (↑r3.Below.length:Int).toNat (0:Int))).bind fun t=>match t with
 | (.inl _)=>(some false)
 | (.inr q42_13)=>((Aj (Ed r3 r4 r10 q42_13) (0:Int)).bind fun t=>match t with
 | (.inl _)=>(some false)
 | (.inr _)=>(if (↑r10.fst.length:Int)≠(↑r4.fst.length:Int) then
 some false
 else
 (I0 (r3)).bind fun r49=>
 (G3 (r3)).bind fun r50=>
 (((Gz (r3)).bind fun r51=>
 if (r50.snd==r51.snd)=true then
 if (r49.snd)=true then
 if (r50.snd)=true then
 (Ic (r50.fst) (r51.fst)).bind fun r55=>
 if (r55)=true then
 if (↑r49.fst.length:Int)≠(↑r3.Below.length:Int) then
 some (.inl ())
 else
 some (.inr ())
 else
 some (.inl ())
 else
 some (.inl ())
 else
 some (.inl ())
 else
 some (.inl ()):Option (Unit ⊕ Unit))).bind fun t=>match t with
 | (.inl _)=>(some false)
 | (.inr _)=>((Aj (Dj r3 r49 r50) ((0:Int),(0:Int))).bind fun q67_25=>
 if (↑r50.fst.length:Int)≠q67_25 then
 some false
 else
 (Ih (r3)).bind fun r69=>
 (H8 ((↑r3.Below.length:Int)) (r69.fst)).bind fun r70=>
 ((if (r69.snd)=true then
 if (r70.snd)=true then
 (G8 (r70.fst.Below) (r3.Below)).bind fun r73=>
 if (r73)=true then
 some (.inl ())
 else
 some (.inr ())
 else
 some (.inr ())
 else
 some (.inr ()):Option (Unit ⊕ Unit))).bind fun t=>match t with
 | (.inl _)=>((Hd (r3)).bind fun r76=>
 (Hd (r76.fst)).bind fun r77=>
 ((if (r76.snd)=true then
 if (r77.snd)=true then
 (G8 (r77.fst.Below) (r3.Below)).bind fun r80=>
 if (r80)=true then
 some (.inl ())
 else
 some (.inr ())
 else
 some (.inr ())
 else
 some (.inr ()):Option (Unit ⊕ Unit))).bind fun t=>match t with
 | (.inl _)=>((Bx (r3)).bind fun r83=>
 (Bx (r76.fst)).bind fun r84=>
 (((Eu (r3)).bind fun r85=>
 if r83.fst≠r85.fst then
 some (.inl ())
 else
 if (r83.snd==r85.snd)=true then
 if (r83.snd)=true then
 if (r84.snd)=true then
 if r83.fst≠r84.fst then
 some (.inl ())
 else
 if r83.fst<(1:Int) then
 some (.inl ())
 else
 some (.inr ())
 else
 some (.inl ())
 else
 some (.inl ())
 else
 some (.inl ()):Option (Unit ⊕ Unit))).bind fun t=>match t with
 | (.inl _)=>(some false)
 | (.inr _)=>((Ds (r3)).bind fun r93=>
 (Dt (r76.fst)).bind fun r94=>
 if (r93.snd)=true then
 if (r94.snd)=true then
 (Ic (r93.fst) (r94.fst)).bind fun r97=>
 some r97
 else
 some false
 else
 some false))
 | (.inr _)=>(some false))
 | (.inr _)=>(some false))))
 else
 (Lq (r3)).bind fun r98=>
 some !r98)
 | (.inr _)=>(some false))
 | (.inr _)=>(some false)
theorem Al1 {code0:(List Int)} {v:Bool} (h:Mx code0=some v):Ret Try.prog Abe [(slr false 1 (V.int IntKind.u8)) code0] (V.bool v):=by
 refine A6 Aln (Nat.le_of_ble_eq_true rfl) ?_
 unfold Mx at h
 refine CallQ.o V.bool (by rfl) h (fun r h=>Av6 h) (fun r1 h=> ?_)
 refine Br.ob h (fun p2 h=> ?_) (fun p2 h=> ?_)
 ·cases h;exact (by rfl)
 refine CallQ.o (Ag false) (by rfl) h (fun r h=>Yt h) (fun r3 h=> ?_)
 refine SetKids.lit rfl<|Cells.lit rfl rfl<|CallQ.o (fun r=>V.tup [(slr true 1 (slr true 1 Af)) r.1,V.bool r.2]) (by rfl) h (fun r h=>Aef h) (fun r4 h=> ?_)
 refine CutQ.o (fun t:(Unit ⊕ Unit)=>match t with | (.inl s)=>(Ex.normal,[5,4,3],[(5,A.val (V.bool (r4.snd))),(4,A.val ((slr true 1 (slr true 1 Af)) (r4.fst))),(3,A.val ((rP true (Ag false)) (r3)))]) | (.inr s)=>(Ex.ret,[2],[(2,A.val (V.bool (false)))])) h ?_ ?_
 ·intro t h
  refine Cells.lit rfl rfl<|CallQ.o (fun r=>V.tup [(slr true 1 (slr true 1 Af)) r.1,V.bool r.2]) (by rfl) h (fun r h=>Ad8 h) (fun r5 h=> ?_)
  refine Br.flip<|Br.ob h (fun p6 h=> ?_) (fun p6 h=> ?_)
  ·refine Br.no<|Br.no<|CallQ.rd V.bool (by first | rfl | simp only [V.fz,Ab,slr] | simp [Aa,V.fz,fzL,V.up,upL,Ab,Ac,Ad,slr]) (fun _=>rfl) h (fun r h=>Xl h) (fun r7 h=> ?_)
   refine Br.no<|Br.no<|Br.flip<|Br.ob h (fun p8 h=> ?_) (fun p8 h=> ?_)
   ·cases h;exact ⟨rfl,rfl⟩
   cases h;exact ⟨rfl,rfl⟩
  refine Br.yes<|Br.yes<|Br.yes<|Br.yes<|Br.yes ?_
  cases h;exact ⟨rfl,rfl⟩
 rintro (⟨⟩ | ⟨⟩) h
 ·try dsimp only at h
  refine Cells.lit rfl rfl<|CallQ.o (fun r=>V.tup [(slr true 1 Af) r.1,V.bool r.2]) (by rfl) h (fun r h=>Y3 h) (fun r10 h=> ?_)
  refine CutQ.o (fun t:(Unit ⊕ Unit)=>match t with | (.inl s)=>(Ex.normal,[8,5,4,3],[(8,A.val ((slr true 1 Af) (r10.fst))),(5,A.val (V.bool (r4.snd))),(4,A.val ((slr true 1 (slr true 1 Af)) (r4.fst))),(3,A.val ((rP true (Ag false)) (r3)))]) | (.inr s)=>(Ex.ret,[2],[(2,A.val (V.bool (false)))])) h ?_ ?_
  ·intro t h
   refine Cells.lit rfl rfl<|CallQ.o (fun r=>V.tup [(slr true 1 Af) r.1,V.bool r.2]) (by rfl) h (fun r h=>X5 h) (fun r11 h=> ?_)
   refine Br.flip<|Br.ob h (fun p12 h=> ?_) (fun p12 h=> ?_)
   ·refine Br.no<|Br.no<|Br.no<|Br.flip<|Br.ob h (fun p13 h=> ?_) (fun p13 h=> ?_)
    ·refine Br.no<|Br.no<|CallQ.rd V.bool (by first | rfl | simp only [V.fz,Ab,slr] | simp [Aa,V.fz,fzL,V.up,upL,Ab,Ac,Ad,slr]) (fun _=>rfl) h (fun r h=>S8 h) (fun r14 h=> ?_)
     refine Br.no<|Br.no<|Br.flip<|Br.ob h (fun p15 h=> ?_) (fun p15 h=> ?_)
     ·cases h;exact ⟨rfl,rfl⟩
     cases h;exact ⟨rfl,rfl⟩
    refine Br.yes<|Br.yes<|Br.yes<|Br.yes<|Br.yes ?_
    cases h;exact ⟨rfl,rfl⟩
   refine Br.yes<|Br.yes<|Br.yes<|Br.yes<|Br.yes<|Br.yes<|Br.yes<|Br.yes<|Br.yes ?_
   cases h;exact ⟨rfl,rfl⟩
  rintro (⟨⟩ | ⟨⟩) h
  ·try dsimp only at h
   refine Br.flip<|Br.ob h (fun p17 h=> ?_) (fun p17 h=> ?_)
   ·refine Cells.lit rfl rfl<|Len.map<|Ask.o h fun p18 h=>MkQ.o Af ((0:Int)) rfl<|LoopQ.o [14,13,12,8,4,3] (Na r3 r4 r10) (U6 r3 r4 r10) h (fun s o h=>Ae9 s o h) (by rfl) (by rintro (_ | _)<;>rfl) ?_
    rintro (⟨⟩ | q42_13) h
    ·try dsimp only at h
     cases h;exact (by rfl)
    try dsimp only at h
    refine LoopQ.o [18,13,12,8,4,3] (M0 r3 r4 r10 q42_13) (U3 r3 r4 r10 q42_13) h (fun s o h=>Agg s o h) (by rfl) (by rintro (_ | _)<;>rfl) ?_
    rintro (⟨⟩ | ⟨⟩) h
    ·try dsimp only at h
     cases h;exact (by rfl)
    try dsimp only at h
    refine Len.map<|Len.map<|Br.on h (fun p48 h=> ?_) (fun p48 h=> ?_)
    ·cases h;exact (by rfl)
    refine Cells.lit rfl rfl<|CallQ.o (fun r=>V.tup [(slr true 1 Af) r.1,V.bool r.2]) (by rfl) h (fun r h=>Aju h) (fun r49 h=> ?_)
    refine Cells.lit rfl rfl<|CallQ.o (fun r=>V.tup [(slr true 1 Af) r.1,V.bool r.2]) (by rfl) h (fun r h=>Aec h) (fun r50 h=> ?_)
    refine CutQ.o (fun t:(Unit ⊕ Unit)=>match t with | (.inl s)=>(Ex.ret,[2],[(2,A.val (V.bool (false)))]) | (.inr s)=>(Ex.normal,[21,19,12,3],[(21,A.val ((slr true 1 Af) (r50.fst))),(19,A.val ((slr true 1 Af) (r49.fst))),(12,A.val (Af ((↑r3.Below.length:Int)))),(3,A.val ((rP true (Ag false)) (r3)))])) h ?_ ?_
    ·intro t h
     refine Cells.lit rfl rfl<|CallQ.o (fun r=>V.tup [(slr true 1 Af) r.1,V.bool r.2]) (by rfl) h (fun r h=>Adx h) (fun r51 h=> ?_)
     refine Br.flip<|Br.ob h (fun p52 h=> ?_) (fun p52 h=> ?_)
     ·refine Br.no<|Br.no<|Br.flip<|Br.ob h (fun p53 h=> ?_) (fun p53 h=> ?_)
      ·refine Br.no<|Br.no<|Br.flip<|Br.ob h (fun p54 h=> ?_) (fun p54 h=> ?_)
       ·refine Br.no<|Br.no<|CallQ.rd V.bool (by first | rfl | simp only [V.fz,Ab,slr] | simp [Aa,V.fz,fzL,V.up,upL,Ab,Ac,Ad,slr]) (fun _=>rfl) h (fun r h=>S8 h) (fun r55 h=> ?_)
        refine Br.no<|Br.no<|Br.flip<|Br.ob h (fun p56 h=> ?_) (fun p56 h=> ?_)
        ·refine Br.no<|Len.map<|Br.no<|Br.no<|Br.no<|Br.on h (fun p57 h=> ?_) (fun p57 h=> ?_)
         ·cases h;exact ⟨rfl,rfl⟩
         cases h;exact ⟨rfl,rfl⟩
        refine Br.yes<|Br.yes<|Br.yes<|Br.yes<|Br.yes ?_
        cases h;exact ⟨rfl,rfl⟩
       refine Br.yes<|Br.yes<|Br.yes<|Br.yes<|Br.yes<|Br.yes<|Br.yes<|Br.yes<|Br.yes<|Br.yes ?_
       cases h;exact ⟨rfl,rfl⟩
      refine Br.yes<|Br.yes<|Br.yes<|Br.yes<|Br.yes<|Br.yes<|Br.yes<|Br.yes<|Br.yes<|Br.yes<|Br.yes<|Br.yes<|Br.yes ?_
      cases h;exact ⟨rfl,rfl⟩
     refine Br.yes<|Br.yes<|Br.yes<|Br.yes<|Br.yes<|Br.yes<|Br.yes<|Br.yes<|Br.yes<|Br.yes<|Br.yes<|Br.yes<|Br.yes<|Br.yes<|Br.yes<|Br.yes ?_
     cases h;exact ⟨rfl,rfl⟩
    rintro (⟨⟩ | ⟨⟩) h
    ·try dsimp only at h
     cases h;exact (by rfl)
    try dsimp only at h
    refine LoopQ.o [26,25,21,19,12,3] (Nc r3 r49 r50) (T8 r3 r49 r50) h (fun s o h=>Af3 s o h) (by rfl) (fun _=>rfl) ?_
    rintro q67_25 h
    try dsimp only at h
    refine Len.map<|Br.on h (fun p68 h=> ?_) (fun p68 h=> ?_)
    ·cases h;exact (by rfl)
    refine Cells.lit rfl rfl<|CallQ.o (fun r=>V.tup [(slr true 2 (rA2 Af)) r.1,V.bool r.2]) (by rfl) h (fun r h=>Agm h) (fun r69 h=> ?_)
    refine CallQ.rd (fun r=>V.tup [(Ag true) r.1,V.bool r.2]) (by first | rfl | simp only [V.fz,V.up,Ab,Ad,slr] | simp [Aa,V.fz,fzL,V.up,upL,Ab,Ac,Ad,slr]) (fun _=>by simp [V.noFz,Ct,Cu]) h (fun r h=>Ahq h) (fun r70 h=> ?_)
    refine SetKids.lit rfl<|CutQ.o (fun t:(Unit ⊕ Unit)=>match t with | (.inl s)=>(Ex.normal,[3],[(3,A.val ((rP true (Ag false)) (r3)))]) | (.inr s)=>(Ex.ret,[2],[(2,A.val (V.bool (false)))])) h ?_ ?_
    ·intro t h
     refine Br.flip<|Br.ob h (fun p71 h=> ?_) (fun p71 h=> ?_)
     ·refine Br.no<|Br.no<|Br.flip<|Br.ob h (fun p72 h=> ?_) (fun p72 h=> ?_)
      ·refine Br.no<|Cells.lit rfl rfl<|Br.no<|Br.no<|Cells.lit rfl rfl<|Br.no<|Kid.lit rfl rfl<|CallQ.rd V.bool (by first | rfl | simp only [V.fz,Ab,slr] | simp [Aa,V.fz,fzL,V.up,upL,Ab,Ac,Ad,slr]) (fun _=>rfl) h (fun r h=>Xl h) (fun r73 h=> ?_)
       refine Br.no<|Br.no<|Br.flip<|Br.ob h (fun p74 h=> ?_) (fun p74 h=> ?_)
       ·cases h;exact ⟨rfl,rfl⟩
       cases h;exact ⟨rfl,rfl⟩
      refine Br.yes<|Br.yes<|Br.yes<|Br.yes<|Br.yes<|Br.yes<|Br.yes ?_
      cases h;exact ⟨rfl,rfl⟩
     refine Br.yes<|Br.yes<|Br.yes<|Br.yes<|Br.yes<|Br.yes<|Br.yes<|Br.yes<|Br.yes<|Br.yes ?_
     cases h;exact ⟨rfl,rfl⟩
    rintro (⟨⟩ | ⟨⟩) h
    ·try dsimp only at h
     refine Cells.lit rfl rfl<|CallQ.o (fun r=>V.tup [(Ag true) r.1,V.bool r.2]) (by rfl) h (fun r h=>Yx h) (fun r76 h=> ?_)
     refine SetKids.lit rfl<|Cells.lit rfl rfl<|CallQ.rd (fun r=>V.tup [(Ag true) r.1,V.bool r.2]) (by first | rfl | simp only [V.fz,Ab] | simp [Aa,V.fz,fzL,V.up,upL,Ab,Ac,Ad,slr]) (fun _=>by simp [V.noFz,Ct,Cu]) h (fun r h=>Yx h) (fun r77 h=> ?_)
     refine SetKids.lit rfl<|CutQ.o (fun t:(Unit ⊕ Unit)=>match t with | (.inl s)=>(Ex.normal,[31,3],[(31,A.val ((rP true (Ag true)) (r76.fst))),(3,A.val ((rP true (Ag false)) (r3)))]) | (.inr s)=>(Ex.ret,[2],[(2,A.val (V.bool (false)))])) h ?_ ?_
     ·intro t h
      refine Br.flip<|Br.ob h (fun p78 h=> ?_) (fun p78 h=> ?_)
      ·refine Br.no<|Br.no<|Br.flip<|Br.ob h (fun p79 h=> ?_) (fun p79 h=> ?_)
       ·refine Br.no<|Cells.lit rfl rfl<|Br.no<|Br.no<|Cells.lit rfl rfl<|Br.no<|Kid.lit rfl rfl<|CallQ.rd V.bool (by first | rfl | simp only [V.fz,Ab,slr] | simp [Aa,V.fz,fzL,V.up,upL,Ab,Ac,Ad,slr]) (fun _=>rfl) h (fun r h=>Xl h) (fun r80 h=> ?_)
        refine Br.no<|Br.no<|Br.flip<|Br.ob h (fun p81 h=> ?_) (fun p81 h=> ?_)
        ·cases h;exact ⟨rfl,rfl⟩
        cases h;exact ⟨rfl,rfl⟩
       refine Br.yes<|Br.yes<|Br.yes<|Br.yes<|Br.yes<|Br.yes<|Br.yes ?_
       cases h;exact ⟨rfl,rfl⟩
      refine Br.yes<|Br.yes<|Br.yes<|Br.yes<|Br.yes<|Br.yes<|Br.yes<|Br.yes<|Br.yes<|Br.yes ?_
      cases h;exact ⟨rfl,rfl⟩
     rintro (⟨⟩ | ⟨⟩) h
     ·try dsimp only at h
      refine Cells.lit rfl rfl<|CallQ.o (fun r=>V.tup [Af r.1,V.bool r.2]) (by rfl) h (fun r h=>Og h) (fun r83 h=> ?_)
      refine Cells.lit rfl rfl<|CallQ.rd (fun r=>V.tup [Af r.1,V.bool r.2]) (by first | rfl | simp only [V.fz,Ab] | simp [Aa,V.fz,fzL,V.up,upL,Ab,Ac,Ad,slr]) (fun _=>by simp [V.noFz,Ct]) h (fun r h=>Og h) (fun r84 h=> ?_)
      refine CutQ.o (fun t:(Unit ⊕ Unit)=>match t with | (.inl s)=>(Ex.ret,[2],[(2,A.val (V.bool (false)))]) | (.inr s)=>(Ex.normal,[31,3],[(31,A.val ((rP true (Ag true)) (r76.fst))),(3,A.val ((rP true (Ag false)) (r3)))])) h ?_ ?_
      ·intro t h
       refine Cells.lit rfl rfl<|CallQ.o (fun r=>V.tup [Af r.1,V.bool r.2]) (by rfl) h (fun r h=>Z8 h) (fun r85 h=> ?_)
       refine Br.on h (fun p86 h=> ?_) (fun p86 h=> ?_)
       ·refine Br.yes<|Br.yes<|Br.yes<|Br.yes<|Br.yes<|Br.yes<|Br.yes<|Br.yes<|Br.yes<|Br.yes<|Br.yes<|Br.yes<|Br.yes<|Br.yes<|Br.yes<|Br.yes<|Br.yes ?_
        cases h;exact ⟨rfl,rfl⟩
       refine Br.no<|Br.no<|Br.no<|Br.flip<|Br.ob h (fun p87 h=> ?_) (fun p87 h=> ?_)
       ·refine Br.no<|Br.no<|Br.flip<|Br.ob h (fun p88 h=> ?_) (fun p88 h=> ?_)
        ·refine Br.no<|Br.no<|Br.flip<|Br.ob h (fun p89 h=> ?_) (fun p89 h=> ?_)
         ·refine Br.no<|Br.no<|Br.no<|Br.on h (fun p90 h=> ?_) (fun p90 h=> ?_)
          ·refine Br.yes<|Br.yes<|Br.yes ?_
           cases h;exact ⟨rfl,rfl⟩
          refine Br.no<|Br.no<|Br.od h (fun p91 h=> ?_) (fun p91 h=> ?_)
          ·cases h;exact ⟨rfl,rfl⟩
          cases h;exact ⟨rfl,rfl⟩
         refine Br.yes<|Br.yes<|Br.yes<|Br.yes<|Br.yes<|Br.yes<|Br.yes ?_
         cases h;exact ⟨rfl,rfl⟩
        refine Br.yes<|Br.yes<|Br.yes<|Br.yes<|Br.yes<|Br.yes<|Br.yes<|Br.yes<|Br.yes<|Br.yes ?_
        cases h;exact ⟨rfl,rfl⟩
       refine Br.yes<|Br.yes<|Br.yes<|Br.yes<|Br.yes<|Br.yes<|Br.yes<|Br.yes<|Br.yes<|Br.yes<|Br.yes<|Br.yes<|Br.yes ?_
       cases h;exact ⟨rfl,rfl⟩
      rintro (⟨⟩ | ⟨⟩) h
      ·try dsimp only at h
       cases h;exact (by rfl)
      try dsimp only at h
      refine Cells.lit rfl rfl<|CallQ.o (fun r=>V.tup [(slr true 1 Af) r.1,V.bool r.2]) (by rfl) h (fun r h=>Z0 h) (fun r93 h=> ?_)
      refine Cells.lit rfl rfl<|CallQ.rd (fun r=>V.tup [(slr true 1 Af) r.1,V.bool r.2]) (by first | rfl | simp only [V.fz,Ab] | simp [Aa,V.fz,fzL,V.up,upL,Ab,Ac,Ad,slr]) (fun _=>by simp [V.noFz,Ct,Cu]) h (fun r h=>Zw h) (fun r94 h=> ?_)
      refine Br.ob h (fun p95 h=> ?_) (fun p95 h=> ?_)
      ·refine Br.yes<|Br.ob h (fun p96 h=> ?_) (fun p96 h=> ?_)
       ·refine Br.yes<|Br.yes<|CallQ.rd V.bool (by first | rfl | simp only [V.fz,Ab,slr] | simp [Aa,V.fz,fzL,V.up,upL,Ab,Ac,Ad,slr]) (fun _=>rfl) h (fun r h=>S8 h) (fun r97 h=> ?_)
        refine Br.yes ?_
        cases h;exact (by rfl)
       refine Br.no<|Br.no<|Br.no ?_
       cases h;exact (by rfl)
      refine Br.no<|Br.no<|Br.no<|Br.no<|Br.no ?_
      cases h;exact (by rfl)
     try dsimp only at h
     cases h;exact (by rfl)
    try dsimp only at h
    cases h;exact (by rfl)
   refine Cells.lit rfl rfl<|CallQ.o V.bool (by rfl) h (fun r h=>Apd h) (fun r98 h=> ?_)
   cases h;exact (by rfl)
  try dsimp only at h
  cases h;exact (by rfl)
 try dsimp only at h
 cases h;exact (by rfl)
end Go.Proofs.Ytpfikenknmlajaa.Ax
