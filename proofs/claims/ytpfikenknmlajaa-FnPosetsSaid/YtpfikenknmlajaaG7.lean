/-
 What the functions compute, as functions on plain data, and that the program does compute it; written by program.
-/
import Derived.Test.YtpfikenknmlajaaCode
import Derived.Test.YtpfikenknmlajaaG1
import Derived.Test.YtpfikenknmlajaaG5
namespace Go.Proofs.Ytpfikenknmlajaa.Ax
open Go
set_option maxRecDepth 100000
set_option maxHeartbeats 4000000
noncomputable def Bl (r1:List (List Bool)×Bool) (_x7:Int) (_x6:List Int) (r5:List Int) (x52:Int):(Int×Bool)→Option ((Int×Bool) ⊕ Bool):=fun (x58,x9')=>
 if x58<(↑r5.length:Int) then
 ask ((0:Int)≤x58∧x58<(↑r5.length:Int)) <|
 if (x9')=true then
 (Au (r1.fst) (nth r5 x52.toNat) (nth r5 x58.toNat)).bind fun r17=>
 ask (InI (x58+(1:Int))) <|
 some (.inl (x58+(1:Int),!r17))
 else
 ask (InI (x58+(1:Int))) <|
 some (.inl (x58+(1:Int),false))
 else
 some (.inr x9')
def Hk (r1:List (List Bool)×Bool) (x7:Int) (x6:List Int) (r5:List Int) (x52:Int):(Int×Bool)→St:=fun s=>[(58,A.val (Af s.1)),(57,A.val (Af ((↑r5.length:Int)))),(56,A.ref 8 []),(11,A.val (Af (nth r5 x52.toNat))),(52,A.val (Af (x52))),(51,A.val (Af ((↑r5.length:Int)))),(50,A.ref 8 []),(9,A.val (V.bool s.2)),(8,A.val ((slr true 1 Af) (r5))),(7,A.val (Af (x7))),(6,A.val ((slr true 1 Af) (x6))),(4,A.val ((slr true 1 (slr true 1 V.bool)) (r1.fst)))]
def Lr (r1:List (List Bool)×Bool) (x7:Int) (x6:List Int) (r5:List Int) (x52:Int):Bool→Tgt
 | s=>((Ex.exit 4),[52,51,50,9,8,7,6,4],[(52,A.val (Af (x52))),(51,A.val (Af ((↑r5.length:Int)))),(50,A.ref 8 []),(9,A.val (V.bool s)),(8,A.val ((slr true 1 Af) (r5))),(7,A.val (Af (x7))),(6,A.val ((slr true 1 Af) (x6))),(4,A.val ((slr true 1 (slr true 1 V.bool)) (r1.fst)))])
theorem Tn {r1:List (List Bool)×Bool} {x7:Int} {x6:List Int} {r5:List Int} {x52:Int} (s:(Int×Bool)) (o:(Int×Bool) ⊕ Bool) (h:Bl r1 x7 x6 r5 x52 s=some o):vc Try.prog Lj (Cc [58,57,56,11,52,51,50,9,8,7,6,4] (Hk r1 x7 x6 r5 x52) (Lr r1 x7 x6 r5 x52) o) (Hk r1 x7 x6 r5 x52 s):=by
 obtain ⟨x58,x9'⟩:=s
 unfold Bl at h
 try dsimp only at h
 refine Br.od h (fun p14 h=> ?_) (fun p14 h=> ?_)
 ·refine Len.map<|Ask.o h fun p15 h=>Cells.one (fun _=>⟨rfl,rfl⟩) (by first | omega | (simp [Ak] at * <;> omega))<|Br.ob h (fun p16 h=> ?_) (fun p16 h=> ?_)
  ·refine Br.yes<|Br.yes<|Br.yes<|CallQ.rd V.bool (by first | rfl | simp only [Aa,V.fz,V.up,Ab,Ad,slr] | simp [Aa,V.fz,fzL,V.up,upL,Ab,Ac,Ad,slr]) (fun _=>rfl) h (fun r h=>Bo h) (fun r17 h=> ?_)
   refine Br.yes<|Br.yes<|Ask.o h fun p18 h=> ?_
   cases h;exact ⟨rfl,rfl⟩
  refine Br.no<|Br.no<|Br.no<|Br.no<|Br.no<|Ask.o h fun p19 h=> ?_
  cases h;exact ⟨rfl,rfl⟩
 cases h;exact ⟨rfl,rfl⟩
noncomputable def Bi (r1:List (List Bool)×Bool) (x7:Int) (x6:List Int) (r5:List Int):(Int×Bool)→Option ((Int×Bool) ⊕ Bool):=fun (x52,x9)=>
 if x52<(↑r5.length:Int) then
 ask ((0:Int)≤x52∧x52<(↑r5.length:Int)) <|
 (Aj (Bl r1 x7 x6 r5 x52) ((0:Int),x9)).bind fun q20_9=>
 ask (InI (x52+(1:Int))) <|
 some (.inl (x52+(1:Int),q20_9))
 else
 some (.inr x9)
def Ht (r1:List (List Bool)×Bool) (x7:Int) (x6:List Int) (r5:List Int):(Int×Bool)→St:=fun s=>[(52,A.val (Af s.1)),(51,A.val (Af ((↑r5.length:Int)))),(50,A.ref 8 []),(9,A.val (V.bool s.2)),(8,A.val ((slr true 1 Af) (r5))),(7,A.val (Af (x7))),(6,A.val ((slr true 1 Af) (x6))),(4,A.val ((slr true 1 (slr true 1 V.bool)) (r1.fst)))]
def Lc (r1:List (List Bool)×Bool) (x7:Int) (x6:List Int) (r5:List Int):Bool→Tgt
 | s=>((Ex.exit 2),[9,8,7,6,4],[(9,A.val (V.bool s)),(8,A.val ((slr true 1 Af) (r5))),(7,A.val (Af (x7))),(6,A.val ((slr true 1 Af) (x6))),(4,A.val ((slr true 1 (slr true 1 V.bool)) (r1.fst)))])
theorem Ud {r1:List (List Bool)×Bool} {x7:Int} {x6:List Int} {r5:List Int} (s:(Int×Bool)) (o:(Int×Bool) ⊕ Bool) (h:Bi r1 x7 x6 r5 s=some o):vc Try.prog Ld (Cc [52,51,50,9,8,7,6,4] (Ht r1 x7 x6 r5) (Lc r1 x7 x6 r5) o) (Ht r1 x7 x6 r5 s):=by
 obtain ⟨x52,x9⟩:=s
 unfold Bi at h
 try dsimp only at h
 refine Br.od h (fun p12 h=> ?_) (fun p12 h=> ?_)
 ·refine Len.map<|Ask.o h fun p13 h=>Cells.one (fun _=>⟨rfl,rfl⟩) (by first | omega | (simp [Ak] at * <;> omega))<|Len.map<|LoopQ.o [58,57,56,11,52,51,50,9,8,7,6,4] (Hk r1 x7 x6 r5 x52) (Lr r1 x7 x6 r5 x52) h (fun s o h=>Tn s o h) (by rfl) (fun _=>rfl) ?_
  rintro q20_9 h
  try dsimp only at h
  refine Ask.o h fun p21 h=> ?_
  cases h;exact ⟨rfl,rfl⟩
 cases h;exact ⟨rfl,rfl⟩
noncomputable def Bk (r1:List (List Bool)×Bool):(Int×(List Int))→Option ((Int×(List Int)) ⊕ (List Int)):=fun (x7,x6)=>
 ask ((0:Int)≤(↑r1.fst.length:Int)) <|
 if x7<Il (1:Int) (↑r1.fst.length:Int) then
 (Ms (x7)).bind fun r5=>
 ((if (↑r5.length:Int)<(↑x6.length:Int) then
 some (.inl ())
 else
 if (↑r5.length:Int)=(↑x6.length:Int) then
 (G1 (r5) (x6)).bind fun r8=>
 if r8≥(0:Int) then
 some (.inl ())
 else
 some (.inr ())
 else
 some (.inr ()):Option (Unit ⊕ Unit))).bind fun t=>match t with
 | (.inl _)=>(ask (InI (x7+(1:Int))) <|
 some (.inl (x7+(1:Int),x6)))
 | (.inr _)=>((Aj (Bi r1 x7 x6 r5) ((0:Int),true)).bind fun q22_9=>
 if (q22_9)=true then
 ask (InI (x7+(1:Int))) <|
 some (.inl (x7+(1:Int),r5))
 else
 ask (InI (x7+(1:Int))) <|
 some (.inl (x7+(1:Int),x6)))
 else
 some (.inr x6)
def Hp (r1:List (List Bool)×Bool):(Int×(List Int))→St:=fun s=>[(7,A.val (Af s.1)),(6,A.val ((slr true 1 Af) s.2)),(4,A.val ((slr true 1 (slr true 1 V.bool)) (r1.fst)))]
def Ky (_r1:List (List Bool)×Bool):(List Int)→Tgt
 | s=>((Ex.exit 0),[6],[(6,A.val ((slr true 1 Af) s))])
theorem U9 {r1:List (List Bool)×Bool} (s:(Int×(List Int))) (o:(Int×(List Int)) ⊕ (List Int)) (h:Bk r1 s=some o):vc Try.prog Ko (Cc [7,6,4] (Hp r1) (Ky r1) o) (Hp r1 s):=by
 obtain ⟨x7,x6⟩:=s
 unfold Bk at h
 try dsimp only at h
 refine Len.map<|Ask.o h fun p3 h=>Br.od h (fun p4 h=> ?_) (fun p4 h=> ?_)
 ·refine CallQ.o (slr true 1 Af) (by rfl) h (fun r h=>Aqv h) (fun r5 h=> ?_)
  refine CutQ.o (fun t:(Unit ⊕ Unit)=>match t with | (.inl s)=>((Ex.exit 1),[7,6,4],[(7,A.val (Af (x7))),(6,A.val ((slr true 1 Af) (x6))),(4,A.val ((slr true 1 (slr true 1 V.bool)) (r1.fst)))]) | (.inr s)=>(Ex.normal,[8,7,6,4],[(8,A.val ((slr true 1 Af) (r5))),(7,A.val (Af (x7))),(6,A.val ((slr true 1 Af) (x6))),(4,A.val ((slr true 1 (slr true 1 V.bool)) (r1.fst)))])) h ?_ ?_
  ·intro t h
   refine Len.map<|Len.map<|Br.od h (fun p6 h=> ?_) (fun p6 h=> ?_)
   ·refine Br.yes<|Br.yes<|Br.yes<|Br.yes<|Br.yes<|Br.yes<|Br.yes<|Br.yes ?_
    cases h;exact ⟨rfl,rfl⟩
   refine Br.no<|Len.map<|Br.no<|Br.no<|Len.map<|Br.no<|Br.no<|Br.oe h (fun p7 h=> ?_) (fun p7 h=> ?_)
   ·refine Br.yes<|Br.yes<|CallQ.rd Af (by first | rfl | simp only [V.fz,Ab,slr] | simp [Aa,V.fz,fzL,V.up,upL,Ab,Ac,Ad,slr]) (fun _=>rfl) h (fun r h=>Aei h) (fun r8 h=> ?_)
    refine Br.yes<|Br.no<|Br.yes<|Br.no<|Br.od h (fun p9 h=> ?_) (fun p9 h=> ?_)
    ·cases h;exact ⟨rfl,rfl⟩
    cases h;exact ⟨rfl,rfl⟩
   refine Br.no<|Br.no<|Br.no<|Br.no<|Br.no<|Br.no<|Br.no ?_
   cases h;exact ⟨rfl,rfl⟩
  rintro (⟨⟩ | ⟨⟩) h
  ·try dsimp only at h
   refine Ask.o h fun p11 h=> ?_
   cases h;exact ⟨rfl,rfl⟩
  try dsimp only at h
  refine Len.map<|LoopQ.o [52,51,50,9,8,7,6,4] (Ht r1 x7 x6 r5) (Lc r1 x7 x6 r5) h (fun s o h=>Ud s o h) (by rfl) (fun _=>rfl) ?_
  rintro q22_9 h
  try dsimp only at h
  refine Br.ob h (fun p23 h=> ?_) (fun p23 h=> ?_)
  ·refine Ask.o h fun p24 h=> ?_
   cases h;exact ⟨rfl,rfl⟩
  refine Ask.o h fun p25 h=> ?_
  cases h;exact ⟨rfl,rfl⟩
 cases h;exact ⟨rfl,rfl⟩
noncomputable def Cr (p0:SPoset):Option ((List Int)×Bool):=
 (Bj (p0)).bind fun r1=>
 if (r1.snd)=true then
 (Aj (Bk r1) ((0:Int),Ar Int)).bind fun q26_6=>
 some (q26_6,true)
 else
 some (Ar Int,false)
theorem Y3 {p0:SPoset} {v:((List Int)×Bool)} (h:Cr p0=some v):Ret Try.prog Ix [(Ag false) p0] ((fun r=>V.tup [(slr true 1 Af) r.1,V.bool r.2]) v):=by
 refine A6 Yr (Nat.le_of_ble_eq_true rfl) ?_
 unfold Cr at h
 refine Cells.lit rfl rfl<|CallQ.o (fun r=>V.tup [(slr true 1 (slr true 1 V.bool)) r.1,V.bool r.2]) (by rfl) h (fun r h=>Dk h) (fun r1 h=> ?_)
 refine Br.flip<|Br.ob h (fun p2 h=> ?_) (fun p2 h=> ?_)
 ·refine BslQ.o Af (Ar Int) (by exact fun _=>⟨rfl,rfl⟩) (by first | rfl | (simp only [Aa,V.fz,fzL,V.up,upL,Ab,Ac,Ad,slr,List.cons_append,List.nil_append];done) | simp [Aa,V.fz,fzL,V.up,upL,Ab,Ac,Ad,slr])<|LoopQ.o [7,6,4] (Hp r1) (Ky r1) h (fun s o h=>U9 s o h) (by rfl) (fun _=>rfl) ?_
  rintro q26_6 h
  try dsimp only at h
  cases h;exact (by rfl)
 refine BslQ.o Af (Ar Int) (by exact fun _=>⟨rfl,rfl⟩) (by first | rfl | (simp only [Aa,V.fz,fzL,V.up,upL,Ab,Ac,Ad,slr,List.cons_append,List.nil_append];done) | simp [Aa,V.fz,fzL,V.up,upL,Ab,Ac,Ad,slr]) ?_
 cases h;exact (by rfl)
noncomputable def Lq (p0:SPoset):Option Bool:=
 (Bj (p0)).bind fun r1=>
 some r1.snd
theorem Apd {p0:SPoset} {v:Bool} (h:Lq p0=some v):Ret Try.prog Um [(Ag false) p0] (V.bool v):=by
 refine A6 Anx (Nat.le_of_ble_eq_true rfl) ?_
 unfold Lq at h
 refine Cells.lit rfl rfl<|CallQ.o (fun r=>V.tup [(slr true 1 (slr true 1 V.bool)) r.1,V.bool r.2]) (by rfl) h (fun r h=>Dk h) (fun r1 h=> ?_)
 cases h;exact (by rfl)
noncomputable def J3 (p0:SPoset) (x0:Int) (y0:Int):Option (Bool×Bool):=
 (Bj (p0)).bind fun r1=>
 ((if (r1.snd)=true then
 (F4 (r1.fst) ([x0,y0])).bind fun r3=>
 if (r3)=true then
 some (.inl ())
 else
 some (.inr ())
 else
 some (.inr ()):Option (Unit ⊕ Unit))).bind fun t=>match t with
 | (.inl _)=>(ask ((0:Int)≤x0∧x0<(↑r1.fst.length:Int)) <|
 ask ((0:Int)≤y0∧y0<(↑(nth r1.fst x0.toNat).length:Int)) <|
 some (nth (nth r1.fst x0.toNat) y0.toNat,true))
 | (.inr _)=>(some (false,false))
theorem Alv {p0:SPoset} {x0:Int} {y0:Int} {v:(Bool×Bool)} (h:J3 p0 x0 y0=some v):Ret Try.prog Sw [(Ag false) p0,Af x0,Af y0] ((fun r=>V.tup [V.bool r.1,V.bool r.2]) v):=by
 refine A6 Al4 (Nat.le_of_ble_eq_true rfl) ?_
 unfold J3 at h
 refine Cells.lit rfl rfl<|CallQ.o (fun r=>V.tup [(slr true 1 (slr true 1 V.bool)) r.1,V.bool r.2]) (by rfl) h (fun r h=>Dk h) (fun r1 h=> ?_)
 refine CutQ.o (fun t:(Unit ⊕ Unit)=>match t with | (.inl s)=>(Ex.normal,[8,1,2],[(8,A.val ((slr true 1 (slr true 1 V.bool)) (r1.fst))),(1,A.val (Af (x0))),(2,A.val (Af (y0)))]) | (.inr s)=>(Ex.ret,[7,6],[(7,A.val (V.bool (false))),(6,A.val (V.bool (false)))])) h ?_ ?_
 ·intro t h
  refine Br.flip<|Br.ob h (fun p2 h=> ?_) (fun p2 h=> ?_)
  ·refine Br.no<|Br.no<|Br.no<|BslQ.o Af ([x0,y0]) (by exact fun _=>⟨rfl,rfl⟩) (by first | rfl | (simp only [Aa,V.fz,fzL,V.up,upL,Ab,Ac,Ad,slr,List.cons_append,List.nil_append];done) | simp [Aa,V.fz,fzL,V.up,upL,Ab,Ac,Ad,slr])<|Br.no<|CallQ.rd V.bool (by first | rfl | simp only [V.fz,Ab,slr] | simp [Aa,V.fz,fzL,V.up,upL,Ab,Ac,Ad,slr]) (fun _=>rfl) h (fun r h=>X0 h) (fun r3 h=> ?_)
   refine Br.no<|Br.no<|Br.flip<|Br.ob h (fun p4 h=> ?_) (fun p4 h=> ?_)
   ·cases h;exact ⟨rfl,rfl⟩
   cases h;exact ⟨rfl,rfl⟩
  refine Br.yes<|Br.yes<|Br.yes<|Br.yes<|Br.yes<|Br.yes<|Br.yes ?_
  cases h;exact ⟨rfl,rfl⟩
 rintro (⟨⟩ | ⟨⟩) h
 ·try dsimp only at h
  refine Len.map<|Ask.o h fun p6 h=>Cells.one (fun _=>⟨rfl,rfl⟩) (by first | omega | (simp [Ak] at * <;> omega))<|Kid.one (fun _=>⟨rfl,rfl⟩) (by first | omega | (simp [Ak] at * <;> omega))<|Len.map<|Ask.o h fun p7 h=>Kid.one (fun _=>⟨rfl,rfl⟩) (by first | omega | (simp [Ak] at * <;> omega))<|Cells.one (fun _=>⟨rfl,rfl⟩) (by first | omega | (simp [Ak] at * <;> omega)) ?_
  cases h;exact (by rfl)
 try dsimp only at h
 cases h;exact (by rfl)
noncomputable def I0 (p0:SPoset):Option ((List Int)×Bool):=
 (Bj (p0)).bind fun r1=>
 if (r1.snd)=true then
 (En (r1.fst) (true)).bind fun r3=>
 some (r3,true)
 else
 some (Ar Int,false)
theorem Aju {p0:SPoset} {v:((List Int)×Bool)} (h:I0 p0=some v):Ret Try.prog Q2 [(Ag false) p0] ((fun r=>V.tup [(slr true 1 Af) r.1,V.bool r.2]) v):=by
 refine A6 Aki (Nat.le_of_ble_eq_true rfl) ?_
 unfold I0 at h
 refine Cells.lit rfl rfl<|CallQ.o (fun r=>V.tup [(slr true 1 (slr true 1 V.bool)) r.1,V.bool r.2]) (by rfl) h (fun r h=>Dk h) (fun r1 h=> ?_)
 refine Br.flip<|Br.ob h (fun p2 h=> ?_) (fun p2 h=> ?_)
 ·refine CallQ.rd (slr true 1 Af) (by first | rfl | simp only [V.fz,Ab,slr] | simp [Aa,V.fz,fzL,V.up,upL,Ab,Ac,Ad,slr]) (fun _=>by simp [V.noFz,Cu]) h (fun r h=>R1 h) (fun r3 h=> ?_)
  cases h;exact (by rfl)
 refine BslQ.o Af (Ar Int) (by exact fun _=>⟨rfl,rfl⟩) (by first | rfl | (simp only [Aa,V.fz,fzL,V.up,upL,Ab,Ac,Ad,slr,List.cons_append,List.nil_append];done) | simp [Aa,V.fz,fzL,V.up,upL,Ab,Ac,Ad,slr]) ?_
 cases h;exact (by rfl)
noncomputable def Cw (_r1:List (List Bool)×Bool) (r3:List Int):(Int×Int)→Option ((Int×Int) ⊕ Int):=fun (x24,x7)=>
 if x24<(↑r3.length:Int) then
 ask ((0:Int)≤x24∧x24<(↑r3.length:Int)) <|
 ask (InI (x24+(1:Int))) <|
 some (.inl (x24+(1:Int),if nth r3 x24.toNat>x7 then nth r3 x24.toNat else x7))
 else
 some (.inr x7)
def Jo (r1:List (List Bool)×Bool) (r3:List Int):(Int×Int)→St:=fun s=>[(24,A.val (Af s.1)),(23,A.val (Af ((↑r3.length:Int)))),(22,A.ref 6 []),(7,A.val (Af s.2)),(6,A.val ((slr true 1 Af) (r3))),(4,A.val ((slr true 1 (slr true 1 V.bool)) (r1.fst)))]
def Py (r1:List (List Bool)×Bool) (r3:List Int):Int→Tgt
 | s=>((Ex.exit 0),[7,6,4],[(7,A.val (Af s)),(6,A.val ((slr true 1 Af) (r3))),(4,A.val ((slr true 1 (slr true 1 V.bool)) (r1.fst)))])
theorem Aaf {r1:List (List Bool)×Bool} {r3:List Int} (s:(Int×Int)) (o:(Int×Int) ⊕ Int) (h:Cw r1 r3 s=some o):vc Try.prog N0 (Cc [24,23,22,7,6,4] (Jo r1 r3) (Py r1 r3) o) (Jo r1 r3 s):=by
 obtain ⟨x24,x7⟩:=s
 unfold Cw at h
 try dsimp only at h
 refine Br.od h (fun p4 h=> ?_) (fun p4 h=> ?_)
 ·refine Len.map<|Ask.o h fun p5 h=>Cells.one (fun _=>⟨rfl,rfl⟩) (by first | omega | (simp [Ak] at * <;> omega))<|Ask.o h fun p6 h=> ?_
  cases h;exact ⟨rfl,rfl⟩
 cases h;exact ⟨rfl,rfl⟩
noncomputable def C1 (r1:List (List Bool)×Bool) (r3:List Int) (x10:List Int) (x7:Int):Int→Option (Int ⊕ (List Int)):=fun x39=>
 if x39<(↑r1.fst.length:Int) then
 ask ((0:Int)≤x39∧x39<(↑r3.length:Int)) <|
 if nth r3 x39.toNat=x7 then
 if (↑x10.length:Int)=(0:Int) then
 ask ((x10).length+([x39]).length≤LIM) <|
 some (.inr (x10++[x39]))
 else
 ask (InI ((↑x10.length:Int)-(1:Int))) <|
 ask ((0:Int)≤(↑x10.length:Int)-(1:Int)∧(↑x10.length:Int)-(1:Int)<(↑x10.length:Int)) <|
 (Au (r1.fst) (nth x10 ((↑x10.length:Int)-(1:Int)).toNat) (x39)).bind fun r15=>
 if (r15)=true then
 ask ((x10).length+([x39]).length≤LIM) <|
 some (.inr (x10++[x39]))
 else
 ask (InI (x39+(1:Int))) <|
 some (.inl (x39+(1:Int)))
 else
 ask (InI (x39+(1:Int))) <|
 some (.inl (x39+(1:Int)))
 else
 some (.inr x10)
def Jp (r1:List (List Bool)×Bool) (r3:List Int) (x10:List Int) (x7:Int):Int→St:=fun s=>[(39,A.val (Af s)),(38,A.val (Af ((↑r1.fst.length:Int)))),(10,A.val ((slr true 1 Af) (x10))),(7,A.val (Af (x7))),(6,A.val ((slr true 1 Af) (r3))),(4,A.val ((slr true 1 (slr true 1 V.bool)) (r1.fst)))]
def Pj (r1:List (List Bool)×Bool) (r3:List Int) (_x10:List Int) (x7:Int):(List Int)→Tgt
 | s=>((Ex.exit 4),[10,7,6,4],[(10,A.val ((slr true 1 Af) s)),(7,A.val (Af (x7))),(6,A.val ((slr true 1 Af) (r3))),(4,A.val ((slr true 1 (slr true 1 V.bool)) (r1.fst)))])
theorem Zl {r1:List (List Bool)×Bool} {r3:List Int} {x10:List Int} {x7:Int} (x39:Int) (o:Int ⊕ (List Int)) (h:C1 r1 r3 x10 x7 x39=some o):vc Try.prog O4 (Cc [39,38,10,7,6,4] (Jp r1 r3 x10 x7) (Pj r1 r3 x10 x7) o) (Jp r1 r3 x10 x7 x39):=by
 unfold C1 at h
 try dsimp only at h
 refine Br.od h (fun p9 h=> ?_) (fun p9 h=> ?_)
 ·refine Len.map<|Ask.o h fun p10 h=>Cells.one (fun _=>⟨rfl,rfl⟩) (by first | omega | (simp [Ak] at * <;> omega))<|Br.oe h (fun p11 h=> ?_) (fun p11 h=> ?_)
  ·refine Br.yes<|Len.map<|Br.yes<|Br.yes<|Br.oe h (fun p12 h=> ?_) (fun p12 h=> ?_)
   ·refine Br.yes<|Br.yes<|Br.yes<|Br.yes<|Br.yes<|Br.yes<|Br.yes<|Br.yes<|Br.yes<|Br.yes<|Br.yes<|Br.yes<|BslQ.o Af [x39] (by exact fun _=>⟨rfl,rfl⟩) (by first | rfl | (simp only [Aa,V.fz,fzL,V.up,upL,Ab,Ac,Ad,slr,List.cons_append,List.nil_append];done) | simp [Aa,V.fz,fzL,V.up,upL,Ab,Ac,Ad,slr])<|NoOwn.o (fun _=>rfl)<|AppQ.o (m:=1) Af (by exact fun _=>⟨rfl,rfl⟩) (x10) ([x39]) (by rfl) (by rfl) h fun h=> ?_
    cases h;exact ⟨rfl,rfl⟩
   refine Br.no<|Br.no<|Br.no<|Len.map<|Br.no<|Ask.o h fun p13 h=>Br.no<|Len.map<|Ask.o h fun p14 h=>Br.no<|Cells.one (fun _=>⟨rfl,rfl⟩) (by first | omega | (simp [Ak] at * <;> omega))<|Br.no<|Br.no<|CallQ.rd V.bool (by first | rfl | simp only [Aa,V.fz,V.up,Ab,Ad,slr] | simp [Aa,V.fz,fzL,V.up,upL,Ab,Ac,Ad,slr]) (fun _=>rfl) h (fun r h=>Bo h) (fun r15 h=> ?_)
   refine Br.yes<|Br.no<|Br.yes<|Br.ob h (fun p16 h=> ?_) (fun p16 h=> ?_)
   ·refine BslQ.o Af [x39] (by exact fun _=>⟨rfl,rfl⟩) (by first | rfl | (simp only [Aa,V.fz,fzL,V.up,upL,Ab,Ac,Ad,slr,List.cons_append,List.nil_append];done) | simp [Aa,V.fz,fzL,V.up,upL,Ab,Ac,Ad,slr])<|NoOwn.o (fun _=>rfl)<|AppQ.o (m:=1) Af (by exact fun _=>⟨rfl,rfl⟩) (x10) ([x39]) (by rfl) (by rfl) h fun h=> ?_
    cases h;exact ⟨rfl,rfl⟩
   refine Ask.o h fun p17 h=> ?_
   cases h;exact ⟨rfl,rfl⟩
  refine Br.no<|Br.no<|Br.no<|Br.no<|Br.no<|Br.no<|Ask.o h fun p18 h=> ?_
  cases h;exact ⟨rfl,rfl⟩
 cases h;exact ⟨rfl,rfl⟩
noncomputable def Dy (r1:List (List Bool)×Bool) (r3:List Int):((List Int)×Int)→Option (((List Int)×Int) ⊕ (List Int)):=fun (x10,x7)=>
 if x7≥(0:Int) then
 (Aj (C1 r1 r3 x10 x7) (0:Int)).bind fun q19_10=>
 ask (InI (x7-(1:Int))) <|
 some (.inl (q19_10,x7-(1:Int)))
 else
 some (.inr x10)
def Jl (r1:List (List Bool)×Bool) (r3:List Int):((List Int)×Int)→St:=fun s=>[(10,A.val ((slr true 1 Af) s.1)),(7,A.val (Af s.2)),(6,A.val ((slr true 1 Af) (r3))),(4,A.val ((slr true 1 (slr true 1 V.bool)) (r1.fst)))]
def Qb (_r1:List (List Bool)×Bool) (_r3:List Int):(List Int)→Tgt
 | s=>((Ex.exit 2),[10],[(10,A.val ((slr true 1 Af) s))])
theorem Aa2 {r1:List (List Bool)×Bool} {r3:List Int} (s:((List Int)×Int)) (o:((List Int)×Int) ⊕ (List Int)) (h:Dy r1 r3 s=some o):vc Try.prog Ov (Cc [10,7,6,4] (Jl r1 r3) (Qb r1 r3) o) (Jl r1 r3 s):=by
 obtain ⟨x10,x7⟩:=s
 unfold Dy at h
 try dsimp only at h
 refine Br.od h (fun p8 h=> ?_) (fun p8 h=> ?_)
 ·refine Len.map<|LoopQ.o [39,38,10,7,6,4] (Jp r1 r3 x10 x7) (Pj r1 r3 x10 x7) h (fun s o h=>Zl s o h) (by rfl) (fun _=>rfl) ?_
  rintro q19_10 h
  try dsimp only at h
  refine Ask.o h fun p20 h=> ?_
  cases h;exact ⟨rfl,rfl⟩
 cases h;exact ⟨rfl,rfl⟩
noncomputable def G3 (p0:SPoset):Option ((List Int)×Bool):=
 (Bj (p0)).bind fun r1=>
 if (r1.snd)=true then
 (En (r1.fst) (false)).bind fun r3=>
 (Aj (Cw r1 r3) ((0:Int),(-1:Int))).bind fun q7_7=>
 (Aj (Dy r1 r3) (Ar Int,q7_7)).bind fun q21_10=>
 some (q21_10,true)
 else
 some (Ar Int,false)
theorem Aec {p0:SPoset} {v:((List Int)×Bool)} (h:G3 p0=some v):Ret Try.prog Mm [(Ag false) p0] ((fun r=>V.tup [(slr true 1 Af) r.1,V.bool r.2]) v):=by
 refine A6 Ady (Nat.le_of_ble_eq_true rfl) ?_
 unfold G3 at h
 refine Cells.lit rfl rfl<|CallQ.o (fun r=>V.tup [(slr true 1 (slr true 1 V.bool)) r.1,V.bool r.2]) (by rfl) h (fun r h=>Dk h) (fun r1 h=> ?_)
 refine Br.flip<|Br.ob h (fun p2 h=> ?_) (fun p2 h=> ?_)
 ·refine CallQ.rd (slr true 1 Af) (by first | rfl | simp only [V.fz,Ab,slr] | simp [Aa,V.fz,fzL,V.up,upL,Ab,Ac,Ad,slr]) (fun _=>by simp [V.noFz,Cu]) h (fun r h=>R1 h) (fun r3 h=> ?_)
  refine Len.map<|LoopQ.o [24,23,22,7,6,4] (Jo r1 r3) (Py r1 r3) h (fun s o h=>Aaf s o h) (by rfl) (fun _=>rfl) ?_
  rintro q7_7 h
  try dsimp only at h
  refine BslQ.o Af (Ar Int) (by exact fun _=>⟨rfl,rfl⟩) (by first | rfl | (simp only [Aa,V.fz,fzL,V.up,upL,Ab,Ac,Ad,slr,List.cons_append,List.nil_append];done) | simp [Aa,V.fz,fzL,V.up,upL,Ab,Ac,Ad,slr])<|LoopQ.o [10,7,6,4] (Jl r1 r3) (Qb r1 r3) h (fun s o h=>Aa2 s o h) (by rfl) (fun _=>rfl) ?_
  rintro q21_10 h
  try dsimp only at h
  cases h;exact (by rfl)
 refine BslQ.o Af (Ar Int) (by exact fun _=>⟨rfl,rfl⟩) (by first | rfl | (simp only [Aa,V.fz,fzL,V.up,upL,Ab,Ac,Ad,slr,List.cons_append,List.nil_append];done) | simp [Aa,V.fz,fzL,V.up,upL,Ab,Ac,Ad,slr]) ?_
 cases h;exact (by rfl)
end Go.Proofs.Ytpfikenknmlajaa.Ax
