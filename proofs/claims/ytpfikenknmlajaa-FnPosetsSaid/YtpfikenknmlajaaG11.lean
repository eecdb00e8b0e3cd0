/-
 What the functions compute, as functions on plain data, and that the program does compute it; written by program.
-/
import Derived.Test.YtpfikenknmlajaaCode
import Derived.Test.YtpfikenknmlajaaG1
import Derived.Test.YtpfikenknmlajaaG5
import Derived.Test.YtpfikenknmlajaaG9
import Derived.Test.YtpfikenknmlajaaG10
namespace Go.Proofs.Ytpfikenknmlajaa.Ax
open Go
set_option maxRecDepth 100000
set_option maxHeartbeats 4000000
noncomputable def C0 (r1:List (List Bool)×Bool):(Int×(List Int))→Option ((Int×(List Int)) ⊕ (List Int)):=fun (x30,x6)=>
 if x30<(↑(↑r1.fst.length:Int).toNat:Int) then
 ask ((0:Int)≤x30∧x30<(↑x6.length:Int)) <|
 ask (InI (x30+(1:Int))) <|
 some (.inl (x30+(1:Int),x6.set x30.toNat (-2:Int)))
 else
 some (.inr x6)
def J0 (r1:List (List Bool)×Bool):(Int×(List Int))→St:=fun s=>[(30,A.val (Af s.1)),(29,A.val (Af ((↑(↑r1.fst.length:Int).toNat:Int)))),(6,A.val ((slr true 1 Af) s.2)),(4,A.val ((slr true 1 (slr true 1 V.bool)) (r1.fst)))]
def Pg (r1:List (List Bool)×Bool):(List Int)→Tgt
 | s=>((Ex.exit 0),[6,4],[(6,A.val ((slr true 1 Af) s)),(4,A.val ((slr true 1 (slr true 1 V.bool)) (r1.fst)))])
theorem Zy {r1:List (List Bool)×Bool} (s:(Int×(List Int))) (o:(Int×(List Int)) ⊕ (List Int)) (h:C0 r1 s=some o):vc Try.prog N6 (Cc [30,29,6,4] (J0 r1) (Pg r1) o) (J0 r1 s):=by
 obtain ⟨x30,x6⟩:=s
 unfold C0 at h
 try dsimp only at h
 refine Br.od h (fun p4 h=> ?_) (fun p4 h=> ?_)
 ·refine Len.map<|Ask.o h fun p5 h=>SetKids.one (fun _=>⟨rfl,rfl⟩) ((-2:Int)) (by rfl) (by first | omega | (simp [Ak] at * <;> omega))<|Ask.o h fun p6 h=> ?_
  cases h;exact ⟨rfl,rfl⟩
 cases h;exact ⟨rfl,rfl⟩
noncomputable def C6 (r1:List (List Bool)×Bool) (r8:Int) (x45:Int):(Int×Int×(List Bool)×(List Int))→Option ((Int×Int×(List Bool)×(List Int)) ⊕ (Int×(List Bool)×(List Int))):=fun (x12,x11,x9',x6')=>
 ((if x12<(↑r1.fst.length:Int) then
 if x11<(0:Int) then
 some (.inl ())
 else
 some (.inr ())
 else
 some (.inr ()):Option (Unit ⊕ Unit))).bind fun t=>match t with
 | (.inl _)=>((((Au (r1.fst) (x45) (x12)).bind fun r14=>
 if (r14)=true then
 ask ((0:Int)≤x12∧x12<(↑x9'.length:Int)) <|
 if (nth x9' x12.toNat)=true then
 some (.inl ())
 else
 some (.inr ())
 else
 some (.inl ()):Option (Unit ⊕ Unit))).bind fun t=>match t with
 | (.inl _)=>(ask (InI (x12+(1:Int))) <|
 some (.inl (x12+(1:Int),x11,x9',x6')))
 | (.inr _)=>(ask ((0:Int)≤x45∧x45<(↑x6'.length:Int)) <|
 (Fk (r1.fst) (x6'.set x45.toNat x12)).bind fun r21=>
 if r21=r8 then
 ask ((0:Int)≤x12∧x12<(↑x9'.length:Int)) <|
 ask (InI (x12+(1:Int))) <|
 some (.inl (x12+(1:Int),x12,x9'.set x12.toNat true,x6'.set x45.toNat x12))
 else
 ask (InI (x12+(1:Int))) <|
 some (.inl (x12+(1:Int),x11,x9',x6'.set x45.toNat x12))))
 | (.inr _)=>(some (.inr (x11,x9',x6')))
def Jb (r1:List (List Bool)×Bool) (r8:Int) (x45:Int):(Int×Int×(List Bool)×(List Int))→St:=fun s=>[(12,A.val (Af s.1)),(11,A.val (Af s.2.1)),(10,A.val (Af (x45))),(45,A.val (Af (x45))),(44,A.val (Af ((↑r1.fst.length:Int)))),(9,A.val ((slr true 1 V.bool) s.2.2.1)),(8,A.val (Af (r8))),(6,A.val ((slr true 1 Af) s.2.2.2)),(4,A.val ((slr true 1 (slr true 1 V.bool)) (r1.fst)))]
def O9 (r1:List (List Bool)×Bool) (r8:Int) (x45:Int):(Int×(List Bool)×(List Int))→Tgt
 | s=>((Ex.exit 4),[11,10,45,44,9,8,6,4],[(11,A.val (Af s.1)),(10,A.val (Af (x45))),(45,A.val (Af (x45))),(44,A.val (Af ((↑r1.fst.length:Int)))),(9,A.val ((slr true 1 V.bool) s.2.1)),(8,A.val (Af (r8))),(6,A.val ((slr true 1 Af) s.2.2)),(4,A.val ((slr true 1 (slr true 1 V.bool)) (r1.fst)))])
theorem Z9 {r1:List (List Bool)×Bool} {r8:Int} {x45:Int} (s:(Int×Int×(List Bool)×(List Int))) (o:(Int×Int×(List Bool)×(List Int)) ⊕ (Int×(List Bool)×(List Int))) (h:C6 r1 r8 x45 s=some o):vc Try.prog Pn (Cc [12,11,10,45,44,9,8,6,4] (Jb r1 r8 x45) (O9 r1 r8 x45) o) (Jb r1 r8 x45 s):=by
 obtain ⟨x12,x11,x9',x6'⟩:=s
 unfold C6 at h
 try dsimp only at h
 refine CutQ.o (fun t:(Unit ⊕ Unit)=>match t with | (.inl s)=>(Ex.normal,[12,11,10,45,44,9,8,6,4],[(12,A.val (Af (x12))),(11,A.val (Af (x11))),(10,A.val (Af (x45))),(45,A.val (Af (x45))),(44,A.val (Af ((↑r1.fst.length:Int)))),(9,A.val ((slr true 1 V.bool) (x9'))),(8,A.val (Af (r8))),(6,A.val ((slr true 1 Af) (x6'))),(4,A.val ((slr true 1 (slr true 1 V.bool)) (r1.fst)))]) | (.inr s)=>((Ex.exit 4),[11,10,45,44,9,8,6,4],[(11,A.val (Af (x11))),(10,A.val (Af (x45))),(45,A.val (Af (x45))),(44,A.val (Af ((↑r1.fst.length:Int)))),(9,A.val ((slr true 1 V.bool) (x9'))),(8,A.val (Af (r8))),(6,A.val ((slr true 1 Af) (x6'))),(4,A.val ((slr true 1 (slr true 1 V.bool)) (r1.fst)))])) h ?_ ?_
 ·intro t h
  refine Len.map<|Br.od h (fun p11 h=> ?_) (fun p11 h=> ?_)
  ·refine Br.yes<|Br.yes<|Br.od h (fun p12 h=> ?_) (fun p12 h=> ?_)
   ·cases h;exact ⟨rfl,rfl⟩
   cases h;exact ⟨rfl,rfl⟩
  refine Br.no<|Br.no<|Br.no ?_
  cases h;exact ⟨rfl,rfl⟩
 rintro (⟨⟩ | ⟨⟩) h
 ·try dsimp only at h
  refine CutQ.o (fun t:(Unit ⊕ Unit)=>match t with | (.inl s)=>((Ex.exit 5),[12,11,10,45,44,9,8,6,4],[(12,A.val (Af (x12))),(11,A.val (Af (x11))),(10,A.val (Af (x45))),(45,A.val (Af (x45))),(44,A.val (Af ((↑r1.fst.length:Int)))),(9,A.val ((slr true 1 V.bool) (x9'))),(8,A.val (Af (r8))),(6,A.val ((slr true 1 Af) (x6'))),(4,A.val ((slr true 1 (slr true 1 V.bool)) (r1.fst)))]) | (.inr s)=>(Ex.normal,[12,11,10,45,44,9,8,6,4],[(12,A.val (Af (x12))),(11,A.val (Af (x11))),(10,A.val (Af (x45))),(45,A.val (Af (x45))),(44,A.val (Af ((↑r1.fst.length:Int)))),(9,A.val ((slr true 1 V.bool) (x9'))),(8,A.val (Af (r8))),(6,A.val ((slr true 1 Af) (x6'))),(4,A.val ((slr true 1 (slr true 1 V.bool)) (r1.fst)))])) h ?_ ?_
  ·intro t h
   refine CallQ.rd V.bool (by first | rfl | simp only [V.fz,V.up,Ab,Ad,slr] | simp [Aa,V.fz,fzL,V.up,upL,Ab,Ac,Ad,slr]) (fun _=>rfl) h (fun r h=>Bo h) (fun r14 h=> ?_)
   refine Br.flip<|Br.ob h (fun p15 h=> ?_) (fun p15 h=> ?_)
   ·refine Br.no<|Br.no<|Len.map<|Ask.o h fun p16 h=>Br.no<|Cells.one (fun _=>⟨rfl,rfl⟩) (by first | omega | (simp [Ak] at * <;> omega))<|Br.no<|Br.ob h (fun p17 h=> ?_) (fun p17 h=> ?_)
    ·cases h;exact ⟨rfl,rfl⟩
    cases h;exact ⟨rfl,rfl⟩
   refine Br.yes<|Br.yes<|Br.yes<|Br.yes<|Br.yes ?_
   cases h;exact ⟨rfl,rfl⟩
  rintro (⟨⟩ | ⟨⟩) h
  ·try dsimp only at h
   refine Ask.o h fun p19 h=> ?_
   cases h;exact ⟨rfl,rfl⟩
  try dsimp only at h
  refine Len.map<|Ask.o h fun p20 h=>SetKids.one (fun _=>⟨rfl,rfl⟩) (x12) (by rfl) (by first | omega | (simp [Ak] at * <;> omega))<|CallQ.rd Af (by first | rfl | simp only [Aa,V.fz,Ab,slr] | simp [Aa,V.fz,fzL,V.up,upL,Ab,Ac,Ad,slr]) (fun _=>rfl) h (fun r h=>Sx h) (fun r21 h=> ?_)
  refine Br.oe h (fun p22 h=> ?_) (fun p22 h=> ?_)
  ·refine Len.map<|Ask.o h fun p23 h=>SetKids.one (fun _=>⟨rfl,rfl⟩) (true) (by rfl) (by first | omega | (simp [Ak] at * <;> omega))<|Ask.o h fun p24 h=> ?_
   cases h;exact ⟨rfl,rfl⟩
  refine Ask.o h fun p25 h=> ?_
  cases h;exact ⟨rfl,rfl⟩
 try dsimp only at h
 cases h;exact ⟨rfl,rfl⟩
noncomputable def E3 (r1:List (List Bool)×Bool) (r8:Int):(Int×(List Bool)×(List Int))→Option ((Int×(List Bool)×(List Int)) ⊕ ((List Bool)×(List Int))):=fun (x45,x9,x6)=>
 if x45<(↑r1.fst.length:Int) then
 (Aj (C6 r1 r8 x45) ((0:Int),(-1:Int),x9,x6)).bind fun (q26_11,q26_9,q26_6)=>
 ask ((0:Int)≤x45∧x45<(↑q26_6.length:Int)) <|
 ask (InI (x45+(1:Int))) <|
 some (.inl (x45+(1:Int),q26_9,q26_6.set x45.toNat q26_11))
 else
 some (.inr (x9,x6))
def Jc (r1:List (List Bool)×Bool) (r8:Int):(Int×(List Bool)×(List Int))→St:=fun s=>[(45,A.val (Af s.1)),(44,A.val (Af ((↑r1.fst.length:Int)))),(9,A.val ((slr true 1 V.bool) s.2.1)),(8,A.val (Af (r8))),(6,A.val ((slr true 1 Af) s.2.2)),(4,A.val ((slr true 1 (slr true 1 V.bool)) (r1.fst)))]
def Pb (r1:List (List Bool)×Bool) (_r8:Int):((List Bool)×(List Int))→Tgt
 | s=>((Ex.exit 2),[9,6,4],[(9,A.val ((slr true 1 V.bool) s.1)),(6,A.val ((slr true 1 Af) s.2)),(4,A.val ((slr true 1 (slr true 1 V.bool)) (r1.fst)))])
theorem Z4 {r1:List (List Bool)×Bool} {r8:Int} (s:(Int×(List Bool)×(List Int))) (o:(Int×(List Bool)×(List Int)) ⊕ ((List Bool)×(List Int))) (h:E3 r1 r8 s=some o):vc Try.prog Oi (Cc [45,44,9,8,6,4] (Jc r1 r8) (Pb r1 r8) o) (Jc r1 r8 s):=by
 obtain ⟨x45,x9,x6⟩:=s
 unfold E3 at h
 try dsimp only at h
 refine Br.od h (fun p10 h=> ?_) (fun p10 h=> ?_)
 ·refine LoopQ.o [12,11,10,45,44,9,8,6,4] (Jb r1 r8 x45) (O9 r1 r8 x45) h (fun s o h=>Z9 s o h) (by rfl) (fun _=>rfl) ?_
  rintro ⟨q26_11,q26_9,q26_6⟩ h
  try dsimp only at h
  refine Len.map<|Ask.o h fun p27 h=>SetKids.one (fun _=>⟨rfl,rfl⟩) (q26_11) (by rfl) (by first | omega | (simp [Ak] at * <;> omega))<|Ask.o h fun p28 h=> ?_
  cases h;exact ⟨rfl,rfl⟩
 cases h;exact ⟨rfl,rfl⟩
noncomputable def Cj (_r1:List (List Bool)×Bool) (_q29_9:List Bool) (q29_6:List Int) (_x90:Int) (_x13:List (List Int)):(Int×(List Int))→Option ((Int×(List Int)) ⊕ (List Int)):=fun (x16,x15)=>
 if x16≥(0:Int) then
 ask ((x15).length+([x16]).length≤LIM) <|
 ask ((0:Int)≤x16∧x16<(↑q29_6.length:Int)) <|
 some (.inl (nth q29_6 x16.toNat,x15++[x16]))
 else
 some (.inr x15)
def Ja (r1:List (List Bool)×Bool) (q29_9:List Bool) (q29_6:List Int) (x90:Int) (x13:List (List Int)):(Int×(List Int))→St:=fun s=>[(16,A.val (Af s.1)),(15,A.val ((slr true 1 Af) s.2)),(90,A.val (Af (x90))),(89,A.val (Af ((↑r1.fst.length:Int)))),(13,A.val ((slr true 1 (slr true 1 Af)) (x13))),(9,A.val ((slr true 1 V.bool) (q29_9))),(6,A.val ((slr true 1 Af) (q29_6)))]
def P6 (r1:List (List Bool)×Bool) (q29_9:List Bool) (q29_6:List Int) (x90:Int) (x13:List (List Int)):(List Int)→Tgt
 | s=>((Ex.exit 8),[15,90,89,13,9,6],[(15,A.val ((slr true 1 Af) s)),(90,A.val (Af (x90))),(89,A.val (Af ((↑r1.fst.length:Int)))),(13,A.val ((slr true 1 (slr true 1 Af)) (x13))),(9,A.val ((slr true 1 V.bool) (q29_9))),(6,A.val ((slr true 1 Af) (q29_6)))])
theorem Aav {r1:List (List Bool)×Bool} {q29_9:List Bool} {q29_6:List Int} {x90:Int} {x13:List (List Int)} (s:(Int×(List Int))) (o:(Int×(List Int)) ⊕ (List Int)) (h:Cj r1 q29_9 q29_6 x90 x13 s=some o):vc Try.prog Po (Cc [16,15,90,89,13,9,6] (Ja r1 q29_9 q29_6 x90 x13) (P6 r1 q29_9 q29_6 x90 x13) o) (Ja r1 q29_9 q29_6 x90 x13 s):=by
 obtain ⟨x16,x15⟩:=s
 unfold Cj at h
 try dsimp only at h
 refine Br.od h (fun p34 h=> ?_) (fun p34 h=> ?_)
 ·refine BslQ.o Af [x16] (by exact fun _=>⟨rfl,rfl⟩) (by first | rfl | (simp only [Aa,V.fz,fzL,V.up,upL,Ab,Ac,Ad,slr,List.cons_append,List.nil_append];done) | simp [Aa,V.fz,fzL,V.up,upL,Ab,Ac,Ad,slr])<|NoOwn.o (fun _=>rfl)<|AppQ.o (m:=1) Af (by exact fun _=>⟨rfl,rfl⟩) (x15) ([x16]) (by rfl) (by rfl) h fun h=>Len.map<|Ask.o h fun p35 h=>Cells.one (fun _=>⟨rfl,rfl⟩) (by first | omega | (simp [Ak] at * <;> omega)) ?_
  cases h;exact ⟨rfl,rfl⟩
 cases h;exact ⟨rfl,rfl⟩
noncomputable def Cz (r1:List (List Bool)×Bool) (q29_9:List Bool) (q29_6:List Int):(Int×(List (List Int)))→Option ((Int×(List (List Int))) ⊕ (List (List Int))):=fun (x90,x13)=>
 if x90<(↑r1.fst.length:Int) then
 ask ((0:Int)≤x90∧x90<(↑q29_9.length:Int)) <|
 if (nth q29_9 x90.toNat)=true then
 ask (InI (x90+(1:Int))) <|
 some (.inl (x90+(1:Int),x13))
 else
 (Aj (Cj r1 q29_9 q29_6 x90 x13) (x90,Ar Int)).bind fun q36_15=>
 ask ((x13).length+([q36_15]).length≤LIM) <|
 ask (InI (x90+(1:Int))) <|
 some (.inl (x90+(1:Int),x13++[q36_15]))
 else
 some (.inr x13)
def Jn (r1:List (List Bool)×Bool) (q29_9:List Bool) (q29_6:List Int):(Int×(List (List Int)))→St:=fun s=>[(90,A.val (Af s.1)),(89,A.val (Af ((↑r1.fst.length:Int)))),(13,A.val ((slr true 1 (slr true 1 Af)) s.2)),(9,A.val ((slr true 1 V.bool) (q29_9))),(6,A.val ((slr true 1 Af) (q29_6)))]
def Ot (_r1:List (List Bool)×Bool) (_q29_9:List Bool) (_q29_6:List Int):(List (List Int))→Tgt
 | s=>((Ex.exit 6),[13],[(13,A.val ((slr true 1 (slr true 1 Af)) s))])
theorem Zx {r1:List (List Bool)×Bool} {q29_9:List Bool} {q29_6:List Int} (s:(Int×(List (List Int)))) (o:(Int×(List (List Int))) ⊕ (List (List Int))) (h:Cz r1 q29_9 q29_6 s=some o):vc Try.prog Oq (Cc [90,89,13,9,6] (Jn r1 q29_9 q29_6) (Ot r1 q29_9 q29_6) o) (Jn r1 q29_9 q29_6 s):=by
 obtain ⟨x90,x13⟩:=s
 unfold Cz at h
 try dsimp only at h
 refine Br.od h (fun p30 h=> ?_) (fun p30 h=> ?_)
 ·refine Len.map<|Ask.o h fun p31 h=>Cells.one (fun _=>⟨rfl,rfl⟩) (by first | omega | (simp [Ak] at * <;> omega))<|Br.ob h (fun p32 h=> ?_) (fun p32 h=> ?_)
  ·refine Ask.o h fun p33 h=> ?_
   cases h;exact ⟨rfl,rfl⟩
  refine BslQ.o Af (Ar Int) (by exact fun _=>⟨rfl,rfl⟩) (by first | rfl | (simp only [Aa,V.fz,fzL,V.up,upL,Ab,Ac,Ad,slr,List.cons_append,List.nil_append];done) | simp [Aa,V.fz,fzL,V.up,upL,Ab,Ac,Ad,slr])<|LoopQ.o [16,15,90,89,13,9,6] (Ja r1 q29_9 q29_6 x90 x13) (P6 r1 q29_9 q29_6 x90 x13) h (fun s o h=>Aav s o h) (by rfl) (fun _=>rfl) ?_
  rintro q36_15 h
  try dsimp only at h
  refine BslQ.o (slr true 1 Af) [q36_15] (by exact fun _=>⟨rfl,rfl⟩) (by first | rfl | (simp only [Aa,V.fz,fzL,V.up,upL,Ab,Ac,Ad,slr,List.cons_append,List.nil_append];done) | simp [Aa,V.fz,fzL,V.up,upL,Ab,Ac,Ad,slr])<|NoOwn.own rfl<|AppQ.o (m:=1) (slr true 1 Af) (by exact fun _=>⟨rfl,rfl⟩) (x13) ([q36_15]) (by rfl) (by rfl) h fun h=>Ask.o h fun p37 h=> ?_
  cases h;exact ⟨rfl,rfl⟩
 cases h;exact ⟨rfl,rfl⟩
noncomputable def D3 (p0:SPoset):Option ((List (List Int))×Bool):=
 (Bj (p0)).bind fun r1=>
 if (r1.snd)=true then
 ask ((0:Int)≤(↑r1.fst.length:Int)∧(↑r1.fst.length:Int)≤(↑LIM:Int)) <|
 (Aj (C0 r1) ((0:Int),List.replicate (↑r1.fst.length:Int).toNat (0:Int))).bind fun q7_6=>
 (Fk (r1.fst) (q7_6)).bind fun r8=>
 ask ((0:Int)≤(↑r1.fst.length:Int)∧(↑r1.fst.length:Int)≤(↑LIM:Int)) <|
 (Aj (E3 r1 r8) ((0:Int),List.replicate (↑r1.fst.length:Int).toNat false,q7_6)).bind fun (q29_9,q29_6)=>
 (Aj (Cz r1 q29_9 q29_6) ((0:Int),Ar (List Int))).bind fun q38_13=>
 some (q38_13,true)
 else
 some (Ar (List Int),false)
theorem Aef {p0:SPoset} {v:((List (List Int))×Bool)} (h:D3 p0=some v):Ret Try.prog Mn [(Ag false) p0] ((fun r=>V.tup [(slr true 1 (slr true 1 Af)) r.1,V.bool r.2]) v):=by
 refine A6 Ad3 (Nat.le_of_ble_eq_true rfl) ?_
 unfold D3 at h
 refine Cells.lit rfl rfl<|CallQ.o (fun r=>V.tup [(slr true 1 (slr true 1 V.bool)) r.1,V.bool r.2]) (by rfl) h (fun r h=>Dk h) (fun r1 h=> ?_)
 refine Br.flip<|Br.ob h (fun p2 h=> ?_) (fun p2 h=> ?_)
 ·refine Len.map<|Ask.o h fun p3 h=>MkQ.o Af ((0:Int)) rfl<|Len.mrep<|LoopQ.o [30,29,6,4] (J0 r1) (Pg r1) h (fun s o h=>Zy s o h) (by rfl) (fun _=>rfl) ?_
  rintro q7_6 h
  try dsimp only at h
  refine CallQ.rd Af (by first | rfl | simp only [V.fz,Ab,slr] | simp [Aa,V.fz,fzL,V.up,upL,Ab,Ac,Ad,slr]) (fun _=>rfl) h (fun r h=>Sx h) (fun r8 h=> ?_)
  refine Len.map<|Ask.o h fun p9 h=>MkQ.o V.bool (false) rfl<|Len.map<|LoopQ.o [45,44,9,8,6,4] (Jc r1 r8) (Pb r1 r8) h (fun s o h=>Z4 s o h) (by rfl) (fun _=>rfl) ?_
  rintro ⟨q29_9,q29_6⟩ h
  try dsimp only at h
  refine BslQ.o (slr true 1 Af) (Ar (List Int)) (by exact fun _=>⟨rfl,rfl⟩) (by first | rfl | (simp only [Aa,V.fz,fzL,V.up,upL,Ab,Ac,Ad,slr,List.cons_append,List.nil_append];done) | simp [Aa,V.fz,fzL,V.up,upL,Ab,Ac,Ad,slr])<|Len.map<|LoopQ.o [90,89,13,9,6] (Jn r1 q29_9 q29_6) (Ot r1 q29_9 q29_6) h (fun s o h=>Zx s o h) (by rfl) (fun _=>rfl) ?_
  rintro q38_13 h
  try dsimp only at h
  cases h;exact (by rfl)
 refine BslQ.o (slr true 1 Af) (Ar (List Int)) (by exact fun _=>⟨rfl,rfl⟩) (by first | rfl | (simp only [Aa,V.fz,fzL,V.up,upL,Ab,Ac,Ad,slr,List.cons_append,List.nil_append];done) | simp [Aa,V.fz,fzL,V.up,upL,Ab,Ac,Ad,slr]) ?_
 cases h;exact (by rfl)
noncomputable def C3 (p0:SPoset) (r3:SPoset):(Int×Int)→Option ((Int×Int) ⊕ Int):=fun (x7,x6)=>
 if x7<(↑p0.Below.length:Int) then
 (Afn fun n=>Ce n (r3) (x7)).bind fun r5=>
 ask (InI (r5+(1:Int))) <|
 (J5 (x6) (r5+(1:Int))).bind fun r7=>
 ask (InI (x7+(1:Int))) <|
 some (.inl (x7+(1:Int),r7))
 else
 some (.inr x6)
def Ju (p0:SPoset) (r3:SPoset):(Int×Int)→St:=fun s=>[(7,A.val (Af s.1)),(6,A.val (Af s.2)),(5,A.val ((rP true (Ag true)) (r3))),(4,A.val ((slr true 1 Af) (Ar Int))),(1,A.val ((rP true (Ag false)) (p0)))]
def N7 (p0:SPoset) (r3:SPoset):Int→Tgt
 | s=>((Ex.exit 0),[6,5,4,1],[(6,A.val (Af s)),(5,A.val ((rP true (Ag true)) (r3))),(4,A.val ((slr true 1 Af) (Ar Int))),(1,A.val ((rP true (Ag false)) (p0)))])
theorem Aax {p0:SPoset} {r3:SPoset} (s:(Int×Int)) (o:(Int×Int) ⊕ Int) (h:C3 p0 r3 s=some o):vc Try.prog Pq (Cc [7,6,5,4,1] (Ju p0 r3) (N7 p0 r3) o) (Ju p0 r3 s):=by
 obtain ⟨x7,x6⟩:=s
 unfold C3 at h
 try dsimp only at h
 refine Cells.lit rfl rfl<|Len.map<|Br.od h (fun p4 h=> ?_) (fun p4 h=> ?_)
 ·refine Cells.lit rfl rfl<|CallQ.rd Af (by first | rfl | simp only [V.fz,V.up,Ab,Ad] | simp [Aa,V.fz,fzL,V.up,upL,Ab,Ac,Ad,slr]) (fun _=>rfl) h (fun r h=>Yu h) (fun r5 h=> ?_)
  refine Ask.o h fun p6 h=>CallQ.o Af (by rfl) h (fun r h=>Aev h) (fun r7 h=> ?_)
  refine Ask.o h fun p8 h=> ?_
  cases h;exact ⟨rfl,rfl⟩
 cases h;exact ⟨rfl,rfl⟩
noncomputable def Cy (p0:SPoset) (r3:SPoset) (x6:Int) (x4:List Int):Int→Option (Int ⊕ Int):=fun x8=>
 (Afn fun n=>Ce n (r3) (x8)).bind fun r11=>
 ask (InI (r11+(1:Int))) <|
 if r11+(1:Int)<x6 then
 ask (InI (x8+(1:Int))) <|
 some (.inl (x8+(1:Int)))
 else
 if (↑x4.length:Int)>(0:Int) then
 ask (InI ((↑x4.length:Int)-(1:Int))) <|
 ask ((0:Int)≤(↑x4.length:Int)-(1:Int)∧(↑x4.length:Int)-(1:Int)<(↑x4.length:Int)) <|
 (Hh (p0) (nth x4 ((↑x4.length:Int)-(1:Int)).toNat) (x8)).bind fun r18=>
 if (r18)=true then
 some (.inr x8)
 else
 ask (InI (x8+(1:Int))) <|
 some (.inl (x8+(1:Int)))
 else
 some (.inr x8)
def Jx (p0:SPoset) (r3:SPoset) (x6:Int) (x4:List Int):Int→St:=fun s=>[(8,A.val (Af s)),(6,A.val (Af (x6))),(5,A.val ((rP true (Ag true)) (r3))),(4,A.val ((slr true 1 Af) (x4))),(1,A.val ((rP true (Ag false)) (p0)))]
def O5 (p0:SPoset) (r3:SPoset) (x6:Int) (x4:List Int):Int→Tgt
 | s=>((Ex.exit 4),[8,6,5,4,1],[(8,A.val (Af s)),(6,A.val (Af (x6))),(5,A.val ((rP true (Ag true)) (r3))),(4,A.val ((slr true 1 Af) (x4))),(1,A.val ((rP true (Ag false)) (p0)))])
theorem Aag {p0:SPoset} {r3:SPoset} {x6:Int} {x4:List Int} (x8:Int) (o:Int ⊕ Int) (h:Cy p0 r3 x6 x4 x8=some o):vc Try.prog P9 (Cc [8,6,5,4,1] (Jx p0 r3 x6 x4) (O5 p0 r3 x6 x4) o) (Jx p0 r3 x6 x4 x8):=by
 unfold Cy at h
 try dsimp only at h
 refine Cells.lit rfl rfl<|CallP.rd Af (by first | rfl | simp only [V.fz,V.up,Ab,Ad] | simp [Aa,V.fz,fzL,V.up,upL,Ab,Ac,Ad,slr]) (fun _=>rfl) h (fun r h=>Yu h) (fun r11 h=> ?_)
 refine Ask.o h fun p12 h=>Br.od h (fun p13 h=> ?_) (fun p13 h=> ?_)
 ·refine Br.yes<|Br.yes<|Br.yes<|Br.yes<|Br.yes<|Br.yes<|Ask.o h fun p14 h=> ?_
  cases h;exact ⟨rfl,rfl⟩
 refine Br.no<|Len.map<|Br.no<|Br.no<|Br.od h (fun p15 h=> ?_) (fun p15 h=> ?_)
 ·refine Cells.lit rfl rfl<|Br.yes<|Br.yes<|Br.yes<|Len.map<|Br.yes<|Ask.o h fun p16 h=>Br.yes<|Len.map<|Ask.o h fun p17 h=>Br.yes<|Cells.one (fun _=>⟨rfl,rfl⟩) (by first | omega | (simp [Ak] at * <;> omega))<|Br.yes<|Br.yes<|CallQ.o V.bool (by rfl) h (fun r h=>Ui h) (fun r18 h=> ?_)
  refine Br.yes<|Br.no<|Br.yes<|Br.no<|Br.flip<|Br.ob h (fun p19 h=> ?_) (fun p19 h=> ?_)
  ·cases h;exact ⟨rfl,rfl⟩
  refine Ask.o h fun p20 h=> ?_
  cases h;exact ⟨rfl,rfl⟩
 refine Br.no<|Br.no<|Br.no<|Br.no<|Br.no<|Br.no<|Br.no<|Br.no<|Br.no<|Br.no<|Br.no<|Br.no<|Br.no ?_
 cases h;exact ⟨rfl,rfl⟩
noncomputable def Du (p0:SPoset) (r3:SPoset):(Int×(List Int))→Option ((Int×(List Int)) ⊕ (List Int)):=fun (x6,x4)=>
 if x6>(0:Int) then
 (Aj (Cy p0 r3 x6 x4) (0:Int)).bind fun q21_8=>
 ask ((x4).length+([q21_8]).length≤LIM) <|
 ask (InI (x6-(1:Int))) <|
 some (.inl (x6-(1:Int),x4++[q21_8]))
 else
 some (.inr x4)
def Jz (p0:SPoset) (r3:SPoset):(Int×(List Int))→St:=fun s=>[(6,A.val (Af s.1)),(5,A.val ((rP true (Ag true)) (r3))),(4,A.val ((slr true 1 Af) s.2)),(1,A.val ((rP true (Ag false)) (p0)))]
def Ob (_p0:SPoset) (_r3:SPoset):(List Int)→Tgt
 | s=>((Ex.exit 2),[4],[(4,A.val ((slr true 1 Af) s))])
theorem Aau {p0:SPoset} {r3:SPoset} (s:(Int×(List Int))) (o:(Int×(List Int)) ⊕ (List Int)) (h:Du p0 r3 s=some o):vc Try.prog P0 (Cc [6,5,4,1] (Jz p0 r3) (Ob p0 r3) o) (Jz p0 r3 s):=by
 obtain ⟨x6,x4⟩:=s
 unfold Du at h
 try dsimp only at h
 refine Br.od h (fun p10 h=> ?_) (fun p10 h=> ?_)
 ·refine LoopQ.o [8,6,5,4,1] (Jx p0 r3 x6 x4) (O5 p0 r3 x6 x4) h (fun s o h=>Aag s o h) (by rfl) (fun _=>rfl) ?_
  rintro q21_8 h
  try dsimp only at h
  refine BslQ.o Af [q21_8] (by exact fun _=>⟨rfl,rfl⟩) (by first | rfl | (simp only [Aa,V.fz,fzL,V.up,upL,Ab,Ac,Ad,slr,List.cons_append,List.nil_append];done) | simp [Aa,V.fz,fzL,V.up,upL,Ab,Ac,Ad,slr])<|NoOwn.o (fun _=>rfl)<|AppQ.o (m:=1) Af (by exact fun _=>⟨rfl,rfl⟩) (x4) ([q21_8]) (by rfl) (by rfl) h fun h=>Ask.o h fun p22 h=> ?_
  cases h;exact ⟨rfl,rfl⟩
 cases h;exact ⟨rfl,rfl⟩
noncomputable def Gz (p0:SPoset):Option ((List Int)×Bool):=
 (Gi (p0)).bind fun r1=>
 if (r1)=true then
 (Ku (p0)).bind fun r3=>
 (Aj (C3 p0 r3) ((0:Int),(0:Int))).bind fun q9_6=>
 (Aj (Du p0 r3) (q9_6,Ar Int)).bind fun q23_4=>
 some (q23_4,true)
 else
 some (Ar Int,false)
theorem Adx {p0:SPoset} {v:((List Int)×Bool)} (h:Gz p0=some v):Ret Try.prog Mj [(Ag false) p0] ((fun r=>V.tup [(slr true 1 Af) r.1,V.bool r.2]) v):=by
 refine A6 Ad0 (Nat.le_of_ble_eq_true rfl) ?_
 unfold Gz at h
 refine BslQ.o Af (Ar Int) (by exact fun _=>⟨rfl,rfl⟩) (by first | rfl | (simp only [Aa,V.fz,fzL,V.up,upL,Ab,Ac,Ad,slr,List.cons_append,List.nil_append];done) | simp [Aa,V.fz,fzL,V.up,upL,Ab,Ac,Ad,slr])<|Cells.lit rfl rfl<|CallQ.o V.bool (by rfl) h (fun r h=>Pa h) (fun r1 h=> ?_)
 refine Br.flip<|Br.ob h (fun p2 h=> ?_) (fun p2 h=> ?_)
 ·refine Cells.lit rfl rfl<|CallQ.o (Ag true) (by rfl) h (fun r h=>Anq h) (fun r3 h=> ?_)
  refine SetKids.lit rfl<|LoopQ.o [7,6,5,4,1] (Ju p0 r3) (N7 p0 r3) h (fun s o h=>Aax s o h) (by rfl) (fun _=>rfl) ?_
  rintro q9_6 h
  try dsimp only at h
  refine LoopQ.o [6,5,4,1] (Jz p0 r3) (Ob p0 r3) h (fun s o h=>Aau s o h) (by rfl) (fun _=>rfl) ?_
  rintro q23_4 h
  try dsimp only at h
  cases h;exact (by rfl)
 cases h;exact (by rfl)
noncomputable def Ih (p0:SPoset):Option ((List (Int×Int))×Bool):=
 (Bj (p0)).bind fun r1=>
 if (r1.snd)=true then
 (Eo (r1.fst)).bind fun r3=>
 some (r3,true)
 else
 some (Ar (Int×Int),false)
theorem Agm {p0:SPoset} {v:((List (Int×Int))×Bool)} (h:Ih p0=some v):Ret Try.prog Ou [(Ag false) p0] ((fun r=>V.tup [(slr true 2 (rA2 Af)) r.1,V.bool r.2]) v):=by
 refine A6 Aih (Nat.le_of_ble_eq_true rfl) ?_
 unfold Ih at h
 refine Cells.lit rfl rfl<|CallQ.o (fun r=>V.tup [(slr true 1 (slr true 1 V.bool)) r.1,V.bool r.2]) (by rfl) h (fun r h=>Dk h) (fun r1 h=> ?_)
 refine Br.flip<|Br.ob h (fun p2 h=> ?_) (fun p2 h=> ?_)
 ·refine CallQ.rd (slr true 2 (rA2 Af)) (by first | rfl | simp only [V.fz,Ab,slr] | simp [Aa,V.fz,fzL,V.up,upL,Ab,Ac,Ad,slr]) (fun _=>by simp [V.noFz,Cu]) h (fun r h=>Xz h) (fun r3 h=> ?_)
  cases h;exact (by rfl)
 refine BslQ.o (rA2 Af) (Ar (Int×Int)) (by exact fun _=>⟨rfl,rfl⟩) (by first | rfl | (simp only [Aa,V.fz,fzL,V.up,upL,Ab,Ac,Ad,slr,List.cons_append,List.nil_append];done) | simp [Aa,V.fz,fzL,V.up,upL,Ab,Ac,Ad,slr]) ?_
 cases h;exact (by rfl)
end Go.Proofs.Ytpfikenknmlajaa.Ax
