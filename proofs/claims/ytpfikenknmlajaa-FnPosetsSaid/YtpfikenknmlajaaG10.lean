/-
 What the functions compute, as functions on plain data, and that the program does compute it; written by program.
-/
import Derived.Test.YtpfikenknmlajaaCode
import Derived.Test.YtpfikenknmlajaaG6
namespace Go.Proofs.Ytpfikenknmlajaa.Ax
open Go
set_option maxRecDepth 100000
set_option maxHeartbeats 4000000
noncomputable def B4 (o0:List (List Bool)) (x9:Int):(Int×(List (Int×Int)))→Option ((Int×(List (Int×Int))) ⊕ (List (Int×Int))):=fun (x14,x3')=>
 if x14<(↑o0.length:Int) then
 (G2 (o0) (x9) (x14)).bind fun r3=>
 if (r3)=true then
 ask ((x3').length+([(x9,x14)]).length≤LIM) <|
 ask (InI (x14+(1:Int))) <|
 some (.inl (x14+(1:Int),x3'++[(x9,x14)]))
 else
 ask (InI (x14+(1:Int))) <|
 some (.inl (x14+(1:Int),x3'))
 else
 some (.inr x3')
def Hm (o0:List (List Bool)) (x9:Int):(Int×(List (Int×Int)))→St:=fun s=>[(14,A.val (Af s.1)),(13,A.val (Af ((↑o0.length:Int)))),(4,A.val (Af (x9))),(9,A.val (Af (x9))),(8,A.val (Af ((↑o0.length:Int)))),(3,A.val ((slr true 2 (rA2 Af)) s.2)),(0,A.val ((slr false 1 (slr false 1 V.bool)) (o0)))]
def Lo (o0:List (List Bool)) (x9:Int):(List (Int×Int))→Tgt
 | s=>((Ex.exit 2),[9,8,3,0],[(9,A.val (Af (x9))),(8,A.val (Af ((↑o0.length:Int)))),(3,A.val ((slr true 2 (rA2 Af)) s)),(0,A.val ((slr false 1 (slr false 1 V.bool)) (o0)))])
theorem Ty {o0:List (List Bool)} {x9:Int} (s:(Int×(List (Int×Int)))) (o:(Int×(List (Int×Int))) ⊕ (List (Int×Int))) (h:B4 o0 x9 s=some o):vc Try.prog K7 (Cc [14,13,4,9,8,3,0] (Hm o0 x9) (Lo o0 x9) o) (Hm o0 x9 s):=by
 obtain ⟨x14,x3'⟩:=s
 unfold B4 at h
 try dsimp only at h
 refine Br.od h (fun p2 h=> ?_) (fun p2 h=> ?_)
 ·refine CallQ.o V.bool (by rfl) h (fun r h=>Aed h) (fun r3 h=> ?_)
  refine Br.ob h (fun p4 h=> ?_) (fun p4 h=> ?_)
  ·refine BslQ.o (rA2 Af) ([(x9,x14)]) (by exact fun _=>⟨rfl,rfl⟩) (by first | rfl | (simp only [Aa,V.fz,fzL,V.up,upL,Ab,Ac,Ad,slr,List.cons_append,List.nil_append];done) | simp [Aa,V.fz,fzL,V.up,upL,Ab,Ac,Ad,slr])<|NoOwn.o (fun _=>rfl)<|AppQ.o (m:=2) (rA2 Af) (by exact fun _=>⟨rfl,rfl⟩) (x3') ([(x9,x14)]) (by rfl) (by rfl) h fun h=>Ask.o h fun p5 h=> ?_
   cases h;exact ⟨rfl,rfl⟩
  refine Ask.o h fun p6 h=> ?_
  cases h;exact ⟨rfl,rfl⟩
 cases h;exact ⟨rfl,rfl⟩
noncomputable def B5 (o0:List (List Bool)):(Int×(List (Int×Int)))→Option ((Int×(List (Int×Int))) ⊕ (List (Int×Int))):=fun (x9,x3)=>
 if x9<(↑o0.length:Int) then
 (Aj (B4 o0 x9) ((0:Int),x3)).bind fun q7_3=>
 ask (InI (x9+(1:Int))) <|
 some (.inl (x9+(1:Int),q7_3))
 else
 some (.inr x3)
def Hi (o0:List (List Bool)):(Int×(List (Int×Int)))→St:=fun s=>[(9,A.val (Af s.1)),(8,A.val (Af ((↑o0.length:Int)))),(3,A.val ((slr true 2 (rA2 Af)) s.2)),(0,A.val ((slr false 1 (slr false 1 V.bool)) (o0)))]
def K3 (_o0:List (List Bool)):(List (Int×Int))→Tgt
 | s=>((Ex.exit 0),[3],[(3,A.val ((slr true 2 (rA2 Af)) s))])
theorem Tx {o0:List (List Bool)} (s:(Int×(List (Int×Int)))) (o:(Int×(List (Int×Int))) ⊕ (List (Int×Int))) (h:B5 o0 s=some o):vc Try.prog K9 (Cc [9,8,3,0] (Hi o0) (K3 o0) o) (Hi o0 s):=by
 obtain ⟨x9,x3⟩:=s
 unfold B5 at h
 try dsimp only at h
 refine Br.od h (fun p1 h=> ?_) (fun p1 h=> ?_)
 ·refine Len.map<|LoopQ.o [14,13,4,9,8,3,0] (Hm o0 x9) (Lo o0 x9) h (fun s o h=>Ty s o h) (by rfl) (fun _=>rfl) ?_
  rintro q7_3 h
  try dsimp only at h
  refine Ask.o h fun p8 h=> ?_
  cases h;exact ⟨rfl,rfl⟩
 cases h;exact ⟨rfl,rfl⟩
noncomputable def Eo (o0:(List (List Bool))):Option (List (Int×Int)):=
 (Aj (B5 o0) ((0:Int),Ar (Int×Int))).bind fun q9_3=>
 some q9_3
theorem Xz {o0:(List (List Bool))} {v:(List (Int×Int))} (h:Eo o0=some v):Ret Try.prog I2 [(slr false 1 (slr false 1 V.bool)) o0] ((slr true 2 (rA2 Af)) v):=by
 refine A6 Yi (Nat.le_of_ble_eq_true rfl) ?_
 unfold Eo at h
 refine BslQ.o (rA2 Af) (Ar (Int×Int)) (by exact fun _=>⟨rfl,rfl⟩) (by first | rfl | (simp only [Aa,V.fz,fzL,V.up,upL,Ab,Ac,Ad,slr,List.cons_append,List.nil_append];done) | simp [Aa,V.fz,fzL,V.up,upL,Ab,Ac,Ad,slr])<|Len.map<|LoopQ.o [9,8,3,0] (Hi o0) (K3 o0) h (fun s o h=>Tx s o h) (by rfl) (fun _=>rfl) ?_
 rintro q9_3 h
 try dsimp only at h
 cases h;exact (by rfl)
noncomputable def Gf (x0:Int) (a1:(List (List Bool))):Option Bool:=
 (E6 (a1) (fun w_0=>Fh w_0 (a1) (x0))).bind fun r1=>
 some r1
theorem Xp {x0:Int} {a1:(List (List Bool))} {v:Bool} (h:Gf x0 a1=some v):Ret Try.prog Gb [Af x0,(rP false (slr false 1 (slr false 1 V.bool))) a1] (V.bool v):=by
 refine A6 Xb (Nat.le_of_ble_eq_true rfl) ?_
 unfold Gf at h
 refine CallQ.rd V.bool (by rfl) (fun _=>rfl) h (fun r h=>Pr (f_so0:=Ew) (c_so0:=[(rP false (slr false 1 (slr false 1 V.bool))) (a1),(rP false Af) (x0)]) (fun w_0 v h=>Ret.cast (by rfl) (U5 h)) h) (fun r1 h=> ?_)
 cases h;exact (by rfl)
noncomputable def Gg (x0:Int) (a1:(List (List Bool))):Option Bool:=
 (E6 (a1) (fun w_0=>Fa w_0 (a1) (x0))).bind fun r1=>
 some r1
theorem Xd {x0:Int} {a1:(List (List Bool))} {v:Bool} (h:Gg x0 a1=some v):Ret Try.prog F9 [Af x0,(rP false (slr false 1 (slr false 1 V.bool))) a1] (V.bool v):=by
 refine A6 Xg (Nat.le_of_ble_eq_true rfl) ?_
 unfold Gg at h
 refine CallQ.rd V.bool (by rfl) (fun _=>rfl) h (fun r h=>Pr (f_so0:=E1) (c_so0:=[(rP false (slr false 1 (slr false 1 V.bool))) (a1),(rP false Af) (x0)]) (fun w_0 v h=>Ret.cast (by rfl) (U4 h)) h) (fun r1 h=> ?_)
 cases h;exact (by rfl)
noncomputable def De (p0:SPoset) (some0:List Int) (x5:Int):Int→Option (Int ⊕ (Unit ⊕ Unit)):=fun x6=>
 if x6<x5 then
 ask ((0:Int)≤x6∧x6<(↑some0.length:Int)) <|
 ask ((0:Int)≤x5∧x5<(↑some0.length:Int)) <|
 (Gc (p0) (nth some0 x6.toNat) (nth some0 x5.toNat)).bind fun r5=>
 if (r5)=true then
 some (.inr (.inl ()))
 else
 ask ((0:Int)≤x5∧x5<(↑some0.length:Int)) <|
 ask ((0:Int)≤x6∧x6<(↑some0.length:Int)) <|
 (Gc (p0) (nth some0 x5.toNat) (nth some0 x6.toNat)).bind fun r9=>
 if (r9)=true then
 some (.inr (.inl ()))
 else
 ask (InI (x6+(1:Int))) <|
 some (.inl (x6+(1:Int)))
 else
 some (.inr (.inr ()))
def N4 (p0:SPoset) (some0:List Int) (x5:Int):Int→St:=fun s=>[(6,A.val (Af s)),(5,A.val (Af (x5))),(2,A.val ((rP true (Ag false)) (p0))),(1,A.val ((slr false 1 Af) (some0)))]
def Wr (p0:SPoset) (some0:List Int) (x5:Int):(Unit ⊕ Unit)→Tgt
 | (.inl _s)=>(Ex.ret,[4],[(4,A.val (V.bool (false)))])
 | (.inr _s)=>((Ex.exit 2),[5,2,1],[(5,A.val (Af (x5))),(2,A.val ((rP true (Ag false)) (p0))),(1,A.val ((slr false 1 Af) (some0)))])
theorem Ago {p0:SPoset} {some0:List Int} {x5:Int} (x6:Int) (o:Int ⊕ (Unit ⊕ Unit)) (h:De p0 some0 x5 x6=some o):vc Try.prog W1 (Cc [6,5,2,1] (N4 p0 some0 x5) (Wr p0 some0 x5) o) (N4 p0 some0 x5 x6):=by
 unfold De at h
 try dsimp only at h
 refine Br.od h (fun p2 h=> ?_) (fun p2 h=> ?_)
 ·refine Cells.lit rfl rfl<|Len.map<|Ask.o h fun p3 h=>Elem.o (by first | omega | (simp [Ak] at * <;> omega))<|Len.map<|Ask.o h fun p4 h=>Elem.o (by first | omega | (simp [Ak] at * <;> omega))<|CallP.o V.bool (by rfl) h (fun r h=>Rj h) (fun r5 h=> ?_)
  refine Br.ob h (fun p6 h=> ?_) (fun p6 h=> ?_)
  ·refine Br.yes<|Br.yes<|Br.yes<|Br.yes<|Br.yes<|Br.yes<|Br.yes<|Br.yes<|Br.yes<|Br.yes<|Br.yes ?_
   cases h;exact ⟨rfl,rfl⟩
  refine Cells.lit rfl rfl<|Br.no<|Br.no<|Br.no<|Len.map<|Ask.o h fun p7 h=>Elem.o (by first | omega | (simp [Ak] at * <;> omega))<|Br.no<|Br.no<|Br.no<|Br.no<|Len.map<|Ask.o h fun p8 h=>Elem.o (by first | omega | (simp [Ak] at * <;> omega))<|Br.no<|Br.no<|CallQ.o V.bool (by rfl) h (fun r h=>Rj h) (fun r9 h=> ?_)
  refine Br.no<|Br.ob h (fun p10 h=> ?_) (fun p10 h=> ?_)
  ·cases h;exact ⟨rfl,rfl⟩
  refine Ask.o h fun p11 h=> ?_
  cases h;exact ⟨rfl,rfl⟩
 cases h;exact ⟨rfl,rfl⟩
noncomputable def E7 (p0:SPoset) (some0:List Int):Int→Option (Int ⊕ (Unit ⊕ Unit)):=fun x5=>
 if x5<(↑some0.length:Int) then
 (Aj (De p0 some0 x5) (0:Int)).bind fun t=>match t with
 | (.inl _)=>(some (.inr (.inl ())))
 | (.inr _)=>(ask (InI (x5+(1:Int))) <|
 some (.inl (x5+(1:Int))))
 else
 some (.inr (.inr ()))
def N1 (p0:SPoset) (some0:List Int):Int→St:=fun s=>[(5,A.val (Af s)),(2,A.val ((rP true (Ag false)) (p0))),(1,A.val ((slr false 1 Af) (some0)))]
def Wi (_p0:SPoset) (_some0:List Int):(Unit ⊕ Unit)→Tgt
 | (.inl _s)=>(Ex.ret,[4],[(4,A.val (V.bool (false)))])
 | (.inr _s)=>((Ex.exit 0),[],[])
theorem Ai1 {p0:SPoset} {some0:List Int} (x5:Int) (o:Int ⊕ (Unit ⊕ Unit)) (h:E7 p0 some0 x5=some o):vc Try.prog Wx (Cc [5,2,1] (N1 p0 some0) (Wi p0 some0) o) (N1 p0 some0 x5):=by
 unfold E7 at h
 try dsimp only at h
 refine Len.map<|Br.od h (fun p1 h=> ?_) (fun p1 h=> ?_)
 ·refine LoopQ.o [6,5,2,1] (N4 p0 some0 x5) (Wr p0 some0 x5) h (fun s o h=>Ago s o h) (by rfl) (by rintro (_ | _)<;>rfl) ?_
  rintro (⟨⟩ | ⟨⟩) h
  ·try dsimp only at h
   cases h;exact ⟨rfl,rfl⟩
  try dsimp only at h
  refine Ask.o h fun p13 h=> ?_
  cases h;exact ⟨rfl,rfl⟩
 cases h;exact ⟨rfl,rfl⟩
noncomputable def Hg (p0:SPoset) (some0:(List Int)):Option Bool:=
 (Aj (E7 p0 some0) (0:Int)).bind fun t=>match t with
 | (.inl _)=>(some false)
 | (.inr _)=>(some true)
theorem Ab6 {p0:SPoset} {some0:(List Int)} {v:Bool} (h:Hg p0 some0=some v):Ret Try.prog Uf [(Ag false) p0,(slr false 1 Af) some0] (V.bool v):=by
 refine A6 Ao4 (Nat.le_of_ble_eq_true rfl) ?_
 unfold Hg at h
 refine LoopQ.o [5,2,1] (N1 p0 some0) (Wi p0 some0) h (fun s o h=>Ai1 s o h) (by rfl) (by rintro (_ | _)<;>rfl) ?_
 rintro (⟨⟩ | ⟨⟩) h
 ·try dsimp only at h
  cases h;exact (by rfl)
 try dsimp only at h
 cases h;exact (by rfl)
noncomputable def F5 (c0:Sl1Cur) (list0:(List Int)):Option (Int×Sl1Cur):=
 (Bp (c0) ((↑list0.length:Int))).bind fun (r1,u2)=>
 ask ((0:Int)≤r1∧r1<(↑list0.length:Int)) <|
 some (nth list0 r1.toNat,u2)
theorem Ug {c0:Sl1Cur} {list0:(List Int)} {v:(Int×Sl1Cur)} (h:F5 c0 list0=some v):Aey Try.prog Je [(rP true (At false)) c0,(slr false 1 Af) list0] (Af v.1) 0 ((rP true (At false)) v.2):=by
 refine Aij Afo (Nat.le_of_ble_eq_true rfl) ?_
 unfold F5 at h
 refine Len.map<|CallQ.io Af (rP true (At false)) (by rfl) rfl (fun _=>rfl) (fun _=>⟨rfl,rfl⟩) rfl h (fun r h=>Dc h) (fun r1 u2 h=> ?_)
 refine Len.map<|Ask.o h fun p3 h=>Elem.o (by first | omega | (simp [Ak] at * <;> omega)) ?_
 cases h;exact ⟨(by rfl),(by rfl)⟩
noncomputable def Dw (c0:Sl1Cur) (n0:Int):Option (Bool×Sl1Cur):=
 (Bp (c0) (n0)).bind fun (r1,u2)=>
 some (r1==(0:Int),u2)
theorem Qz {c0:Sl1Cur} {n0:Int} {v:(Bool×Sl1Cur)} (h:Dw c0 n0=some v):Aey Try.prog Iu [(rP true (At false)) c0,Af n0] (V.bool v.1) 0 ((rP true (At false)) v.2):=by
 refine Aij Ajy (Nat.le_of_ble_eq_true rfl) ?_
 unfold Dw at h
 refine CallQ.io Af (rP true (At false)) (by rfl) rfl (fun _=>rfl) (fun _=>⟨rfl,rfl⟩) rfl h (fun r h=>Dc h) (fun r1 u2 h=> ?_)
 cases h;exact ⟨(by rfl),(by rfl)⟩
noncomputable def F8 (l0:List Int) (n0:Int):(Int×(List Bool))→Option ((Int×(List Bool)) ⊕ (Unit ⊕ Unit)):=fun (x6,x5)=>
 if x6<n0 then
 ask ((0:Int)≤x6∧x6<(↑l0.length:Int)) <|
 ask ((0:Int)≤nth l0 x6.toNat∧nth l0 x6.toNat<(↑x5.length:Int)) <|
 if (nth x5 (nth l0 x6.toNat).toNat)=true then
 some (.inr (.inl ()))
 else
 ask ((0:Int)≤x6∧x6<(↑l0.length:Int)) <|
 ask ((0:Int)≤nth l0 x6.toNat∧nth l0 x6.toNat<(↑x5.length:Int)) <|
 ask (InI (x6+(1:Int))) <|
 some (.inl (x6+(1:Int),x5.set (nth l0 x6.toNat).toNat true))
 else
 some (.inr (.inr ()))
def Qw (l0:List Int) (n0:Int):(Int×(List Bool))→St:=fun s=>[(6,A.val (Af s.1)),(5,A.val ((slr true 1 V.bool) s.2)),(0,A.val ((slr false 1 Af) (l0))),(1,A.val (Af (n0)))]
def X8 (_l0:List Int) (_n0:Int):(Unit ⊕ Unit)→Tgt
 | (.inl _s)=>(Ex.ret,[4],[(4,A.val (V.bool (false)))])
 | (.inr _s)=>((Ex.exit 0),[],[])
theorem Ajp {l0:List Int} {n0:Int} (s:(Int×(List Bool))) (o:(Int×(List Bool)) ⊕ (Unit ⊕ Unit)) (h:F8 l0 n0 s=some o):vc Try.prog Yb (Cc [6,5,0,1] (Qw l0 n0) (X8 l0 n0) o) (Qw l0 n0 s):=by
 obtain ⟨x6,x5⟩:=s
 unfold F8 at h
 try dsimp only at h
 refine Br.od h (fun p6 h=> ?_) (fun p6 h=> ?_)
 ·refine Len.map<|Ask.o h fun p7 h=>Elem.o (by first | omega | (simp [Ak] at * <;> omega))<|Len.map<|Ask.o h fun p8 h=>Cells.one (fun _=>⟨rfl,rfl⟩) (by first | omega | (simp [Ak] at * <;> omega))<|Br.ob h (fun p9 h=> ?_) (fun p9 h=> ?_)
  ·cases h;exact ⟨rfl,rfl⟩
  refine Len.map<|Ask.o h fun p10 h=>Elem.o (by first | omega | (simp [Ak] at * <;> omega))<|Len.map<|Ask.o h fun p11 h=>SetKids.one (fun _=>⟨rfl,rfl⟩) (true) (by rfl) (by first | omega | (simp [Ak] at * <;> omega))<|Ask.o h fun p12 h=> ?_
  cases h;exact ⟨rfl,rfl⟩
 cases h;exact ⟨rfl,rfl⟩
noncomputable def J6 (l0:(List Int)) (n0:Int):Option Bool:=
 ((if (↑l0.length:Int)≠n0 then
 some (.inl ())
 else
 (Ik (n0) (l0)).bind fun r2=>
 if (r2)=true then
 some (.inr ())
 else
 some (.inl ()):Option (Unit ⊕ Unit))).bind fun t=>match t with
 | (.inl _)=>(some false)
 | (.inr _)=>(ask ((0:Int)≤n0∧n0≤(↑LIM:Int)) <|
 (Aj (F8 l0 n0) ((0:Int),List.replicate n0.toNat false)).bind fun t=>match t with
 | (.inl _)=>(some false)
 | (.inr _)=>(some true))
theorem Aq2 {l0:(List Int)} {n0:Int} {v:Bool} (h:J6 l0 n0=some v):Ret Try.prog Xi [(slr false 1 Af) l0,Af n0] (V.bool v):=by
 refine A6 Aqm (Nat.le_of_ble_eq_true rfl) ?_
 unfold J6 at h
 refine CutQ.o (fun t:(Unit ⊕ Unit)=>match t with | (.inl s)=>(Ex.ret,[4],[(4,A.val (V.bool (false)))]) | (.inr s)=>(Ex.normal,[0,1],[(0,A.val ((slr false 1 Af) (l0))),(1,A.val (Af (n0)))])) h ?_ ?_
 ·intro t h
  refine Len.map<|Br.on h (fun p1 h=> ?_) (fun p1 h=> ?_)
  ·refine Br.yes<|Br.yes<|Br.yes<|Br.yes<|Br.yes ?_
   cases h;exact ⟨rfl,rfl⟩
  refine Br.no<|Br.no<|CallQ.o V.bool (by rfl) h (fun r h=>Aiw h) (fun r2 h=> ?_)
  refine Br.no<|Br.no<|Br.flip<|Br.ob h (fun p3 h=> ?_) (fun p3 h=> ?_)
  ·cases h;exact ⟨rfl,rfl⟩
  cases h;exact ⟨rfl,rfl⟩
 rintro (⟨⟩ | ⟨⟩) h
 ·try dsimp only at h
  cases h;exact (by rfl)
 try dsimp only at h
 refine Ask.o h fun p5 h=>MkQ.o V.bool (false) rfl<|LoopQ.o [6,5,0,1] (Qw l0 n0) (X8 l0 n0) h (fun s o h=>Ajp s o h) (by rfl) (by rintro (_ | _)<;>rfl) ?_
 rintro (⟨⟩ | ⟨⟩) h
 ·try dsimp only at h
  cases h;exact (by rfl)
 try dsimp only at h
 cases h;exact (by rfl)
end Go.Proofs.Ytpfikenknmlajaa.Ax
