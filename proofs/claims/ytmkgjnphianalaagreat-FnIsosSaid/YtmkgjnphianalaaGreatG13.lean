/-
 What the functions compute, as functions on plain data, and that the program does compute it; written by program.
-/
import Derived.Test.YtmkgjnphianalaaGreatCode
import Derived.Test.YtmkgjnphianalaaGreatG1
import Derived.Test.YtmkgjnphianalaaGreatG2
import Derived.Test.YtmkgjnphianalaaGreatG7
import Derived.Test.YtmkgjnphianalaaGreatG8
import Derived.Test.YtmkgjnphianalaaGreatG9
import Derived.Test.YtmkgjnphianalaaGreatG11
import Derived.Test.YtmkgjnphianalaaGreatG12
namespace Go.Proofs.YtmkgjnphianalaaGreat.Ax
open Go
set_option maxRecDepth 100000
set_option maxHeartbeats 4000000
noncomputable def Fs (a0:SAlgebra) (_b0:SAlgebra) (_embed0:Bool) (_found0:List (List Int)):(Int×(List Int))→Option ((Int×(List Int)) ⊕ (List Int)):=fun (x23,x10)=>
 if x23<(↑a0.Size.toNat:Int) then
 ask ((0:Int)≤x23∧x23<(↑x10.length:Int)) <|
 ask (InI (x23+(1:Int))) <|
 some (.inl (x23+(1:Int),x10.set x23.toNat (-1:Int)))
 else
 some (.inr x10)
def Kj (gv:Value) (a0:SAlgebra) (b0:SAlgebra) (embed0:Bool) (found0:List (List Int)):(Int×(List Int))→St:=fun s=>[(23,A.val (Ag s.1)),(22,A.val (Ag ((↑a0.Size.toNat:Int)))),(10,A.val ((slr true 1 Ag) s.2)),(9,A.val ((rP true (Bl gv)) ({ a:=a0,b:=b0,embed:=embed0,tries:=(0:Int),found:=Sum.inl found0 }))),(44,A.val (V.raw gv))]
def Q3 (gv:Value) (a0:SAlgebra) (b0:SAlgebra) (embed0:Bool) (found0:List (List Int)):(List Int)→Tgt
 | s=>((Ex.exit 0),[10,9,44],[(10,A.val ((slr true 1 Ag) s)),(9,A.val ((rP true (Bl gv)) ({ a:=a0,b:=b0,embed:=embed0,tries:=(0:Int),found:=Sum.inl found0 }))),(44,A.val (V.raw gv))])
theorem Acr {gv:Value} {a0:SAlgebra} {b0:SAlgebra} {embed0:Bool} {found0:List (List Int)} (s:(Int×(List Int))) (o:(Int×(List Int)) ⊕ (List Int)) (h:Fs a0 b0 embed0 found0 s=some o):vc Tryz.prog Kk (Cr [23,22,10,9,44] (Kj gv a0 b0 embed0 found0) (Q3 gv a0 b0 embed0 found0) o) (Kj gv a0 b0 embed0 found0 s):=by
 obtain ⟨x23,x10⟩:=s
 unfold Fs at h
 try dsimp only at h
 refine Br.od h (fun p2 h=> ?_) (fun p2 h=> ?_)
 ·refine Len.map<|Ask.o h fun p3 h=>SetKids.one (fun _=>⟨rfl,rfl⟩) ((-1:Int)) (by rfl) (by first | omega | (simp [Aq] at * <;> omega))<|Ask.o h fun p4 h=> ?_
  cases h;exact ⟨rfl,rfl⟩
 cases h;exact ⟨rfl,rfl⟩
noncomputable def Eg (a0:SAlgebra) (_b0:SAlgebra) (_embed0:Bool) (_found0:Unit×Option (List Int)):(Int×(List Int))→Option ((Int×(List Int)) ⊕ (List Int)):=fun (x23,x10)=>
 if x23<(↑a0.Size.toNat:Int) then
 ask ((0:Int)≤x23∧x23<(↑x10.length:Int)) <|
 ask (InI (x23+(1:Int))) <|
 some (.inl (x23+(1:Int),x10.set x23.toNat (-1:Int)))
 else
 some (.inr x10)
def Iy (gv:Value) (a0:SAlgebra) (b0:SAlgebra) (embed0:Bool) (found0:Unit×Option (List Int)):(Int×(List Int))→St:=fun s=>[(23,A.val (Ag s.1)),(22,A.val (Ag ((↑a0.Size.toNat:Int)))),(10,A.val ((slr true 1 Ag) s.2)),(9,A.val ((rP true (Bl gv)) ({ a:=a0,b:=b0,embed:=embed0,tries:=(0:Int),found:=Sum.inr ((),found0.snd) }))),(44,A.val (V.raw gv))]
def Nz (gv:Value) (a0:SAlgebra) (b0:SAlgebra) (embed0:Bool) (found0:Unit×Option (List Int)):(List Int)→Tgt
 | s=>((Ex.exit 0),[10,9,44],[(10,A.val ((slr true 1 Ag) s)),(9,A.val ((rP true (Bl gv)) ({ a:=a0,b:=b0,embed:=embed0,tries:=(0:Int),found:=Sum.inr ((),found0.snd) }))),(44,A.val (V.raw gv))])
theorem Z2 {gv:Value} {a0:SAlgebra} {b0:SAlgebra} {embed0:Bool} {found0:Unit×Option (List Int)} (s:(Int×(List Int))) (o:(Int×(List Int)) ⊕ (List Int)) (h:Eg a0 b0 embed0 found0 s=some o):vc Tryz.prog Kk (Cr [23,22,10,9,44] (Iy gv a0 b0 embed0 found0) (Nz gv a0 b0 embed0 found0) o) (Iy gv a0 b0 embed0 found0 s):=by
 obtain ⟨x23,x10⟩:=s
 unfold Eg at h
 try dsimp only at h
 refine Br.od h (fun p12 h=> ?_) (fun p12 h=> ?_)
 ·refine Len.map<|Ask.o h fun p13 h=>SetKids.one (fun _=>⟨rfl,rfl⟩) ((-1:Int)) (by rfl) (by first | omega | (simp [Aq] at * <;> omega))<|Ask.o h fun p14 h=> ?_
  cases h;exact ⟨rfl,rfl⟩
 cases h;exact ⟨rfl,rfl⟩
noncomputable def Dq (a0:SAlgebra) (b0:SAlgebra) (embed0:Bool) (found0:(((List (List Int))) ⊕ ((Unit)×(Option (List Int))))):Option (Bool×(((List (List Int))) ⊕ ((Unit)×(Option (List Int))))):=
 match found0 with
 | (.inl found0)=>(ask ((0:Int)≤a0.Size∧a0.Size≤(↑LIM:Int)) <|
 (Aj (Fs a0 b0 embed0 found0) ((0:Int),List.replicate a0.Size.toNat (0:Int))).bind fun q5_10=>
 (Bt ({ a:=a0,b:=b0,embed:=embed0,tries:=(0:Int),found:=Sum.inl found0 }) (q5_10)).bind fun (r6,u7)=>
 if (r6)=true then
 (Alw fun n=>A7 n ({ a:=a0,b:=b0,embed:=embed0,tries:=(0:Int),found:=Sum.inl found0 }) (u7)).bind fun (_r9,u10)=>
 some (decide (u10.tries≤(5000:Int)),u10.found)
 else
 some (decide ((0:Int)≤(5000:Int)),Sum.inl found0))
 | (.inr found0)=>(ask ((0:Int)≤a0.Size∧a0.Size≤(↑LIM:Int)) <|
 (Aj (Eg a0 b0 embed0 found0) ((0:Int),List.replicate a0.Size.toNat (0:Int))).bind fun q15_10=>
 (Bt ({ a:=a0,b:=b0,embed:=embed0,tries:=(0:Int),found:=Sum.inr ((),found0.snd) }) (q15_10)).bind fun (r16,u17)=>
 if (r16)=true then
 (Alw fun n=>A7 n ({ a:=a0,b:=b0,embed:=embed0,tries:=(0:Int),found:=Sum.inr ((),found0.snd) }) (u17)).bind fun (_r19,u20)=>
 some (decide (u20.tries≤(5000:Int)),u20.found)
 else
 some (decide ((0:Int)≤(5000:Int)),Sum.inr ((),found0.snd)))
theorem Wb {gv:Value} {a0:SAlgebra} {b0:SAlgebra} {embed0:Bool} {found0:(((List (List Int))) ⊕ ((Unit)×(Option (List Int))))} {v:(Bool×(((List (List Int))) ⊕ ((Unit)×(Option (List Int)))))} (h:Dq a0 b0 embed0 found0=some v):I9 Tryz.prog J7 [(Ae false) a0,(Ae false) b0,V.bool embed0,(Cb gv) found0] (V.bool v.1) 3 ((Cb gv) v.2):=by
 refine Lg Ahz (Nat.le_of_ble_eq_true rfl) ?_
 unfold Dq at h
 rcases found0 with found0 | found0
 ·try dsimp only at h
  refine Cells.lit rfl rfl<|Cells.lit rfl rfl<|Cells.lit rfl rfl<|Ask.o h fun p1 h=>MkQ.o Ag ((0:Int)) rfl<|Len.mrep<|LoopQ.o [23,22,10,9,44] (Kj gv a0 b0 embed0 found0) (Q3 gv a0 b0 embed0 found0) h (fun s o h=>Acr s o h) (by rfl) (fun _=>rfl) ?_
  rintro q5_10 h
  try dsimp only at h
  refine CallQ.io V.bool (slr true 1 Ag) (by rfl) rfl (fun _=>rfl) (fun _=>⟨by first | rfl | simp [C7,V.noFz,Bs],rfl⟩) rfl h (fun r h=>J3 h) (fun r6 u7 h=> ?_)
  refine Br.ob h (fun p8 h=> ?_) (fun p8 h=> ?_)
  ·refine CallQ.io V.bool (rP true (Bl gv)) (by first | rfl | simp only [V.fz,Ab,slr] | simp [Aa,V.fz,fzL,V.up,upL,Ab,Ac,Ad,slr]) rfl (fun _=>rfl) (fun _=>⟨rfl,rfl⟩) rfl h (fun r h=>Ni h) (fun r9 u10 h=> ?_)
   refine Cells.lit rfl rfl<|Kid.lit rfl rfl<|TokE.mk ⟨_,_,rfl,?_⟩
   refine Kid.lit rfl rfl<|SetKids.lit rfl ?_
   cases h;exact ⟨(by rfl),(by rfl)⟩
  refine Cells.lit rfl rfl<|Kid.lit rfl rfl<|TokE.mk ⟨_,_,rfl,?_⟩
  refine Kid.lit rfl rfl<|SetKids.lit rfl ?_
  cases h;exact ⟨(by rfl),(by rfl)⟩
 try dsimp only at h
 refine Cells.lit rfl rfl<|Cells.lit rfl rfl<|Cells.lit rfl rfl<|Ask.o h fun p11 h=>MkQ.o Ag ((0:Int)) rfl<|Len.mrep<|LoopQ.o [23,22,10,9,44] (Iy gv a0 b0 embed0 found0) (Nz gv a0 b0 embed0 found0) h (fun s o h=>Z2 s o h) (by rfl) (fun _=>rfl) ?_
 rintro q15_10 h
 try dsimp only at h
 refine CallQ.io V.bool (slr true 1 Ag) (by rfl) rfl (fun _=>rfl) (fun _=>⟨by first | rfl | simp [C7,V.noFz,Bs],rfl⟩) rfl h (fun r h=>J3 h) (fun r16 u17 h=> ?_)
 refine Br.ob h (fun p18 h=> ?_) (fun p18 h=> ?_)
 ·refine CallQ.io V.bool (rP true (Bl gv)) (by first | rfl | simp only [V.fz,Ab,slr] | simp [Aa,V.fz,fzL,V.up,upL,Ab,Ac,Ad,slr]) rfl (fun _=>rfl) (fun _=>⟨rfl,rfl⟩) rfl h (fun r h=>Ni h) (fun r19 u20 h=> ?_)
  refine Cells.lit rfl rfl<|Kid.lit rfl rfl<|TokE.mk ⟨_,_,rfl,?_⟩
  refine Kid.lit rfl rfl<|SetKids.lit rfl ?_
  cases h;exact ⟨(by rfl),(by rfl)⟩
 refine Cells.lit rfl rfl<|Kid.lit rfl rfl<|TokE.mk ⟨_,_,rfl,?_⟩
 refine Kid.lit rfl rfl<|SetKids.lit rfl ?_
 cases h;exact ⟨(by rfl),(by rfl)⟩
noncomputable def Jd (a0:SAlgebra):(Int×(List (List Int)))→Option ((Int×(List (List Int))) ⊕ (List (List Int))):=fun (x4,x3)=>
 ask ((0:Int)≤a0.Size) <|
 if x4<A3m (1:Int) a0.Size then
 (Lv (x4)).bind fun r3=>
 (Rf (a0) (r3)).bind fun r4=>
 if (r4)=true then
 (L1 (x3) (r3)).bind fun r6=>
 ask (InI (x4+(1:Int))) <|
 some (.inl (x4+(1:Int),r6))
 else
 ask (InI (x4+(1:Int))) <|
 some (.inl (x4+(1:Int),x3))
 else
 some (.inr x3)
def Sj (a0:SAlgebra):(Int×(List (List Int)))→St:=fun s=>[(4,A.val (Ag s.1)),(3,A.val ((slr true 1 (slr false 1 Ag)) s.2)),(1,A.val ((rP true (Ae false)) (a0)))]
def Aad (_a0:SAlgebra):(List (List Int))→Tgt
 | s=>((Ex.exit 0),[3],[(3,A.val ((slr true 1 (slr false 1 Ag)) s))])
theorem Ame {a0:SAlgebra} (s:(Int×(List (List Int)))) (o:(Int×(List (List Int))) ⊕ (List (List Int))) (h:Jd a0 s=some o):vc Tryz.prog Aal (Cr [4,3,1] (Sj a0) (Aad a0) o) (Sj a0 s):=by
 obtain ⟨x4,x3⟩:=s
 unfold Jd at h
 try dsimp only at h
 refine Cells.lit rfl rfl<|Ask.o h fun p1 h=>Br.od h (fun p2 h=> ?_) (fun p2 h=> ?_)
 ·refine CallQ.o (slr true 1 Ag) (by rfl) h (fun r h=>Aqo h) (fun r3 h=> ?_)
  refine Cells.lit rfl rfl<|CallQ.rd V.bool (by first | rfl | simp only [V.fz,fzL,Ab,slr] | simp [Aa,V.fz,fzL,V.up,upL,Ab,Ac,Ad,slr]) (fun _=>rfl) h (fun r h=>Axk h) (fun r4 h=> ?_)
  refine Br.ob h (fun p5 h=> ?_) (fun p5 h=> ?_)
  ·refine FrzQ.d (V.sl false (1:Nat) (List.map (slr false (1:Nat) Ag) x3)) (by first | (simp only [slr];done) | (simp [Ak,V.fz,Ab,slr];done) | (simp [Ak,V.fz,fzL,Ab,slr];done))<|FrzQ.d (V.sl false (1:Nat) (List.map Ag r3)) (by first | (simp only [slr];done) | (simp [Ak,V.fz,Ab,slr];done) | (simp [Ak,V.fz,fzL,Ab,slr];done))<|CallQ.o (slr true 1 (slr false 1 Ag)) (by rfl) h (fun r h=>Aqc h) (fun r6 h=> ?_)
   refine Ask.o h fun p7 h=> ?_
   cases h;exact ⟨rfl,rfl⟩
  refine Ask.o h fun p8 h=> ?_
  cases h;exact ⟨rfl,rfl⟩
 cases h;exact ⟨rfl,rfl⟩
noncomputable def Lb (a0:SAlgebra):Option (List (List Int)):=
 (Aj (Jd a0) ((0:Int),Al (List Int))).bind fun q9_3=>
 some q9_3
theorem Avl {a0:SAlgebra} {v:(List (List Int))} (h:Lb a0=some v):Ret Tryz.prog Zp [(Ae false) a0] ((slr true 1 (slr false 1 Ag)) v):=by
 refine A6 Awq (Nat.le_of_ble_eq_true rfl) ?_
 unfold Lb at h
 refine BslQ.o (slr true 1 Ag) (Al (List Int)) (by exact fun _=>⟨rfl,rfl⟩) (by first | rfl | (simp only [Aa,V.fz,fzL,V.up,upL,Ab,Ac,Ad,slr,List.cons_append,List.nil_append];done) | simp [Aa,V.fz,fzL,V.up,upL,Ab,Ac,Ad,slr])<|LoopQ.o [4,3,1] (Sj a0) (Aad a0) h (fun s o h=>Ame s o h) (by rfl) (fun _=>rfl) ?_
 rintro q9_3 h
 try dsimp only at h
 cases h;exact (by rfl)
noncomputable def Jn (a0:SAlgebra) (b0:SAlgebra):Option ((List Int)×Bool):=
 (Ix (a0) (b0)).bind fun r1=>
 if (r1)=true then
 if a0.Size≠b0.Size then
 some (Al Int,false)
 else
 (Np (a0) (b0) (true) (false)).bind fun r4=>
 some r4
 else
 some (Al Int,false)
theorem Alx {a0:SAlgebra} {b0:SAlgebra} {v:((List Int)×Bool)} (h:Jn a0 b0=some v):Ret Tryz.prog Ry [(Ae false) a0,(Ae false) b0] ((fun r=>V.tup [(slr false 1 Ag) r.1,V.bool r.2]) v):=by
 refine Ih Alm (Nat.le_of_ble_eq_true rfl) ?_
 unfold Jn at h
 refine Cells.lit rfl rfl<|Cells.lit rfl rfl<|CallQ.o V.bool (by rfl) h (fun r h=>Z0 h) (fun r1 h=> ?_)
 refine Br.flip<|Br.ob h (fun p2 h=> ?_) (fun p2 h=> ?_)
 ·refine Br.no<|Cells.lit rfl rfl<|Br.no<|Br.no<|Cells.lit rfl rfl<|Br.no<|Br.no<|Br.on h (fun p3 h=> ?_) (fun p3 h=> ?_)
  ·refine BslQ.o Ag (Al Int) (by exact fun _=>⟨rfl,rfl⟩) (by first | rfl | (simp only [Aa,V.fz,fzL,V.up,upL,Ab,Ac,Ad,slr,List.cons_append,List.nil_append];done) | simp [Aa,V.fz,fzL,V.up,upL,Ab,Ac,Ad,slr]) ?_
   cases h;exact (by rfl)
  refine Cells.lit rfl rfl<|Cells.lit rfl rfl<|CallQ.o (fun r=>V.tup [(slr false 1 Ag) r.1,V.bool r.2]) (by rfl) h (fun r h=>Av5 h) (fun r4 h=> ?_)
  cases h;exact (by rfl)
 refine Br.yes<|Br.yes<|Br.yes<|Br.yes<|Br.yes<|Br.yes<|BslQ.o Ag (Al Int) (by exact fun _=>⟨rfl,rfl⟩) (by first | rfl | (simp only [Aa,V.fz,fzL,V.up,upL,Ab,Ac,Ad,slr,List.cons_append,List.nil_append];done) | simp [Aa,V.fz,fzL,V.up,upL,Ab,Ac,Ad,slr]) ?_
 cases h;exact (by rfl)
noncomputable def Ft (a0:SAlgebra):Option ((List (List Int))×Bool):=
 (Ef (a0)).bind fun r1=>
 if (r1)=true then
 (Jx (a0)).bind fun r3=>
 some r3
 else
 some (Al (List Int),false)
theorem Abf {a0:SAlgebra} {v:((List (List Int))×Bool)} (h:Ft a0=some v):Ret Tryz.prog Kf [(Ae false) a0] ((fun r=>V.tup [(slr false 1 (slr false 1 Ag)) r.1,V.bool r.2]) v):=by
 refine Ih Acd (Nat.le_of_ble_eq_true rfl) ?_
 unfold Ft at h
 refine Cells.lit rfl rfl<|CallQ.o V.bool (by rfl) h (fun r h=>Jv h) (fun r1 h=> ?_)
 refine Br.flip<|Br.ob h (fun p2 h=> ?_) (fun p2 h=> ?_)
 ·refine Cells.lit rfl rfl<|CallQ.o (fun r=>V.tup [(slr false 1 (slr false 1 Ag)) r.1,V.bool r.2]) (by rfl) h (fun r h=>Aef h) (fun r3 h=> ?_)
  cases h;exact (by rfl)
 refine BslQ.o (slr true 1 Ag) (Al (List Int)) (by exact fun _=>⟨rfl,rfl⟩) (by first | rfl | (simp only [Aa,V.fz,fzL,V.up,upL,Ab,Ac,Ad,slr,List.cons_append,List.nil_append];done) | simp [Aa,V.fz,fzL,V.up,upL,Ab,Ac,Ad,slr]) ?_
 cases h;exact (by rfl)
noncomputable def Bu (_a0:SAlgebra) (r3:List (List Int)×Bool) (x7:Int) (_x4:List (List Int)):(Int×(List Int))→Option ((Int×(List Int)) ⊕ (List Int)):=fun (x9,x8)=>
 if x9<(↑r3.fst.length:Int) then
 ask ((0:Int)≤x9∧x9<(↑r3.fst.length:Int)) <|
 ask ((0:Int)≤x7∧x7<(↑(nth r3.fst x9.toNat).length:Int)) <|
 (Oa (x8) (nth (nth r3.fst x9.toNat) x7.toNat)).bind fun r9=>
 ask (InI (x9+(1:Int))) <|
 some (.inl (x9+(1:Int),r9))
 else
 some (.inr x8)
def F4 (a0:SAlgebra) (r3:List (List Int)×Bool) (x7:Int) (x4:List (List Int)):(Int×(List Int))→St:=fun s=>[(9,A.val (Ag s.1)),(8,A.val ((slr false 1 Ag) s.2)),(7,A.val (Ag (x7))),(5,A.val ((slr false 1 (slr false 1 Ag)) (r3.fst))),(4,A.val ((slr true 1 (slr false 1 Ag)) (x4))),(1,A.val ((rP true (Ae false)) (a0)))]
def Jg (a0:SAlgebra) (r3:List (List Int)×Bool) (x7:Int) (x4:List (List Int)):(List Int)→Tgt
 | s=>((Ex.exit 2),[8,7,5,4,1],[(8,A.val ((slr false 1 Ag) s)),(7,A.val (Ag (x7))),(5,A.val ((slr false 1 (slr false 1 Ag)) (r3.fst))),(4,A.val ((slr true 1 (slr false 1 Ag)) (x4))),(1,A.val ((rP true (Ae false)) (a0)))])
theorem Sg {a0:SAlgebra} {r3:List (List Int)×Bool} {x7:Int} {x4:List (List Int)} (s:(Int×(List Int))) (o:(Int×(List Int)) ⊕ (List Int)) (h:Bu a0 r3 x7 x4 s=some o):vc Tryz.prog Jl (Cr [9,8,7,5,4,1] (F4 a0 r3 x7 x4) (Jg a0 r3 x7 x4) o) (F4 a0 r3 x7 x4 s):=by
 obtain ⟨x9,x8⟩:=s
 unfold Bu at h
 try dsimp only at h
 refine Len.map<|Br.od h (fun p6 h=> ?_) (fun p6 h=> ?_)
 ·refine Len.map<|Ask.o h fun p7 h=>Elem.o (by first | omega | (simp [Aq] at * <;> omega))<|Len.map<|Ask.o h fun p8 h=>Elem.o (by first | omega | (simp [Aq] at * <;> omega))<|CallQ.o (slr false 1 Ag) (by rfl) h (fun r h=>Avv h) (fun r9 h=> ?_)
  refine Ask.o h fun p10 h=> ?_
  cases h;exact ⟨rfl,rfl⟩
 cases h;exact ⟨rfl,rfl⟩
noncomputable def Bx (a0:SAlgebra) (r3:List (List Int)×Bool):(Int×(List (List Int)))→Option ((Int×(List (List Int))) ⊕ (List (List Int))):=fun (x7,x4)=>
 if x7<a0.Size then
 (Aj (Bu a0 r3 x7 x4) ((0:Int),Al Int)).bind fun q11_8=>
 ask ((0:Int)≤(0:Int)∧(0:Int)<(↑q11_8.length:Int)) <|
 if nth q11_8 (Int.toNat (0:Int))=x7 then
 ask ((x4).length+([q11_8]).length≤LIM) <|
 ask (InI (x7+(1:Int))) <|
 some (.inl (x7+(1:Int),x4++[q11_8]))
 else
 ask (InI (x7+(1:Int))) <|
 some (.inl (x7+(1:Int),x4))
 else
 some (.inr x4)
def F5 (a0:SAlgebra) (r3:List (List Int)×Bool):(Int×(List (List Int)))→St:=fun s=>[(7,A.val (Ag s.1)),(5,A.val ((slr false 1 (slr false 1 Ag)) (r3.fst))),(4,A.val ((slr true 1 (slr false 1 Ag)) s.2)),(1,A.val ((rP true (Ae false)) (a0)))]
def I8 (_a0:SAlgebra) (_r3:List (List Int)×Bool):(List (List Int))→Tgt
 | s=>((Ex.exit 0),[4],[(4,A.val ((slr true 1 (slr false 1 Ag)) s))])
theorem Rs {a0:SAlgebra} {r3:List (List Int)×Bool} (s:(Int×(List (List Int)))) (o:(Int×(List (List Int))) ⊕ (List (List Int))) (h:Bx a0 r3 s=some o):vc Tryz.prog Jk (Cr [7,5,4,1] (F5 a0 r3) (I8 a0 r3) o) (F5 a0 r3 s):=by
 obtain ⟨x7,x4⟩:=s
 unfold Bx at h
 try dsimp only at h
 refine Cells.lit rfl rfl<|Br.od h (fun p5 h=> ?_) (fun p5 h=> ?_)
 ·refine BslQ.o Ag (Al Int) (by exact fun _=>⟨rfl,rfl⟩) (by first | rfl | (simp only [Aa,V.fz,fzL,V.up,upL,Ab,Ac,Ad,slr,List.cons_append,List.nil_append];done) | simp [Aa,V.fz,fzL,V.up,upL,Ab,Ac,Ad,slr])<|FrzQ.d (V.sl false (1:Nat) (List.map Ag (Al Int))) (by first | (simp only [Ak,Ac];done) | (simp [Ak,V.fz,Ab,Ac,slr];done) | (simp [Ak,V.fz,fzL,Ab,slr];done))<|LoopQ.o [9,8,7,5,4,1] (F4 a0 r3 x7 x4) (Jg a0 r3 x7 x4) h (fun s o h=>Sg s o h) (by rfl) (fun _=>rfl) ?_
  rintro q11_8 h
  try dsimp only at h
  refine Len.map<|Ask.o h fun p12 h=>Elem.o (by first | omega | (simp [Aq] at * <;> omega))<|Br.oe h (fun p13 h=> ?_) (fun p13 h=> ?_)
  ·refine BslQ.o (slr false 1 Ag) [q11_8] (by exact fun _=>⟨rfl,rfl⟩) (by first | rfl | (simp only [Aa,V.fz,fzL,V.up,upL,Ab,Ac,Ad,slr,List.cons_append,List.nil_append];done) | simp [Aa,V.fz,fzL,V.up,upL,Ab,Ac,Ad,slr])<|NoOwn.o (fun _=>rfl)<|AppQ.o (m:=1) (slr false 1 Ag) (by exact fun _=>⟨rfl,rfl⟩) (x4) ([q11_8]) (by rfl) (by rfl) h fun h=>Ask.o h fun p14 h=> ?_
   cases h;exact ⟨rfl,rfl⟩
  refine Ask.o h fun p15 h=> ?_
  cases h;exact ⟨rfl,rfl⟩
 cases h;exact ⟨rfl,rfl⟩
noncomputable def Dl (a0:SAlgebra):Option ((List (List Int))×Bool):=
 (Ef (a0)).bind fun r1=>
 if (r1)=true then
 (Jx (a0)).bind fun r3=>
 if (r3.snd)=true then
 (Aj (Bx a0 r3) ((0:Int),Al (List Int))).bind fun q16_4=>
 some (q16_4,true)
 else
 some (Al (List Int),false)
 else
 some (Al (List Int),false)
theorem U3 {a0:SAlgebra} {v:((List (List Int))×Bool)} (h:Dl a0=some v):Ret Tryz.prog G8 [(Ae false) a0] ((fun r=>V.tup [(slr false 1 (slr false 1 Ag)) r.1,V.bool r.2]) v):=by
 refine Ih Uy (Nat.le_of_ble_eq_true rfl) ?_
 unfold Dl at h
 conv=>whnf
 refine BslQ.o (slr true 1 Ag) (Al (List Int)) (by exact fun _=>⟨rfl,rfl⟩) (by first | rfl | (simp only [Aa,V.fz,fzL,V.up,upL,Ab,Ac,Ad,slr,List.cons_append,List.nil_append];done) | simp [Aa,V.fz,fzL,V.up,upL,Ab,Ac,Ad,slr]) ?_
 conv=>whnf
 refine Cells.lit rfl rfl ?_
 conv=>whnf
 refine CallQ.o V.bool (by rfl) h (fun r h=>Jv h) (fun r1 h=> ?_)
 conv=>whnf
 refine Br.flip ?_
 conv=>whnf
 refine Br.ob h (fun p2 h=> ?_) (fun p2 h=> ?_)
 ·conv=>whnf
  refine Cells.lit rfl rfl ?_
  conv=>whnf
  refine CallQ.o (fun r=>V.tup [(slr false 1 (slr false 1 Ag)) r.1,V.bool r.2]) (by rfl) h (fun r h=>Aef h) (fun r3 h=> ?_)
  conv=>whnf
  refine Br.flip ?_
  conv=>whnf
  refine Br.ob h (fun p4 h=> ?_) (fun p4 h=> ?_)
  ·conv=>whnf
   refine LoopQ.o [7,5,4,1] (F5 a0 r3) (I8 a0 r3) h (fun s o h=>Rs s o h) (by rfl) (fun _=>rfl) ?_
   rintro q16_4 h
   try dsimp only at h
   conv=>whnf
   cases h;exact (by first | rfl | simp only [Ah,V.fz,fzL,V.up,Ab,slr] | simp [Ah,Aa,V.fz,fzL,V.up,upL,Ab,Ac,Ad,slr])
  conv=>whnf
  cases h;exact (by rfl)
 conv=>whnf
 cases h;exact (by rfl)
noncomputable def Fr (a0:SAlgebra):Option ((List (List Int))×Bool):=
 (Ir (a0) (a0)).bind fun r1=>
 some r1
theorem Abe {a0:SAlgebra} {v:((List (List Int))×Bool)} (h:Fr a0=some v):Ret Tryz.prog K6 [(Ae false) a0] ((fun r=>V.tup [(slr false 1 (slr false 1 Ag)) r.1,V.bool r.2]) v):=by
 refine A6 Abv (Nat.le_of_ble_eq_true rfl) ?_
 unfold Fr at h
 refine Cells.lit rfl rfl<|Cells.lit rfl rfl<|CallQ.o (fun r=>V.tup [(slr false 1 (slr false 1 Ag)) r.1,V.bool r.2]) (by rfl) h (fun r h=>Acn h) (fun r1 h=> ?_)
 cases h;exact (by rfl)
noncomputable def C6 (r1:List (List Int)×Bool):(Int×(List (List Int)))→Option ((Int×(List (List Int))) ⊕ (List (List Int))):=fun (x7,x4)=>
 if x7<(↑r1.fst.length:Int) then
 ask ((0:Int)≤x7∧x7<(↑r1.fst.length:Int)) <|
 ask ((0:Int)≤x7∧x7<(↑r1.fst.length:Int)) <|
 (Eo (nth r1.fst x7.toNat) (nth r1.fst x7.toNat)).bind fun r6=>
 ask ((0:Int)≤x7∧x7<(↑r1.fst.length:Int)) <|
 (Hy (r6) (nth r1.fst x7.toNat)).bind fun r8=>
 if (r8)=true then
 ask ((0:Int)≤x7∧x7<(↑r1.fst.length:Int)) <|
 ask ((x4).length+([nth r1.fst x7.toNat]).length≤LIM) <|
 ask (InI (x7+(1:Int))) <|
 some (.inl (x7+(1:Int),x4++[nth r1.fst x7.toNat]))
 else
 ask (InI (x7+(1:Int))) <|
 some (.inl (x7+(1:Int),x4))
 else
 some (.inr x4)
def J4 (r1:List (List Int)×Bool):(Int×(List (List Int)))→St:=fun s=>[(7,A.val (Ag s.1)),(5,A.val ((slr false 1 (slr false 1 Ag)) (r1.fst))),(4,A.val ((slr true 1 (slr false 1 Ag)) s.2))]
def Pb (_r1:List (List Int)×Bool):(List (List Int))→Tgt
 | s=>((Ex.exit 0),[4],[(4,A.val ((slr true 1 (slr false 1 Ag)) s))])
theorem Abd {r1:List (List Int)×Bool} (s:(Int×(List (List Int)))) (o:(Int×(List (List Int))) ⊕ (List (List Int))) (h:C6 r1 s=some o):vc Tryz.prog Pa (Cr [7,5,4] (J4 r1) (Pb r1) o) (J4 r1 s):=by
 obtain ⟨x7,x4⟩:=s
 unfold C6 at h
 try dsimp only at h
 refine Len.map<|Br.od h (fun p3 h=> ?_) (fun p3 h=> ?_)
 ·refine Len.map<|Ask.o h fun p4 h=>Elem.o (by first | omega | (simp [Aq] at * <;> omega))<|Len.map<|Ask.o h fun p5 h=>Elem.o (by first | omega | (simp [Aq] at * <;> omega))<|CallP.o (slr true 1 Ag) (by rfl) h (fun r h=>Aaw h) (fun r6 h=> ?_)
  refine Len.map<|Ask.o h fun p7 h=>Elem.o (by first | omega | (simp [Aq] at * <;> omega))<|CallQ.rd V.bool (by first | rfl | simp only [V.fz,Ab,slr] | simp [Aa,V.fz,fzL,V.up,upL,Ab,Ac,Ad,slr]) (fun _=>rfl) h (fun r h=>Wu h) (fun r8 h=> ?_)
  refine Br.ob h (fun p9 h=> ?_) (fun p9 h=> ?_)
  ·refine Len.map<|Ask.o h fun p10 h=>Elem.o (by first | omega | (simp [Aq] at * <;> omega))<|BslQ.o (slr false 1 Ag) ([nth r1.fst x7.toNat]) (by exact fun _=>⟨rfl,rfl⟩) (by first | rfl | (simp only [Aa,V.fz,fzL,V.up,upL,Ab,Ac,Ad,slr,List.cons_append,List.nil_append];done) | simp [Aa,V.fz,fzL,V.up,upL,Ab,Ac,Ad,slr])<|NoOwn.o (fun _=>rfl)<|AppQ.o (m:=1) (slr false 1 Ag) (by exact fun _=>⟨rfl,rfl⟩) (x4) ([nth r1.fst x7.toNat]) (by rfl) (by rfl) h fun h=>Ask.o h fun p11 h=> ?_
   cases h;exact ⟨rfl,rfl⟩
  refine Ask.o h fun p12 h=> ?_
  cases h;exact ⟨rfl,rfl⟩
 cases h;exact ⟨rfl,rfl⟩
noncomputable def G1 (a0:SAlgebra):Option ((List (List Int))×Bool):=
 (Ir (a0) (a0)).bind fun r1=>
 if (r1.snd)=true then
 (Aj (C6 r1) ((0:Int),Al (List Int))).bind fun q13_4=>
 some (q13_4,true)
 else
 some (Al (List Int),false)
theorem Afr {a0:SAlgebra} {v:((List (List Int))×Bool)} (h:G1 a0=some v):Ret Tryz.prog Mt [(Ae false) a0] ((fun r=>V.tup [(slr false 1 (slr false 1 Ag)) r.1,V.bool r.2]) v):=by
 refine Ih Aej (Nat.le_of_ble_eq_true rfl) ?_
 unfold G1 at h
 conv=>whnf
 refine BslQ.o (slr true 1 Ag) (Al (List Int)) (by exact fun _=>⟨rfl,rfl⟩) (by first | rfl | (simp only [Aa,V.fz,fzL,V.up,upL,Ab,Ac,Ad,slr,List.cons_append,List.nil_append];done) | simp [Aa,V.fz,fzL,V.up,upL,Ab,Ac,Ad,slr]) ?_
 conv=>whnf
 refine Cells.lit rfl rfl ?_
 conv=>whnf
 refine Cells.lit rfl rfl ?_
 conv=>whnf
 refine CallQ.o (fun r=>V.tup [(slr false 1 (slr false 1 Ag)) r.1,V.bool r.2]) (by rfl) h (fun r h=>Acn h) (fun r1 h=> ?_)
 conv=>whnf
 refine Br.flip ?_
 conv=>whnf
 refine Br.ob h (fun p2 h=> ?_) (fun p2 h=> ?_)
 ·conv=>whnf
  refine LoopQ.o [7,5,4] (J4 r1) (Pb r1) h (fun s o h=>Abd s o h) (by rfl) (fun _=>rfl) ?_
  rintro q13_4 h
  try dsimp only at h
  conv=>whnf
  cases h;exact (by first | rfl | simp only [Ah,V.fz,fzL,V.up,Ab,slr] | simp [Ah,Aa,V.fz,fzL,V.up,upL,Ab,Ac,Ad,slr])
 conv=>whnf
 cases h;exact (by rfl)
noncomputable def Ep (a0:SAlgebra) (b0:SAlgebra):Option Bool:=
 (C2 (a0)).bind fun r1=>
 if (r1)=true then
 (C2 (b0)).bind fun r3=>
 if (r3)=true then
 (Ss (a0) (b0)).bind fun r5=>
 some r5
 else
 some false
 else
 some false
theorem Mj {a0:SAlgebra} {b0:SAlgebra} {v:Bool} (h:Ep a0 b0=some v):Ret Tryz.prog Hg [(Ae false) a0,(Ae false) b0] (V.bool v):=by
 refine A6 Amr (Nat.le_of_ble_eq_true rfl) ?_
 unfold Ep at h
 refine Cells.lit rfl rfl<|CallQ.o V.bool (by rfl) h (fun r h=>Gm h) (fun r1 h=> ?_)
 refine Br.ob h (fun p2 h=> ?_) (fun p2 h=> ?_)
 ·refine Cells.lit rfl rfl<|Br.yes<|CallQ.o V.bool (by rfl) h (fun r h=>Gm h) (fun r3 h=> ?_)
  refine Br.yes<|Br.ob h (fun p4 h=> ?_) (fun p4 h=> ?_)
  ·refine Cells.lit rfl rfl<|Br.yes<|Cells.lit rfl rfl<|Br.yes<|CallQ.o V.bool (by rfl) h (fun r h=>Auz h) (fun r5 h=> ?_)
   refine Br.yes ?_
   cases h;exact (by rfl)
  refine Br.no<|Br.no<|Br.no ?_
  cases h;exact (by rfl)
 refine Br.no<|Br.no<|Br.no<|Br.no<|Br.no<|Br.no ?_
 cases h;exact (by rfl)
end Go.Proofs.YtmkgjnphianalaaGreat.Ax
