/-
 What the functions compute, as functions on plain data, and that the program does compute it; written by program.
-/
import Derived.Test.YtmkgjnphianalaaGreatCode
import Derived.Test.YtmkgjnphianalaaGreatG1
import Derived.Test.YtmkgjnphianalaaGreatG8
import Derived.Test.YtmkgjnphianalaaGreatG13
import Derived.Test.YtmkgjnphianalaaGreatG14
namespace Go.Proofs.YtmkgjnphianalaaGreat.Ax
open Go
set_option maxRecDepth 100000
set_option maxHeartbeats 4000000
noncomputable def N6 (a0:SAlgebra) (b0:SAlgebra) (f0:(List Int)):Option (Bool×Bool):=
 (Ep (a0) (b0)).bind fun r1=>
 if (r1)=true then
 (Og (a0) (b0) (f0)).bind fun r3=>
 some (r3,true)
 else
 some (false,false)
theorem Avk {a0:SAlgebra} {b0:SAlgebra} {f0:(List Int)} {v:(Bool×Bool)} (h:N6 a0 b0 f0=some v):Ret Tryz.prog Zk [(Ae false) a0,(Ae false) b0,(slr false 1 Ag) f0] ((fun r=>V.tup [V.bool r.1,V.bool r.2]) v):=by
 refine A6 Aua (Nat.le_of_ble_eq_true rfl) ?_
 unfold N6 at h
 refine Cells.lit rfl rfl<|Cells.lit rfl rfl<|CallQ.o V.bool (by rfl) h (fun r h=>Mj h) (fun r1 h=> ?_)
 refine Br.flip<|Br.ob h (fun p2 h=> ?_) (fun p2 h=> ?_)
 ·refine Cells.lit rfl rfl<|Cells.lit rfl rfl<|CallQ.o V.bool (by rfl) h (fun r h=>At5 h) (fun r3 h=> ?_)
  cases h;exact (by rfl)
 cases h;exact (by rfl)
noncomputable def D7 (a0:SAlgebra):Option ((List (List Int))×Bool):=
 (C2 (a0)).bind fun r1=>
 if (r1)=true then
 (He (a0) (a0) (true)).bind fun r3=>
 some r3
 else
 some (Al (List Int),false)
theorem Rb {a0:SAlgebra} {v:((List (List Int))×Bool)} (h:D7 a0=some v):Ret Tryz.prog Hm [(Ae false) a0] ((fun r=>V.tup [(slr true 1 (slr true 1 Ag)) r.1,V.bool r.2]) v):=by
 refine A6 Acb (Nat.le_of_ble_eq_true rfl) ?_
 unfold D7 at h
 refine Cells.lit rfl rfl<|CallQ.o V.bool (by rfl) h (fun r h=>Gm h) (fun r1 h=> ?_)
 refine Br.flip<|Br.ob h (fun p2 h=> ?_) (fun p2 h=> ?_)
 ·refine Cells.lit rfl rfl<|Cells.lit rfl rfl<|CallQ.o (fun r=>V.tup [(slr true 1 (slr true 1 Ag)) r.1,V.bool r.2]) (by rfl) h (fun r h=>Aat h) (fun r3 h=> ?_)
  cases h;exact (by rfl)
 refine BslQ.o (slr true 1 Ag) (Al (List Int)) (by exact fun _=>⟨rfl,rfl⟩) (by first | rfl | (simp only [Aa,V.fz,fzL,V.up,upL,Ab,Ac,Ad,slr,List.cons_append,List.nil_append];done) | simp [Aa,V.fz,fzL,V.up,upL,Ab,Ac,Ad,slr]) ?_
 cases h;exact (by rfl)
noncomputable def Gy (code0:(List Int)):Option (SAlgebra×SAlgebra):=
 (Hn ({ code:=code0,at_:=(0:Int),seed:=(0:Int) })).bind fun (r1,_u2)=>
 some r1
theorem Ae1 {code0:(List Int)} {v:(SAlgebra×SAlgebra)} (h:Gy code0=some v):Ret Tryz.prog M6 [(slr false 1 (V.int IntKind.u8)) code0] ((fun r=>V.tup [(Ae false) r.1,(Ae false) r.2]) v):=by
 refine A6 Aeu (Nat.le_of_ble_eq_true rfl) ?_
 unfold Gy at h
 refine CallQ.io (fun r=>V.tup [(Ae false) r.1,(Ae false) r.2]) (rP true (Am false)) (by rfl) rfl (fun _=>rfl) (fun _=>⟨rfl,rfl⟩) rfl h (fun r h=>Af6 h) (fun r1 u2 h=> ?_)
 refine SetKids.lit rfl<|SetKids.lit rfl ?_
 cases h;exact (by rfl)
noncomputable def Ev (a0:SAlgebra) (b0:SAlgebra):Option ((List Int)×Bool):=
 (Ep (a0) (b0)).bind fun r1=>
 if (r1)=true then
 (Ha (a0) (b0) (true) (())).bind fun t=>match t with
 | (none,r3_2)=>(if (r3_2)=true then
 some (Al Int,false)
 else
 some (Al Int,false))
 | ((some r3_1),r3_2)=>(if (r3_2)=true then
 ask ((0:Int)<(↑r3_1.length:Int)) <|
 some (r3_1,true)
 else
 some (Al Int,false))
 else
 some (Al Int,false)
theorem Aa8 {a0:SAlgebra} {b0:SAlgebra} {v:((List Int)×Bool)} (h:Ev a0 b0=some v):Ret Tryz.prog J1 [(Ae false) a0,(Ae false) b0] ((fun r=>V.tup [(slr false 1 Ag) r.1,V.bool r.2]) v):=by
 refine Ih Aa4 (Nat.le_of_ble_eq_true rfl) ?_
 unfold Ev at h
 refine Cells.lit rfl rfl<|Cells.lit rfl rfl<|CallQ.o V.bool (by rfl) h (fun r h=>Mj h) (fun r1 h=> ?_)
 refine Br.flip<|Br.ob h (fun p2 h=> ?_) (fun p2 h=> ?_)
 ·refine Cells.lit rfl rfl<|Cells.lit rfl rfl<|CallQ.o (fun r=>V.tup [(rOl 1 Ag) r.1,V.bool r.2]) (by rfl) h (fun r h=>Aar h) (fun r3 h=> ?_)
  rcases r3 with ⟨(_ | r3_1),r3_2⟩
  ·try dsimp only at h
   refine Br.flip<|Br.ob h (fun p4 h=> ?_) (fun p4 h=> ?_)
   ·refine Br.no<|Br.no<|Br.yes<|BslQ.o Ag (Al Int) (by exact fun _=>⟨rfl,rfl⟩) (by first | rfl | (simp only [Aa,V.fz,fzL,V.up,upL,Ab,Ac,Ad,slr,List.cons_append,List.nil_append];done) | simp [Aa,V.fz,fzL,V.up,upL,Ab,Ac,Ad,slr]) ?_
    cases h;exact (by rfl)
   refine Br.yes<|Br.yes<|Br.yes<|BslQ.o Ag (Al Int) (by exact fun _=>⟨rfl,rfl⟩) (by first | rfl | (simp only [Aa,V.fz,fzL,V.up,upL,Ab,Ac,Ad,slr,List.cons_append,List.nil_append];done) | simp [Aa,V.fz,fzL,V.up,upL,Ab,Ac,Ad,slr]) ?_
   cases h;exact (by rfl)
  try dsimp only at h
  refine Br.flip<|Br.ob h (fun p5 h=> ?_) (fun p5 h=> ?_)
  ·refine Br.no<|Len.map<|Ask.o h fun p6 h=>Br.no<|Br.no ?_
   cases h;exact (by rfl)
  refine Br.yes<|Br.yes<|Br.yes<|BslQ.o Ag (Al Int) (by exact fun _=>⟨rfl,rfl⟩) (by first | rfl | (simp only [Aa,V.fz,fzL,V.up,upL,Ab,Ac,Ad,slr,List.cons_append,List.nil_append];done) | simp [Aa,V.fz,fzL,V.up,upL,Ab,Ac,Ad,slr]) ?_
  cases h;exact (by rfl)
 refine BslQ.o Ag (Al Int) (by exact fun _=>⟨rfl,rfl⟩) (by first | rfl | (simp only [Aa,V.fz,fzL,V.up,upL,Ab,Ac,Ad,slr,List.cons_append,List.nil_append];done) | simp [Aa,V.fz,fzL,V.up,upL,Ab,Ac,Ad,slr]) ?_
 cases h;exact (by rfl)
noncomputable def K4 (a0:SAlgebra) (b0:SAlgebra):Option ((List (List Int))×Bool):=
 (Ep (a0) (b0)).bind fun r1=>
 if (r1)=true then
 (He (a0) (b0) (false)).bind fun r3=>
 some r3
 else
 some (Al (List Int),false)
theorem Ang {a0:SAlgebra} {b0:SAlgebra} {v:((List (List Int))×Bool)} (h:K4 a0 b0=some v):Ret Tryz.prog Ti [(Ae false) a0,(Ae false) b0] ((fun r=>V.tup [(slr true 1 (slr true 1 Ag)) r.1,V.bool r.2]) v):=by
 refine A6 Aoh (Nat.le_of_ble_eq_true rfl) ?_
 unfold K4 at h
 refine Cells.lit rfl rfl<|Cells.lit rfl rfl<|CallQ.o V.bool (by rfl) h (fun r h=>Mj h) (fun r1 h=> ?_)
 refine Br.flip<|Br.ob h (fun p2 h=> ?_) (fun p2 h=> ?_)
 ·refine Cells.lit rfl rfl<|Cells.lit rfl rfl<|CallQ.o (fun r=>V.tup [(slr true 1 (slr true 1 Ag)) r.1,V.bool r.2]) (by rfl) h (fun r h=>Aat h) (fun r3 h=> ?_)
  cases h;exact (by rfl)
 refine BslQ.o (slr true 1 Ag) (Al (List Int)) (by exact fun _=>⟨rfl,rfl⟩) (by first | rfl | (simp only [Aa,V.fz,fzL,V.up,upL,Ab,Ac,Ad,slr,List.cons_append,List.nil_append];done) | simp [Aa,V.fz,fzL,V.up,upL,Ab,Ac,Ad,slr]) ?_
 cases h;exact (by rfl)
noncomputable def Dv (code0:(List Int)):Option (SAlgebra×SAlgebra):=
 (Gy (code0)).bind fun r1=>
 some r1
theorem Wm {code0:(List Int)} {v:(SAlgebra×SAlgebra)} (h:Dv code0=some v):Ret Tryz.prog Hx [(slr false 1 (V.int IntKind.u8)) code0] ((fun r=>V.tup [(Ae false) r.1,(Ae false) r.2]) v):=by
 refine A6 Wx (Nat.le_of_ble_eq_true rfl) ?_
 unfold Dv at h
 refine CallQ.o (fun r=>V.tup [(Ae false) r.1,(Ae false) r.2]) (by rfl) h (fun r h=>Ae1 h) (fun r1 h=> ?_)
 refine SetKids.lit rfl<|SetKids.lit rfl ?_
 cases h;exact (by rfl)
noncomputable def I7 (a0:SAlgebra) (b0:SAlgebra):Option ((List Int)×Bool):=
 if a0.Size≠b0.Size then
 some (Al Int,false)
 else
 (Ev (a0) (b0)).bind fun r2=>
 some r2
theorem Ak6 {a0:SAlgebra} {b0:SAlgebra} {v:((List Int)×Bool)} (h:I7 a0 b0=some v):Ret Tryz.prog Rz [(Ae false) a0,(Ae false) b0] ((fun r=>V.tup [(slr false 1 Ag) r.1,V.bool r.2]) v):=by
 refine Ih Amm (Nat.le_of_ble_eq_true rfl) ?_
 unfold I7 at h
 refine Cells.lit rfl rfl<|Cells.lit rfl rfl<|Br.on h (fun p1 h=> ?_) (fun p1 h=> ?_)
 ·refine BslQ.o Ag (Al Int) (by exact fun _=>⟨rfl,rfl⟩) (by first | rfl | (simp only [Aa,V.fz,fzL,V.up,upL,Ab,Ac,Ad,slr,List.cons_append,List.nil_append];done) | simp [Aa,V.fz,fzL,V.up,upL,Ab,Ac,Ad,slr]) ?_
  cases h;exact (by rfl)
 refine Cells.lit rfl rfl<|Cells.lit rfl rfl<|CallQ.o (fun r=>V.tup [(slr false 1 Ag) r.1,V.bool r.2]) (by rfl) h (fun r h=>Aa8 h) (fun r2 h=> ?_)
 cases h;exact (by rfl)
noncomputable def Bz (_a0:SAlgebra) (r1:List (List Int)×Bool) (x7:Int) (_x6:List (List Int)):(Int×(List Bool))→Option ((Int×(List Bool)) ⊕ (List Bool)):=fun (x32,x8)=>
 if x32<(↑r1.fst.length:Int) then
 ask ((0:Int)≤x32∧x32<(↑r1.fst.length:Int)) <|
 ask ((0:Int)≤x7∧x7<(↑(nth r1.fst x32.toNat).length:Int)) <|
 ask ((0:Int)≤nth (nth r1.fst x32.toNat) x7.toNat∧nth (nth r1.fst x32.toNat) x7.toNat<(↑x8.length:Int)) <|
 ask (InI (x32+(1:Int))) <|
 some (.inl (x32+(1:Int),x8.set (nth (nth r1.fst x32.toNat) x7.toNat).toNat true))
 else
 some (.inr x8)
def Ga (a0:SAlgebra) (r1:List (List Int)×Bool) (x7:Int) (x6:List (List Int)):(Int×(List Bool))→St:=fun s=>[(32,A.val (Ag s.1)),(31,A.val (Ag ((↑r1.fst.length:Int)))),(30,A.ref 4 []),(8,A.val ((slr true 1 V.bool) s.2)),(7,A.val (Ag (x7))),(6,A.val ((slr true 1 (slr true 1 Ag)) (x6))),(4,A.val ((slr true 1 (slr true 1 Ag)) (r1.fst))),(1,A.val ((rP true (Ae false)) (a0)))]
def Ji (a0:SAlgebra) (r1:List (List Int)×Bool) (x7:Int) (x6:List (List Int)):(List Bool)→Tgt
 | s=>((Ex.exit 2),[8,7,6,4,1],[(8,A.val ((slr true 1 V.bool) s)),(7,A.val (Ag (x7))),(6,A.val ((slr true 1 (slr true 1 Ag)) (x6))),(4,A.val ((slr true 1 (slr true 1 Ag)) (r1.fst))),(1,A.val ((rP true (Ae false)) (a0)))])
theorem Sf {a0:SAlgebra} {r1:List (List Int)×Bool} {x7:Int} {x6:List (List Int)} (s:(Int×(List Bool))) (o:(Int×(List Bool)) ⊕ (List Bool)) (h:Bz a0 r1 x7 x6 s=some o):vc Tryz.prog Jo (Cr [32,31,30,8,7,6,4,1] (Ga a0 r1 x7 x6) (Ji a0 r1 x7 x6) o) (Ga a0 r1 x7 x6 s):=by
 obtain ⟨x32,x8⟩:=s
 unfold Bz at h
 try dsimp only at h
 refine Br.od h (fun p5 h=> ?_) (fun p5 h=> ?_)
 ·refine Len.map<|Ask.o h fun p6 h=>Cells.one (fun _=>⟨rfl,rfl⟩) (by first | omega | (simp [Aq] at * <;> omega))<|Kid.one (fun _=>⟨rfl,rfl⟩) (by first | omega | (simp [Aq] at * <;> omega))<|Len.map<|Ask.o h fun p7 h=>Kid.one (fun _=>⟨rfl,rfl⟩) (by first | omega | (simp [Aq] at * <;> omega))<|Cells.one (fun _=>⟨rfl,rfl⟩) (by first | omega | (simp [Aq] at * <;> omega))<|Len.map<|Ask.o h fun p8 h=>SetKids.one (fun _=>⟨rfl,rfl⟩) (true) (by rfl) (by first | omega | (simp [Aq] at * <;> omega))<|Ask.o h fun p9 h=> ?_
  cases h;exact ⟨rfl,rfl⟩
 cases h;exact ⟨rfl,rfl⟩
noncomputable def Bv (a0:SAlgebra) (r1:List (List Int)×Bool):(Int×(List (List Int)))→Option ((Int×(List (List Int))) ⊕ (List (List Int))):=fun (x7,x6)=>
 if x7<a0.Size then
 ask ((0:Int)≤a0.Size∧a0.Size≤(↑LIM:Int)) <|
 (Aj (Bz a0 r1 x7 x6) ((0:Int),List.replicate a0.Size.toNat false)).bind fun q10_8=>
 (Mb (q10_8)).bind fun r11=>
 ask ((0:Int)≤(0:Int)∧(0:Int)<(↑r11.length:Int)) <|
 if nth r11 (Int.toNat (0:Int))=x7 then
 ask ((x6).length+([r11]).length≤LIM) <|
 ask (InI (x7+(1:Int))) <|
 some (.inl (x7+(1:Int),x6++[r11]))
 else
 ask (InI (x7+(1:Int))) <|
 some (.inl (x7+(1:Int),x6))
 else
 some (.inr x6)
def F7 (a0:SAlgebra) (r1:List (List Int)×Bool):(Int×(List (List Int)))→St:=fun s=>[(7,A.val (Ag s.1)),(6,A.val ((slr true 1 (slr true 1 Ag)) s.2)),(4,A.val ((slr true 1 (slr true 1 Ag)) (r1.fst))),(1,A.val ((rP true (Ae false)) (a0)))]
def Jf (_a0:SAlgebra) (_r1:List (List Int)×Bool):(List (List Int))→Tgt
 | s=>((Ex.exit 0),[6],[(6,A.val ((slr true 1 (slr true 1 Ag)) s))])
theorem Sl {a0:SAlgebra} {r1:List (List Int)×Bool} (s:(Int×(List (List Int)))) (o:(Int×(List (List Int))) ⊕ (List (List Int))) (h:Bv a0 r1 s=some o):vc Tryz.prog Jp (Cr [7,6,4,1] (F7 a0 r1) (Jf a0 r1) o) (F7 a0 r1 s):=by
 obtain ⟨x7,x6⟩:=s
 unfold Bv at h
 try dsimp only at h
 refine Cells.lit rfl rfl<|Br.od h (fun p3 h=> ?_) (fun p3 h=> ?_)
 ·refine Cells.lit rfl rfl<|Ask.o h fun p4 h=>MkQ.o V.bool (false) rfl<|Len.map<|LoopQ.o [32,31,30,8,7,6,4,1] (Ga a0 r1 x7 x6) (Ji a0 r1 x7 x6) h (fun s o h=>Sf s o h) (by rfl) (fun _=>rfl) ?_
  rintro q10_8 h
  try dsimp only at h
  refine CallQ.rd (slr true 1 Ag) (by first | rfl | simp only [V.fz,Ab,slr] | simp [Aa,V.fz,fzL,V.up,upL,Ab,Ac,Ad,slr]) (fun _=>by simp [V.noFz,Bs]) h (fun r h=>Aq3 h) (fun r11 h=> ?_)
  refine Len.map<|Ask.o h fun p12 h=>Cells.one (fun _=>⟨rfl,rfl⟩) (by first | omega | (simp [Aq] at * <;> omega))<|Br.oe h (fun p13 h=> ?_) (fun p13 h=> ?_)
  ·refine BslQ.o (slr true 1 Ag) [r11] (by exact fun _=>⟨rfl,rfl⟩) (by first | rfl | (simp only [Aa,V.fz,fzL,V.up,upL,Ab,Ac,Ad,slr,List.cons_append,List.nil_append];done) | simp [Aa,V.fz,fzL,V.up,upL,Ab,Ac,Ad,slr])<|NoOwn.own rfl<|AppQ.o (m:=1) (slr true 1 Ag) (by exact fun _=>⟨rfl,rfl⟩) (x6) ([r11]) (by rfl) (by rfl) h fun h=>Ask.o h fun p14 h=> ?_
   cases h;exact ⟨rfl,rfl⟩
  refine Ask.o h fun p15 h=> ?_
  cases h;exact ⟨rfl,rfl⟩
 cases h;exact ⟨rfl,rfl⟩
noncomputable def Dm (a0:SAlgebra):Option ((List (List Int))×Bool):=
 (D7 (a0)).bind fun r1=>
 if (r1.snd)=true then
 (Aj (Bv a0 r1) ((0:Int),Al (List Int))).bind fun q16_6=>
 some (q16_6,true)
 else
 some (Al (List Int),false)
theorem Uz {a0:SAlgebra} {v:((List (List Int))×Bool)} (h:Dm a0=some v):Ret Tryz.prog G5 [(Ae false) a0] ((fun r=>V.tup [(slr true 1 (slr true 1 Ag)) r.1,V.bool r.2]) v):=by
 refine A6 U5 (Nat.le_of_ble_eq_true rfl) ?_
 unfold Dm at h
 refine Cells.lit rfl rfl<|CallQ.o (fun r=>V.tup [(slr true 1 (slr true 1 Ag)) r.1,V.bool r.2]) (by rfl) h (fun r h=>Rb h) (fun r1 h=> ?_)
 refine Br.flip<|Br.ob h (fun p2 h=> ?_) (fun p2 h=> ?_)
 ·refine BslQ.o (slr true 1 Ag) (Al (List Int)) (by exact fun _=>⟨rfl,rfl⟩) (by first | rfl | (simp only [Aa,V.fz,fzL,V.up,upL,Ab,Ac,Ad,slr,List.cons_append,List.nil_append];done) | simp [Aa,V.fz,fzL,V.up,upL,Ab,Ac,Ad,slr])<|LoopQ.o [7,6,4,1] (F7 a0 r1) (Jf a0 r1) h (fun s o h=>Sl s o h) (by rfl) (fun _=>rfl) ?_
  rintro q16_6 h
  try dsimp only at h
  cases h;exact (by rfl)
 refine BslQ.o (slr true 1 Ag) (Al (List Int)) (by exact fun _=>⟨rfl,rfl⟩) (by first | rfl | (simp only [Aa,V.fz,fzL,V.up,upL,Ab,Ac,Ad,slr,List.cons_append,List.nil_append];done) | simp [Aa,V.fz,fzL,V.up,upL,Ab,Ac,Ad,slr]) ?_
 cases h;exact (by rfl)
noncomputable def Df (a0:SAlgebra):Option ((List (List Int))×Bool):=
 (K4 (a0) (a0)).bind fun r1=>
 some r1
theorem Q4 {a0:SAlgebra} {v:((List (List Int))×Bool)} (h:Df a0=some v):Ret Tryz.prog Hr [(Ae false) a0] ((fun r=>V.tup [(slr true 1 (slr true 1 Ag)) r.1,V.bool r.2]) v):=by
 refine A6 Aci (Nat.le_of_ble_eq_true rfl) ?_
 unfold Df at h
 refine Cells.lit rfl rfl<|Cells.lit rfl rfl<|CallQ.o (fun r=>V.tup [(slr true 1 (slr true 1 Ag)) r.1,V.bool r.2]) (by rfl) h (fun r h=>Ang h) (fun r1 h=> ?_)
 cases h;exact (by rfl)
noncomputable def C5 (r1:List (List Int)×Bool):(Int×(List (List Int)))→Option ((Int×(List (List Int))) ⊕ (List (List Int))):=fun (x20,x6)=>
 if x20<(↑r1.fst.length:Int) then
 ask ((0:Int)≤x20∧x20<(↑r1.fst.length:Int)) <|
 (K9 (nth r1.fst x20.toNat) (nth r1.fst x20.toNat)).bind fun r5=>
 (Hc (r5) (nth r1.fst x20.toNat)).bind fun r6=>
 if (r6)=true then
 ask ((x6).length+([nth r1.fst x20.toNat]).length≤LIM) <|
 ask (InI (x20+(1:Int))) <|
 some (.inl (x20+(1:Int),x6++[nth r1.fst x20.toNat]))
 else
 ask (InI (x20+(1:Int))) <|
 some (.inl (x20+(1:Int),x6))
 else
 some (.inr x6)
def J6 (r1:List (List Int)×Bool):(Int×(List (List Int)))→St:=fun s=>[(20,A.val (Ag s.1)),(19,A.val (Ag ((↑r1.fst.length:Int)))),(18,A.val ((slr false 1 (slr false 1 Ag)) (r1.fst))),(6,A.val ((slr true 1 (slr false 1 Ag)) s.2))]
def O7 (_r1:List (List Int)×Bool):(List (List Int))→Tgt
 | s=>((Ex.exit 0),[6],[(6,A.val ((slr true 1 (slr false 1 Ag)) s))])
theorem Aa2 {r1:List (List Int)×Bool} (s:(Int×(List (List Int)))) (o:(Int×(List (List Int))) ⊕ (List (List Int))) (h:C5 r1 s=some o):vc Tryz.prog O9 (Cr [20,19,18,6] (J6 r1) (O7 r1) o) (J6 r1 s):=by
 obtain ⟨x20,x6⟩:=s
 unfold C5 at h
 try dsimp only at h
 refine Br.od h (fun p3 h=> ?_) (fun p3 h=> ?_)
 ·refine Len.map<|Ask.o h fun p4 h=>Elem.o (by first | omega | (simp [Aq] at * <;> omega))<|CallQ.o (slr true 1 Ag) (by rfl) h (fun r h=>Anl h) (fun r5 h=> ?_)
  refine CallQ.rd V.bool (by first | rfl | simp only [V.fz,V.up,Ab,slr] | simp [Aa,V.fz,fzL,V.up,upL,Ab,Ac,Ad,slr]) (fun _=>rfl) h (fun r h=>Aap h) (fun r6 h=> ?_)
  refine Br.ob h (fun p7 h=> ?_) (fun p7 h=> ?_)
  ·refine BslQ.o (slr false 1 Ag) ([nth r1.fst x20.toNat]) (by exact fun _=>⟨rfl,rfl⟩) (by first | rfl | (simp only [Aa,V.fz,fzL,V.up,upL,Ab,Ac,Ad,slr,List.cons_append,List.nil_append];done) | simp [Aa,V.fz,fzL,V.up,upL,Ab,Ac,Ad,slr])<|NoOwn.o (fun _=>rfl)<|AppQ.o (m:=1) (slr false 1 Ag) (by exact fun _=>⟨rfl,rfl⟩) (x6) ([nth r1.fst x20.toNat]) (by rfl) (by rfl) h fun h=>Ask.o h fun p8 h=> ?_
   cases h;exact ⟨rfl,rfl⟩
  refine Ask.o h fun p9 h=> ?_
  cases h;exact ⟨rfl,rfl⟩
 cases h;exact ⟨rfl,rfl⟩
noncomputable def G2 (a0:SAlgebra):Option ((List (List Int))×Bool):=
 (Df (a0)).bind fun r1=>
 if (r1.snd)=true then
 (Aj (C5 r1) ((0:Int),Al (List Int))).bind fun q10_6=>
 some (q10_6,true)
 else
 some (Al (List Int),false)
theorem Ae2 {a0:SAlgebra} {v:((List (List Int))×Bool)} (h:G2 a0=some v):Ret Tryz.prog M4 [(Ae false) a0] ((fun r=>V.tup [(slr false 1 (slr false 1 Ag)) r.1,V.bool r.2]) v):=by
 refine Ih Aer (Nat.le_of_ble_eq_true rfl) ?_
 unfold G2 at h
 conv=>whnf
 refine Cells.lit rfl rfl ?_
 conv=>whnf
 refine CallQ.o (fun r=>V.tup [(slr false 1 (slr false 1 Ag)) r.1,V.bool r.2]) (by rfl) h (fun r h=>Ret.frz (Q4 h) (by first | rfl | simp only [V.fz,fzL,Ab,slr] | simp [Aa,V.fz,fzL,V.up,upL,Ab,Ac,Ad,slr])) (fun r1 h=> ?_)
 conv=>whnf
 refine Br.flip ?_
 conv=>whnf
 refine Br.ob h (fun p2 h=> ?_) (fun p2 h=> ?_)
 ·conv=>whnf
  refine BslQ.o (slr true 1 Ag) (Al (List Int)) (by exact fun _=>⟨rfl,rfl⟩) (by first | rfl | (simp only [Aa,V.fz,fzL,V.up,upL,Ab,Ac,Ad,slr,List.cons_append,List.nil_append];done) | simp [Aa,V.fz,fzL,V.up,upL,Ab,Ac,Ad,slr]) ?_
  conv=>whnf
  refine Len.map ?_
  conv=>whnf
  refine LoopQ.o [20,19,18,6] (J6 r1) (O7 r1) h (fun s o h=>Aa2 s o h) (by rfl) (fun _=>rfl) ?_
  rintro q10_6 h
  try dsimp only at h
  conv=>whnf
  cases h;exact (by first | rfl | simp only [Ah,V.fz,fzL,V.up,Ab,slr] | simp [Ah,Aa,V.fz,fzL,V.up,upL,Ab,Ac,Ad,slr])
 conv=>whnf
 refine BslQ.o (slr true 1 Ag) (Al (List Int)) (by exact fun _=>⟨rfl,rfl⟩) (by first | rfl | (simp only [Aa,V.fz,fzL,V.up,upL,Ab,Ac,Ad,slr,List.cons_append,List.nil_append];done) | simp [Aa,V.fz,fzL,V.up,upL,Ab,Ac,Ad,slr]) ?_
 conv=>whnf
 cases h;exact (by rfl)
end Go.Proofs.YtmkgjnphianalaaGreat.Ax
