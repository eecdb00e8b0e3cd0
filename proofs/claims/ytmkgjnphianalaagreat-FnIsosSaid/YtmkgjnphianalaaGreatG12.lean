/-
 What the functions compute, as functions on plain data, and that the program does compute it; written by program.
-/
import Derived.Test.YtmkgjnphianalaaGreatCode
import Derived.Test.YtmkgjnphianalaaGreatG1
import Derived.Test.YtmkgjnphianalaaGreatG3
import Derived.Test.YtmkgjnphianalaaGreatG6
import Derived.Test.YtmkgjnphianalaaGreatG8
import Derived.Test.YtmkgjnphianalaaGreatG9
import Derived.Test.YtmkgjnphianalaaGreatG10
import Derived.Test.YtmkgjnphianalaaGreatG11
namespace Go.Proofs.YtmkgjnphianalaaGreat.Ax
open Go
set_option maxRecDepth 100000
set_option maxHeartbeats 4000000
noncomputable def E4 (w_0:(List Int)) (x:(((List (List Int))) ⊕ ((Unit)×(Option (List Int))))):Option (Bool×(((List (List Int))) ⊕ ((Unit)×(Option (List Int))))):=match x with
 | (.inl x)=>(J9 w_0 x).bind fun r=>some (r.1,(.inl (r.2)))
 | (.inr x)=>(Ka w_0 x.1 x.2).bind fun r=>some (r.1,(.inr (x.1,r.2)))
theorem Afk {w_0:(List Int)} {x:(((List (List Int))) ⊕ ((Unit)×(Option (List Int))))} {v} {gv:Value} (h:E4 w_0 x=some v):Bb9 Tryz.prog [(slr false 1 Ag) w_0] (Cb gv x) (V.bool v.1) (Cb gv v.2) ∧ ∀tv f cs,Cb gv x = .clov tv f cs→cs.length≤9:=by
 rcases x with x | x
 ·obtain ⟨r,h1,h2⟩:=Option.bind_eq_some_iff.1 h
  cases h2
  exact ⟨⟨gv,Hi,[],[],(rP true (slr true 1 (slr true 1 Ag))) x,(rP true (slr true 1 (slr true 1 Ag))) r.2,rfl,rfl,rfl,rfl,⟨by first | rfl | simp [V.hasOwn],rfl⟩,⟨rfl,by first | rfl | (cases r.2<;>first | rfl | simp [V.noFz,Ch,Bs]) | simp [V.noFz,Ch,Bs,NoFz.eq]⟩,I9.cast (by rfl) (Ah1 h1)⟩,by rintro _ _ _ e;cases e;exact Nat.le_of_ble_eq_true rfl⟩
 obtain ⟨r,h1,h2⟩:=Option.bind_eq_some_iff.1 h
 cases h2
 exact ⟨⟨gv,Ho,[(rP false Eh) x.1],[],(rP true (rOw 1 Ag)) x.2,(rP true (rOw 1 Ag)) r.2,rfl,rfl,rfl,rfl,⟨by first | rfl | simp [V.hasOwn],rfl⟩,⟨rfl,by first | rfl | (cases r.2<;>first | rfl | simp [V.noFz,Bs]) | simp [V.noFz,Ch,Bs,NoFz.eq]⟩,I9.cast (by rfl) (Ag8 h1)⟩,by rintro _ _ _ e;cases e;exact Nat.le_of_ble_eq_true rfl⟩
noncomputable def Cc (_s0:ShomSearch) (f0:List Int):Int→Option (Int ⊕ Int):=fun x5=>
 if x5<(↑f0.length:Int) then
 ask ((0:Int)≤x5∧x5<(↑f0.length:Int)) <|
 if nth f0 x5.toNat≥(0:Int) then
 ask (InI (x5+(1:Int))) <|
 some (.inl (x5+(1:Int)))
 else
 some (.inr x5)
 else
 some (.inr x5)
def Gt (gv:Value) (s0:ShomSearch) (f0:List Int):Int→St:=fun s=>[(5,A.val (Ag s)),(0,A.ref 67 []),(67,A.val ((rP true (Bl gv)) (s0))),(1,A.val ((slr false 1 Ag) (f0)))]
def Ky (gv:Value) (s0:ShomSearch) (f0:List Int):Int→Tgt
 | s=>((Ex.exit 0),[5,0,67,1],[(5,A.val (Ag s)),(0,A.ref 67 []),(67,A.val ((rP true (Bl gv)) (s0))),(1,A.val ((slr false 1 Ag) (f0)))])
theorem Tb {gv:Value} {s0:ShomSearch} {f0:List Int} (x5:Int) (o:Int ⊕ Int) (h:Cc s0 f0 x5=some o):vc Tryz.prog Kw (Cr [5,0,67,1] (Gt gv s0 f0) (Ky gv s0 f0) o) (Gt gv s0 f0 x5):=by
 unfold Cc at h
 try dsimp only at h
 refine Len.map<|Br.od h (fun p1 h=> ?_) (fun p1 h=> ?_)
 ·refine Br.yes<|Br.yes<|Len.map<|Ask.o h fun p2 h=>Elem.o (by first | omega | (simp [Aq] at * <;> omega))<|Br.yes<|Br.yes<|Br.yes<|Br.od h (fun p3 h=> ?_) (fun p3 h=> ?_)
  ·refine Ask.o h fun p4 h=> ?_
   cases h;exact ⟨rfl,rfl⟩
  cases h;exact ⟨rfl,rfl⟩
 refine Br.no<|Br.no<|Br.no<|Br.no<|Br.no<|Br.no ?_
 cases h;exact ⟨rfl,rfl⟩
noncomputable def Be (self:ShomSearch→List Int→Option (Bool×ShomSearch)) (f0:List Int) (q5_5:Int):(Int×ShomSearch)→Option ((Int×ShomSearch) ⊕ (ShomSearch ⊕ ShomSearch)):=fun (x6,x67)=>
 if x6<x67.b.Size then
 ask (InI (x67.tries+(1:Int))) <|
 if x67.tries+(1:Int)>(5000:Int) then
 some (.inr (.inl ({ a:=x67.a,b:=x67.b,embed:=x67.embed,tries:=x67.tries+(1:Int),found:=x67.found })))
 else
 (Fj (f0)).bind fun r12=>
 ask ((0:Int)≤q5_5∧q5_5<(↑r12.length:Int)) <|
 (Bt ({ a:=x67.a,b:=x67.b,embed:=x67.embed,tries:=x67.tries+(1:Int),found:=x67.found }) (r12.set q5_5.toNat x6)).bind fun (r14,u15)=>
 if (r14)=true then
 (self ({ a:=x67.a,b:=x67.b,embed:=x67.embed,tries:=x67.tries+(1:Int),found:=x67.found }) (u15)).bind fun (r17,u18)=>
 if (r17)=true then
 ask (InI (x6+(1:Int))) <|
 some (.inl (x6+(1:Int),u18))
 else
 some (.inr (.inl u18))
 else
 ask (InI (x6+(1:Int))) <|
 some (.inl (x6+(1:Int),{ a:=x67.a,b:=x67.b,embed:=x67.embed,tries:=x67.tries+(1:Int),found:=x67.found }))
 else
 some (.inr (.inr x67))
def Gx (gv:Value) (f0:List Int) (q5_5:Int):(Int×ShomSearch)→St:=fun s=>[(6,A.val (Ag s.1)),(5,A.val (Ag (q5_5))),(0,A.ref 67 []),(67,A.val ((rP true (Bl gv)) s.2)),(1,A.val ((slr false 1 Ag) (f0)))]
def Kg (gv:Value) (_f0:List Int) (_q5_5:Int):(ShomSearch ⊕ ShomSearch)→Tgt
 | (.inl s)=>(Ex.ret,[4,67],[(4,A.val (V.bool (false))),(67,A.val ((rP true (Bl gv)) s))])
 | (.inr s)=>((Ex.exit 2),[67],[(67,A.val ((rP true (Bl gv)) s))])
theorem Tj {gv:Value} {self:ShomSearch→List Int→Option (Bool×ShomSearch)} {f0:List Int} {q5_5:Int} (hself : ∀ {w_0 w_1 v},self w_0 w_1=some v→I9 Tryz.prog Cg [(rP true (Bl gv)) w_0,(slr false 1 Ag) w_1] (V.bool v.1) 0 ((rP true (Bl gv)) v.2)) (s:(Int×ShomSearch)) (o:(Int×ShomSearch) ⊕ (ShomSearch ⊕ ShomSearch)) (h:Be self f0 q5_5 s=some o):vc Tryz.prog Kp (Cr [6,5,0,67,1] (Gx gv f0 q5_5) (Kg gv f0 q5_5) o) (Gx gv f0 q5_5 s):=by
 obtain ⟨x6,x67⟩:=s
 unfold Be at h
 try dsimp only at h
 refine Cells.lit rfl rfl<|Br.od h (fun p9 h=> ?_) (fun p9 h=> ?_)
 ·refine Cells.lit rfl rfl<|Ask.o h fun p10 h=>SetKids.lit rfl<|Cells.lit rfl rfl<|Br.od h (fun p11 h=> ?_) (fun p11 h=> ?_)
  ·cases h;exact ⟨rfl,rfl⟩
  refine CallQ.o (slr true 1 Ag) (by rfl) h (fun r h=>Om h) (fun r12 h=> ?_)
  refine Len.map<|Ask.o h fun p13 h=>SetKids.one (fun _=>⟨rfl,rfl⟩) (x6) (by rfl) (by first | omega | (simp [Aq] at * <;> omega))<|CallQ.io V.bool (slr true 1 Ag) (by first | rfl | (simp only [Aa,V.fz,fzL,Ab,Ac,slr];rfl) | simp [Aa,V.fz,fzL,V.up,upL,Ab,Ac,Ad,slr]) rfl (fun _=>rfl) (fun _=>⟨by first | rfl | simp [C7,V.noFz,Bs],rfl⟩) rfl h (fun r h=>J3 h) (fun r14 u15 h=> ?_)
  refine Br.ob h (fun p16 h=> ?_) (fun p16 h=> ?_)
  ·refine Br.yes<|Br.yes<|CallQ.io V.bool (rP true (Bl gv)) (by first | rfl | (simp only [V.fz,Ab,slr];rfl) | simp [Aa,V.fz,fzL,V.up,upL,Ab,Ac,Ad,slr]) rfl (fun _=>rfl) (fun _=>⟨rfl,rfl⟩) rfl h (fun r h=>hself h) (fun r17 u18 h=> ?_)
   refine Br.yes<|Br.yes<|Br.flip<|Br.ob h (fun p19 h=> ?_) (fun p19 h=> ?_)
   ·refine Ask.o h fun p20 h=> ?_
    cases h;exact ⟨rfl,rfl⟩
   cases h;exact ⟨rfl,rfl⟩
  refine Br.no<|Br.no<|Br.no<|Br.no<|Br.no<|Ask.o h fun p21 h=> ?_
  cases h;exact ⟨rfl,rfl⟩
 cases h;exact ⟨rfl,rfl⟩
noncomputable def B0 (self:ShomSearch→(List Int)→Option (Bool×ShomSearch)) (s0:ShomSearch) (f0:(List Int)):Option (Bool×ShomSearch):=
 (Aj (Cc s0 f0) (0:Int)).bind fun q5_5=>
 if q5_5=(↑f0.length:Int) then
 (E4 (f0) (s0.found)).bind fun (r7,u8)=>
 some (r7,{ a:=s0.a,b:=s0.b,embed:=s0.embed,tries:=s0.tries,found:=u8 })
 else
 (Aj (Be self f0 q5_5) ((0:Int),s0)).bind fun t=>match t with
 | (.inl q22_67)=>(some (false,q22_67))
 | (.inr q22_67)=>(some (true,q22_67))
noncomputable def A7:Nat→ShomSearch→(List Int)→Option (Bool×ShomSearch)
 | 0=>fun _ _=>none
 | n+1=>B0 (A7 n)
theorem U6 {gv:Value} {self:ShomSearch→(List Int)→Option (Bool×ShomSearch)} (hself : ∀ {w_0 w_1 v},self w_0 w_1=some v→I9 Tryz.prog Cg [(rP true (Bl gv)) w_0,(slr false 1 Ag) w_1] (V.bool v.1) 0 ((rP true (Bl gv)) v.2)) {s0:ShomSearch} {f0:(List Int)} {v:(Bool×ShomSearch)} (h:B0 self s0 f0=some v):I9 Tryz.prog Cg [(rP true (Bl gv)) s0,(slr false 1 Ag) f0] (V.bool v.1) 0 ((rP true (Bl gv)) v.2):=by
 refine Lg Xs (Nat.le_of_ble_eq_true rfl) ?_
 unfold B0 at h
 refine LoopQ.o [5,0,67,1] (Gt gv s0 f0) (Ky gv s0 f0) h (fun s o h=>Tb s o h) (by rfl) (fun _=>rfl) ?_
 rintro q5_5 h
 try dsimp only at h
 refine Len.map<|Br.oe h (fun p6 h=> ?_) (fun p6 h=> ?_)
 ·refine Cells.lit rfl rfl<|A1r (Adw _ _)<|Kid.lit rfl rfl<|CloN.o V.bool (Cb gv) (by rfl) rfl rfl (by decide) rfl (fun _=>rfl) rfl rfl h (fun r h=>Afk h) (fun r7 u8 h=> ?_)
  refine Kid.lit rfl rfl<|SetKids.lit rfl ?_
  cases h;exact ⟨(by rfl),(by rfl)⟩
 refine LoopQ.o [6,5,0,67,1] (Gx gv f0 q5_5) (Kg gv f0 q5_5) h (fun s o h=>Tj hself s o h) (by rfl) (by rintro (_ | _)<;>rfl) ?_
 rintro (q22_67 | q22_67) h
 ·try dsimp only at h
  cases h;exact ⟨(by rfl),(by rfl)⟩
 try dsimp only at h
 cases h;exact ⟨(by rfl),(by rfl)⟩
theorem Ll {gv:Value} : ∀(n:Nat) {s0:ShomSearch} {f0:(List Int)} {v:(Bool×ShomSearch)},A7 n s0 f0=some v→I9 Tryz.prog Cg [(rP true (Bl gv)) s0,(slr false 1 Ag) f0] (V.bool v.1) 0 ((rP true (Bl gv)) v.2)
 | 0,_,_,_,h=>by cases h
 | n+1,_,_,_,h=>U6 (fun h=>Ll n h) h
theorem Ni {gv:Value} {s0:ShomSearch} {f0:(List Int)} {v:(Bool×ShomSearch)} (h:(Alw fun n=>A7 n s0 f0)=some v):I9 Tryz.prog Cg [(rP true (Bl gv)) s0,(slr false 1 Ag) f0] (V.bool v.1) 0 ((rP true (Bl gv)) v.2):=by
 obtain ⟨n,hn⟩:=Ate h
 exact Ll n hn
noncomputable def Fq (a0:SAlgebra) (b0:SAlgebra):Option (Bool×Bool):=
 (Ix (a0) (b0)).bind fun r1=>
 if (r1)=true then
 if a0.Size≠b0.Size then
 some (false,true)
 else
 (Dg (a0) (b0) (true) (false) ((1:Int))).bind fun r4=>
 if (r4.snd)=true then
 some (decide ((↑r4.fst.length:Int)>(0:Int)),r4.snd)
 else
 some (false,r4.snd)
 else
 some (false,false)
theorem Ac8 {a0:SAlgebra} {b0:SAlgebra} {v:(Bool×Bool)} (h:Fq a0 b0=some v):Ret Tryz.prog K3 [(Ae false) a0,(Ae false) b0] ((fun r=>V.tup [V.bool r.1,V.bool r.2]) v):=by
 refine A6 Ac3 (Nat.le_of_ble_eq_true rfl) ?_
 unfold Fq at h
 refine Cells.lit rfl rfl<|Cells.lit rfl rfl<|CallQ.o V.bool (by rfl) h (fun r h=>Z0 h) (fun r1 h=> ?_)
 refine Br.flip<|Br.ob h (fun p2 h=> ?_) (fun p2 h=> ?_)
 ·refine Cells.lit rfl rfl<|Cells.lit rfl rfl<|Br.on h (fun p3 h=> ?_) (fun p3 h=> ?_)
  ·cases h;exact (by rfl)
  refine Cells.lit rfl rfl<|Cells.lit rfl rfl<|CallQ.o (fun r=>V.tup [(slr false 1 (slr false 1 Ag)) r.1,V.bool r.2]) (by rfl) h (fun r h=>Qn h) (fun r4 h=> ?_)
  refine Br.ob h (fun p5 h=> ?_) (fun p5 h=> ?_)
  ·refine Br.yes<|Len.map<|Br.yes<|Br.yes ?_
   cases h;exact (by rfl)
  refine Br.no<|Br.no<|Br.no ?_
  cases h;exact (by rfl)
 cases h;exact (by rfl)
noncomputable def Dk (code0:(List Int)):Option (SAlgebra×(List Int)):=
 (Cm ({ code:=code0,at_:=(0:Int),seed:=(0:Int) })).bind fun (r1,u2)=>
 (Oz (r1.Size) ((9:Int))).bind fun r3=>
 (Co (u2) (r3)).bind fun (r4,_u5)=>
 some (r1,r4)
theorem U0 {code0:(List Int)} {v:(SAlgebra×(List Int))} (h:Dk code0=some v):Ret Tryz.prog G6 [(slr false 1 (V.int IntKind.u8)) code0] ((fun r=>V.tup [(Ae true) r.1,(slr true 1 Ag) r.2]) v):=by
 refine A6 Uw (Nat.le_of_ble_eq_true rfl) ?_
 unfold Dk at h
 refine CallQ.io (Ae true) (rP true (Am false)) (by rfl) rfl (fun _=>rfl) (fun _=>⟨rfl,rfl⟩) rfl h (fun r h=>Fp h) (fun r1 u2 h=> ?_)
 refine SetKids.lit rfl<|Cells.lit rfl rfl<|Cells.lit rfl rfl<|CallP.o Ag (by rfl) h (fun r h=>Apx h) (fun r3 h=> ?_)
 refine LendP.io (slr true 1 Ag) (rP true (Am false)) (by rfl) (fun _=>rfl) (fun _=>⟨rfl,rfl⟩) (fun _=>rfl) h (fun r h=>Sm h) (fun r4 u5 h=> ?_)
 refine SetKids.lit rfl ?_
 cases h;exact (by rfl)
noncomputable def Ew (a0:SAlgebra) (names0:(List Int)):Option (SAlgebra×Bool):=
 (C2 (a0)).bind fun r1=>
 if (r1)=true then
 (Kt (names0) (a0.Size)).bind fun r3=>
 if (r3)=true then
 (Lt (a0) (names0)).bind fun r5=>
 some (r5,true)
 else
 some ({ Size:=(0:Int),Ops:=Al SOp },false)
 else
 some ({ Size:=(0:Int),Ops:=Al SOp },false)
theorem Aa6 {a0:SAlgebra} {names0:(List Int)} {v:(SAlgebra×Bool)} (h:Ew a0 names0=some v):Ret Tryz.prog J2 [(Ae false) a0,(slr false 1 Ag) names0] ((fun r=>V.tup [(Ae true) r.1,V.bool r.2]) v):=by
 refine A6 Abc (Nat.le_of_ble_eq_true rfl) ?_
 unfold Ew at h
 refine Cells.lit rfl rfl<|CallQ.o V.bool (by rfl) h (fun r h=>Gm h) (fun r1 h=> ?_)
 refine Br.flip<|Br.ob h (fun p2 h=> ?_) (fun p2 h=> ?_)
 ·refine Br.no<|Br.no<|Cells.lit rfl rfl<|Br.no<|CallQ.o V.bool (by rfl) h (fun r h=>Ao6 h) (fun r3 h=> ?_)
  refine Br.no<|Br.no<|Br.flip<|Br.ob h (fun p4 h=> ?_) (fun p4 h=> ?_)
  ·refine Cells.lit rfl rfl<|CallQ.o (Ae true) (by rfl) h (fun r h=>Ar3 h) (fun r5 h=> ?_)
   refine SetKids.lit rfl ?_
   cases h;exact (by rfl)
  refine SetKids.lit rfl ?_
  cases h;exact (by rfl)
 refine Br.yes<|Br.yes<|Br.yes<|Br.yes<|Br.yes<|Br.yes<|SetKids.lit rfl ?_
 cases h;exact (by rfl)
noncomputable def Np (a0:SAlgebra) (b0:SAlgebra) (into0:Bool) (onto0:Bool):Option ((List Int)×Bool):=
 (Dg (a0) (b0) (into0) (onto0) ((1:Int))).bind fun r1=>
 if (r1.snd)=true then
 if (↑r1.fst.length:Int)=(0:Int) then
 some (Al Int,false)
 else
 ask ((0:Int)≤(0:Int)∧(0:Int)<(↑r1.fst.length:Int)) <|
 some (nth r1.fst (Int.toNat (0:Int)),true)
 else
 some (Al Int,false)
theorem Av5 {a0:SAlgebra} {b0:SAlgebra} {into0:Bool} {onto0:Bool} {v:((List Int)×Bool)} (h:Np a0 b0 into0 onto0=some v):Ret Tryz.prog Zl [(Ae false) a0,(Ae false) b0,V.bool into0,V.bool onto0] ((fun r=>V.tup [(slr false 1 Ag) r.1,V.bool r.2]) v):=by
 refine Ih Awd (Nat.le_of_ble_eq_true rfl) ?_
 unfold Np at h
 refine Cells.lit rfl rfl<|Cells.lit rfl rfl<|CallQ.o (fun r=>V.tup [(slr false 1 (slr false 1 Ag)) r.1,V.bool r.2]) (by rfl) h (fun r h=>Qn h) (fun r1 h=> ?_)
 refine Br.flip<|Br.ob h (fun p2 h=> ?_) (fun p2 h=> ?_)
 ·refine Br.no<|Len.map<|Br.no<|Br.no<|Br.oe h (fun p3 h=> ?_) (fun p3 h=> ?_)
  ·refine BslQ.o Ag (Al Int) (by exact fun _=>⟨rfl,rfl⟩) (by first | rfl | (simp only [Aa,V.fz,fzL,V.up,upL,Ab,Ac,Ad,slr,List.cons_append,List.nil_append];done) | simp [Aa,V.fz,fzL,V.up,upL,Ab,Ac,Ad,slr]) ?_
   cases h;exact (by rfl)
  refine Len.map<|Ask.o h fun p4 h=>Elem.o (by first | omega | (simp [Aq] at * <;> omega)) ?_
  cases h;exact (by rfl)
 refine Br.yes<|Br.yes<|Br.yes<|Br.yes<|BslQ.o Ag (Al Int) (by exact fun _=>⟨rfl,rfl⟩) (by first | rfl | (simp only [Aa,V.fz,fzL,V.up,upL,Ab,Ac,Ad,slr,List.cons_append,List.nil_append];done) | simp [Aa,V.fz,fzL,V.up,upL,Ab,Ac,Ad,slr]) ?_
 cases h;exact (by rfl)
noncomputable def Jx (a0:SAlgebra):Option ((List (List Int))×Bool):=
 (Dg (a0) (a0) (true) (false) ((301:Int))).bind fun r1=>
 if (r1.snd)=true then
 if (↑r1.fst.length:Int)>(300:Int) then
 some (Al (List Int),false)
 else
 some (r1.fst,true)
 else
 some (Al (List Int),false)
theorem Aef {a0:SAlgebra} {v:((List (List Int))×Bool)} (h:Jx a0=some v):Ret Tryz.prog Qi [(Ae false) a0] ((fun r=>V.tup [(slr false 1 (slr false 1 Ag)) r.1,V.bool r.2]) v):=by
 refine Ih Asp (Nat.le_of_ble_eq_true rfl) ?_
 unfold Jx at h
 refine Cells.lit rfl rfl<|Cells.lit rfl rfl<|CallQ.o (fun r=>V.tup [(slr false 1 (slr false 1 Ag)) r.1,V.bool r.2]) (by rfl) h (fun r h=>Qn h) (fun r1 h=> ?_)
 refine Br.flip<|Br.ob h (fun p2 h=> ?_) (fun p2 h=> ?_)
 ·refine Br.no<|Len.map<|Br.no<|Br.no<|Br.od h (fun p3 h=> ?_) (fun p3 h=> ?_)
  ·refine BslQ.o (slr true 1 Ag) (Al (List Int)) (by exact fun _=>⟨rfl,rfl⟩) (by first | rfl | (simp only [Aa,V.fz,fzL,V.up,upL,Ab,Ac,Ad,slr,List.cons_append,List.nil_append];done) | simp [Aa,V.fz,fzL,V.up,upL,Ab,Ac,Ad,slr]) ?_
   cases h;exact (by rfl)
  cases h;exact (by rfl)
 refine Br.yes<|Br.yes<|Br.yes<|Br.yes<|BslQ.o (slr true 1 Ag) (Al (List Int)) (by exact fun _=>⟨rfl,rfl⟩) (by first | rfl | (simp only [Aa,V.fz,fzL,V.up,upL,Ab,Ac,Ad,slr,List.cons_append,List.nil_append];done) | simp [Aa,V.fz,fzL,V.up,upL,Ab,Ac,Ad,slr]) ?_
 cases h;exact (by rfl)
noncomputable def Ir (a0:SAlgebra) (b0:SAlgebra):Option ((List (List Int))×Bool):=
 (Ix (a0) (b0)).bind fun r1=>
 if (r1)=true then
 (Dg (a0) (b0) (false) (false) ((301:Int))).bind fun r3=>
 if (r3.snd)=true then
 if (↑r3.fst.length:Int)>(300:Int) then
 some (Al (List Int),false)
 else
 some (r3.fst,true)
 else
 some (Al (List Int),false)
 else
 some (Al (List Int),false)
theorem Acn {a0:SAlgebra} {b0:SAlgebra} {v:((List (List Int))×Bool)} (h:Ir a0 b0=some v):Ret Tryz.prog N1 [(Ae false) a0,(Ae false) b0] ((fun r=>V.tup [(slr false 1 (slr false 1 Ag)) r.1,V.bool r.2]) v):=by
 refine Ih Ap8 (Nat.le_of_ble_eq_true rfl) ?_
 unfold Ir at h
 refine Cells.lit rfl rfl<|Cells.lit rfl rfl<|CallQ.o V.bool (by rfl) h (fun r h=>Z0 h) (fun r1 h=> ?_)
 refine Br.flip<|Br.ob h (fun p2 h=> ?_) (fun p2 h=> ?_)
 ·refine Cells.lit rfl rfl<|Cells.lit rfl rfl<|CallQ.o (fun r=>V.tup [(slr false 1 (slr false 1 Ag)) r.1,V.bool r.2]) (by rfl) h (fun r h=>Qn h) (fun r3 h=> ?_)
  refine Br.flip<|Br.ob h (fun p4 h=> ?_) (fun p4 h=> ?_)
  ·refine Br.no<|Len.map<|Br.no<|Br.no<|Br.od h (fun p5 h=> ?_) (fun p5 h=> ?_)
   ·refine BslQ.o (slr true 1 Ag) (Al (List Int)) (by exact fun _=>⟨rfl,rfl⟩) (by first | rfl | (simp only [Aa,V.fz,fzL,V.up,upL,Ab,Ac,Ad,slr,List.cons_append,List.nil_append];done) | simp [Aa,V.fz,fzL,V.up,upL,Ab,Ac,Ad,slr]) ?_
    cases h;exact (by rfl)
   cases h;exact (by rfl)
  refine Br.yes<|Br.yes<|Br.yes<|Br.yes<|BslQ.o (slr true 1 Ag) (Al (List Int)) (by exact fun _=>⟨rfl,rfl⟩) (by first | rfl | (simp only [Aa,V.fz,fzL,V.up,upL,Ab,Ac,Ad,slr,List.cons_append,List.nil_append];done) | simp [Aa,V.fz,fzL,V.up,upL,Ab,Ac,Ad,slr]) ?_
  cases h;exact (by rfl)
 refine BslQ.o (slr true 1 Ag) (Al (List Int)) (by exact fun _=>⟨rfl,rfl⟩) (by first | rfl | (simp only [Aa,V.fz,fzL,V.up,upL,Ab,Ac,Ad,slr,List.cons_append,List.nil_append];done) | simp [Aa,V.fz,fzL,V.up,upL,Ab,Ac,Ad,slr]) ?_
 cases h;exact (by rfl)
noncomputable def Ss (a0:SAlgebra) (b0:SAlgebra):Option Bool:=
 (Mf (a0) (b0)).bind fun r1=>
 if (r1.snd)=true then
 some r1.fst
 else
 some false
theorem Auz {a0:SAlgebra} {b0:SAlgebra} {v:Bool} (h:Ss a0 b0=some v):Ret Tryz.prog Zf [(Ae false) a0,(Ae false) b0] (V.bool v):=by
 refine A6 Avf (Nat.le_of_ble_eq_true rfl) ?_
 unfold Ss at h
 refine Cells.lit rfl rfl<|Cells.lit rfl rfl<|CallQ.o (fun r=>V.tup [V.bool r.1,V.bool r.2]) (by rfl) h (fun r h=>Alr h) (fun r1 h=> ?_)
 refine Br.ob h (fun p2 h=> ?_) (fun p2 h=> ?_)
 ·refine Br.yes ?_
  cases h;exact (by rfl)
 refine Br.no ?_
 cases h;exact (by rfl)
end Go.Proofs.YtmkgjnphianalaaGreat.Ax
