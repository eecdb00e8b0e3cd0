/-
 What the functions compute, as functions on plain data, and that the program does compute it; written by program.
-/
import Derived.Test.YtmkgjnphianalaaCode
import Derived.Test.YtmkgjnphianalaaG1
import Derived.Test.YtmkgjnphianalaaG4
import Derived.Test.YtmkgjnphianalaaG8
import Derived.Test.YtmkgjnphianalaaG10
namespace Go.Proofs.Ytmkgjnphianalaa.Ax
open Go
set_option maxRecDepth 100000
set_option maxHeartbeats 4000000
noncomputable def Dt (w_0:(List Int)) (x:(((List (List Int))) ⊕ ((Unit ⊕ (SAlgebra))×(Option (List Int))))):Option (Bool×(((List (List Int))) ⊕ ((Unit ⊕ (SAlgebra))×(Option (List Int))))):=match x with
 | (.inl x)=>(Jd w_0 x).bind fun r=>some (r.1,(.inl (r.2)))
 | (.inr x)=>(Gu w_0 x.1 x.2).bind fun r=>some (r.1,(.inr (x.1,r.2)))
theorem Ab4 {w_0:(List Int)} {x:(((List (List Int))) ⊕ ((Unit ⊕ (SAlgebra))×(Option (List Int))))} {v} {gv:Value} (h:Dt w_0 x=some v):A7s Try.prog [(slr false 1 Ag) w_0] (B9 gv x) (V.bool v.1) (B9 gv v.2) ∧ ∀tv f cs,B9 gv x = .clov tv f cs→cs.length≤9:=by
 rcases x with x | x
 ·obtain ⟨r,h1,h2⟩:=Option.bind_eq_some_iff.1 h
  cases h2
  exact ⟨⟨gv,Gx,[],[],(rP true (slr true 1 (slr true 1 Ag))) x,(rP true (slr true 1 (slr true 1 Ag))) r.2,rfl,rfl,rfl,rfl,⟨by first | rfl | simp [V.hasOwn],rfl⟩,⟨rfl,by first | rfl | (cases r.2<;>first | rfl | simp [V.noFz,Cc,Bs]) | simp [V.noFz,Cc,Bs,NoFz.eq]⟩,H8.cast (by rfl) (Adz h1)⟩,by rintro _ _ _ e;cases e;exact Nat.le_of_ble_eq_true rfl⟩
 obtain ⟨r,h1,h2⟩:=Option.bind_eq_some_iff.1 h
 cases h2
 exact ⟨⟨gv,Gw,[(rP false Eb) x.1],[],(rP true (rOw 1 Ag)) x.2,(rP true (rOw 1 Ag)) r.2,rfl,rfl,rfl,rfl,⟨by first | rfl | simp [V.hasOwn],rfl⟩,⟨rfl,by first | rfl | (cases r.2<;>first | rfl | simp [V.noFz,Bs]) | simp [V.noFz,Cc,Bs,NoFz.eq]⟩,H8.cast (by rfl) (Aeo h1)⟩,by rintro _ _ _ e;cases e;exact Nat.le_of_ble_eq_true rfl⟩
noncomputable def Ca (_s0:ShomSearch) (f0:List Int):Int→Option (Int ⊕ Int):=fun x5=>
 if x5<(↑f0.length:Int) then
 ask ((0:Int)≤x5∧x5<(↑f0.length:Int)) <|
 if nth f0 x5.toNat≥(0:Int) then
 ask (InI (x5+(1:Int))) <|
 some (.inl (x5+(1:Int)))
 else
 some (.inr x5)
 else
 some (.inr x5)
def F6 (gv:Value) (s0:ShomSearch) (f0:List Int):Int→St:=fun s=>[(5,A.val (Ag s)),(0,A.ref 67 []),(67,A.val ((rP true (Bm gv)) (s0))),(1,A.val ((slr false 1 Ag) (f0)))]
def Jr (gv:Value) (s0:ShomSearch) (f0:List Int):Int→Tgt
 | s=>((Ex.exit 0),[5,0,67,1],[(5,A.val (Ag s)),(0,A.ref 67 []),(67,A.val ((rP true (Bm gv)) (s0))),(1,A.val ((slr false 1 Ag) (f0)))])
theorem Rl {gv:Value} {s0:ShomSearch} {f0:List Int} (x5:Int) (o:Int ⊕ Int) (h:Ca s0 f0 x5=some o):vc Try.prog J6 (C1 [5,0,67,1] (F6 gv s0 f0) (Jr gv s0 f0) o) (F6 gv s0 f0 x5):=by
 unfold Ca at h
 try dsimp only at h
 refine Len.map ?_
 refine Br.od h (fun p1 h=> ?_) (fun p1 h=> ?_)
 ·refine Br.yes ?_
  refine Br.yes ?_
  refine Len.map ?_
  refine Ask.o h fun p2 h=> ?_
  refine Elem.o (by first | omega | (simp [Aw] at * <;> omega)) ?_
  refine Br.yes ?_
  refine Br.yes ?_
  refine Br.yes ?_
  refine Br.od h (fun p3 h=> ?_) (fun p3 h=> ?_)
  ·refine Ask.o h fun p4 h=> ?_
   cases h;exact ⟨rfl,rfl⟩
  cases h;exact ⟨rfl,rfl⟩
 refine Br.no ?_
 refine Br.no ?_
 refine Br.no ?_
 refine Br.no ?_
 refine Br.no ?_
 refine Br.no ?_
 cases h;exact ⟨rfl,rfl⟩
noncomputable def Bg (self:ShomSearch→List Int→Option (Bool×ShomSearch)) (f0:List Int) (q5_5:Int):(Int×ShomSearch)→Option ((Int×ShomSearch) ⊕ (ShomSearch ⊕ ShomSearch)):=fun (x6,x67)=>
 if x6<x67.b.Size then
 ask (InI (x67.tries+(1:Int))) <|
 if x67.tries+(1:Int)>(5000:Int) then
 some (.inr (.inl ({ a:=x67.a,b:=x67.b,embed:=x67.embed,tries:=x67.tries+(1:Int),found:=x67.found })))
 else
 (Ea (f0)).bind fun r12=>
 ask ((0:Int)≤q5_5∧q5_5<(↑r12.length:Int)) <|
 (Bv ({ a:=x67.a,b:=x67.b,embed:=x67.embed,tries:=x67.tries+(1:Int),found:=x67.found }) (r12.set q5_5.toNat x6)).bind fun (r14,u15)=>
 if (r14)=true then
 (self ({ a:=x67.a,b:=x67.b,embed:=x67.embed,tries:=x67.tries+(1:Int),found:=x67.found }) (u15)).bind fun (r17,u18)=>
 if (r17)=true then
 ask (InI (x6+(1:Int))) <|
 some (.inl (x6+(1:Int),u18))
 else
 some (.inr (.inl u18))
 else
 ask (InI (x6+(1:Int))) <|
 some (.inl (x6+(1:Int),{ a:=x67.a,b:=x67.b,embed:=x67.embed,tries:=x67.tries+(1:Int),found:=x67.found }))
 else
 some (.inr (.inr x67))
def F5 (gv:Value) (f0:List Int) (q5_5:Int):(Int×ShomSearch)→St:=fun s=>[(6,A.val (Ag s.1)),(5,A.val (Ag (q5_5))),(0,A.ref 67 []),(67,A.val ((rP true (Bm gv)) s.2)),(1,A.val ((slr false 1 Ag) (f0)))]
def Jz (gv:Value) (_f0:List Int) (_q5_5:Int):(ShomSearch ⊕ ShomSearch)→Tgt
 | (.inl s)=>(Ex.ret,[4,67],[(4,A.val (V.bool (false))),(67,A.val ((rP true (Bm gv)) s))])
 | (.inr s)=>((Ex.exit 2),[67],[(67,A.val ((rP true (Bm gv)) s))])
theorem Sd {gv:Value} {self:ShomSearch→List Int→Option (Bool×ShomSearch)} {f0:List Int} {q5_5:Int} (hself : ∀ {w_0 w_1 v},self w_0 w_1=some v→H8 Try.prog Cb [(rP true (Bm gv)) w_0,(slr false 1 Ag) w_1] (V.bool v.1) 0 ((rP true (Bm gv)) v.2)) (s:(Int×ShomSearch)) (o:(Int×ShomSearch) ⊕ (ShomSearch ⊕ ShomSearch)) (h:Bg self f0 q5_5 s=some o):vc Try.prog Jh (C1 [6,5,0,67,1] (F5 gv f0 q5_5) (Jz gv f0 q5_5) o) (F5 gv f0 q5_5 s):=by
 obtain ⟨x6,x67⟩:=s
 unfold Bg at h
 try dsimp only at h
 refine Cells.lit rfl rfl ?_
 refine Br.od h (fun p9 h=> ?_) (fun p9 h=> ?_)
 ·refine Cells.lit rfl rfl ?_
  refine Ask.o h fun p10 h=> ?_
  refine SetKids.lit rfl ?_
  refine Cells.lit rfl rfl ?_
  refine Br.od h (fun p11 h=> ?_) (fun p11 h=> ?_)
  ·cases h;exact ⟨rfl,rfl⟩
  refine CallQ.o (slr true 1 Ag) (by rfl) h (fun r h=>Ic h) (fun r12 h=> ?_)
  refine Len.map ?_
  refine Ask.o h fun p13 h=> ?_
  refine SetKids.one (fun _=>⟨rfl,rfl⟩) (x6) (by rfl) (by first | omega | (simp [Aw] at * <;> omega)) ?_
  refine CallQ.io V.bool (slr true 1 Ag) (by first | rfl | (simp only [Aa,V.fz,fzL,Ab,Ac,slr];rfl) | simp [Aa,V.fz,fzL,V.up,upL,Ab,Ac,Ad,slr]) rfl (fun _=>rfl) (fun _=>⟨by first | rfl | simp [Cx,V.noFz,Bs],rfl⟩) rfl h (fun r h=>Iy h) (fun r14 u15 h=> ?_)
  refine Br.ob h (fun p16 h=> ?_) (fun p16 h=> ?_)
  ·refine Br.yes ?_
   refine Br.yes ?_
   refine CallQ.io V.bool (rP true (Bm gv)) (by first | rfl | (simp only [V.fz,Ab,slr];rfl) | simp [Aa,V.fz,fzL,V.up,upL,Ab,Ac,Ad,slr]) rfl (fun _=>rfl) (fun _=>⟨rfl,rfl⟩) rfl h (fun r h=>hself h) (fun r17 u18 h=> ?_)
   refine Br.yes ?_
   refine Br.yes ?_
   refine Br.flip ?_
   refine Br.ob h (fun p19 h=> ?_) (fun p19 h=> ?_)
   ·refine Ask.o h fun p20 h=> ?_
    cases h;exact ⟨rfl,rfl⟩
   cases h;exact ⟨rfl,rfl⟩
  refine Br.no ?_
  refine Br.no ?_
  refine Br.no ?_
  refine Br.no ?_
  refine Br.no ?_
  refine Ask.o h fun p21 h=> ?_
  cases h;exact ⟨rfl,rfl⟩
 cases h;exact ⟨rfl,rfl⟩
noncomputable def Bz (self:ShomSearch→(List Int)→Option (Bool×ShomSearch)) (s0:ShomSearch) (f0:(List Int)):Option (Bool×ShomSearch):=
 (Al (Ca s0 f0) (0:Int)).bind fun q5_5=>
 if q5_5=(↑f0.length:Int) then
 (Dt (f0) (s0.found)).bind fun (r7,u8)=>
 some (r7,{ a:=s0.a,b:=s0.b,embed:=s0.embed,tries:=s0.tries,found:=u8 })
 else
 (Al (Bg self f0 q5_5) ((0:Int),s0)).bind fun t=>match t with
 | (.inl q22_67)=>(some (false,q22_67))
 | (.inr q22_67)=>(some (true,q22_67))
noncomputable def A6:Nat→ShomSearch→(List Int)→Option (Bool×ShomSearch)
 | 0=>fun _ _=>none
 | n+1=>Bz (A6 n)
theorem S3 {gv:Value} {self:ShomSearch→(List Int)→Option (Bool×ShomSearch)} (hself : ∀ {w_0 w_1 v},self w_0 w_1=some v→H8 Try.prog Cb [(rP true (Bm gv)) w_0,(slr false 1 Ag) w_1] (V.bool v.1) 0 ((rP true (Bm gv)) v.2)) {s0:ShomSearch} {f0:(List Int)} {v:(Bool×ShomSearch)} (h:Bz self s0 f0=some v):H8 Try.prog Cb [(rP true (Bm gv)) s0,(slr false 1 Ag) f0] (V.bool v.1) 0 ((rP true (Bm gv)) v.2):=by
 refine I7 U9 (Nat.le_of_ble_eq_true rfl) ?_
 unfold Bz at h
 refine LoopQ.o [5,0,67,1] (F6 gv s0 f0) (Jr gv s0 f0) h (fun s o h=>Rl s o h) (by rfl) (fun _=>rfl) ?_
 rintro q5_5 h
 try dsimp only at h
 refine Len.map ?_
 refine Br.oe h (fun p6 h=> ?_) (fun p6 h=> ?_)
 ·refine Cells.lit rfl rfl ?_
  refine Avs (Aa6 _ _) ?_
  refine Kid.lit rfl rfl ?_
  refine CloN.o V.bool (B9 gv) (by rfl) rfl rfl (by decide) rfl (fun _=>rfl) rfl rfl h (fun r h=>Ab4 h) (fun r7 u8 h=> ?_)
  refine Kid.lit rfl rfl ?_
  refine SetKids.lit rfl ?_
  cases h;exact ⟨(by rfl),(by rfl)⟩
 refine LoopQ.o [6,5,0,67,1] (F5 gv f0 q5_5) (Jz gv f0 q5_5) h (fun s o h=>Sd hself s o h) (by rfl) (by rintro (_ | _)<;>rfl) ?_
 rintro (q22_67 | q22_67) h
 ·try dsimp only at h
  cases h;exact ⟨(by rfl),(by rfl)⟩
 try dsimp only at h
 cases h;exact ⟨(by rfl),(by rfl)⟩
theorem Kl {gv:Value} : ∀(n:Nat) {s0:ShomSearch} {f0:(List Int)} {v:(Bool×ShomSearch)},A6 n s0 f0=some v→H8 Try.prog Cb [(rP true (Bm gv)) s0,(slr false 1 Ag) f0] (V.bool v.1) 0 ((rP true (Bm gv)) v.2)
 | 0,_,_,_,h=>by cases h
 | n+1,_,_,_,h=>S3 (fun h=>Kl n h) h
theorem L5 {gv:Value} {s0:ShomSearch} {f0:(List Int)} {v:(Bool×ShomSearch)} (h:(Agn fun n=>A6 n s0 f0)=some v):H8 Try.prog Cb [(rP true (Bm gv)) s0,(slr false 1 Ag) f0] (V.bool v.1) 0 ((rP true (Bm gv)) v.2):=by
 obtain ⟨n,hn⟩:=Apj h
 exact Kl n hn
noncomputable def En (a0:SAlgebra) (b0:SAlgebra):Option ((List Int)×Bool):=
 (Gs (a0) (b0)).bind fun r1=>
 if (r1)=true then
 (Kg (a0) (b0) (true) (false)).bind fun r3=>
 some r3
 else
 some (Ao Int,false)
theorem Ys {a0:SAlgebra} {b0:SAlgebra} {v:((List Int)×Bool)} (h:En a0 b0=some v):Ret Try.prog I3 [(Ae false) a0,(Ae false) b0] ((fun r=>V.tup [(slr false 1 Ag) r.1,V.bool r.2]) v):=by
 refine M2 Yx (Nat.le_of_ble_eq_true rfl) ?_
 unfold En at h
 refine Cells.lit rfl rfl ?_
 refine Cells.lit rfl rfl ?_
 refine CallQ.o V.bool (by rfl) h (fun r h=>Q3 h) (fun r1 h=> ?_)
 refine Br.flip ?_
 refine Br.ob h (fun p2 h=> ?_) (fun p2 h=> ?_)
 ·refine Cells.lit rfl rfl ?_
  refine Cells.lit rfl rfl ?_
  refine CallQ.o (fun r=>V.tup [(slr false 1 Ag) r.1,V.bool r.2]) (by rfl) h (fun r h=>Adp h) (fun r3 h=> ?_)
  cases h;exact (by rfl)
 refine BslQ.o Ag (Ao Int) (by exact fun _=>⟨rfl,rfl⟩) (by first | rfl | (simp only [Aa,V.fz,fzL,V.up,upL,Ab,Ac,Ad,slr,List.cons_append,List.nil_append];done) | simp [Aa,V.fz,fzL,V.up,upL,Ab,Ac,Ad,slr]) ?_
 cases h;exact (by rfl)
noncomputable def Hj (a0:SAlgebra) (b0:SAlgebra):Option ((List Int)×Bool):=
 (Gs (a0) (b0)).bind fun r1=>
 if (r1)=true then
 (Kg (a0) (b0) (false) (true)).bind fun r3=>
 some r3
 else
 some (Ao Int,false)
theorem Agk {a0:SAlgebra} {b0:SAlgebra} {v:((List Int)×Bool)} (h:Hj a0 b0=some v):Ret Try.prog Nx [(Ae false) a0,(Ae false) b0] ((fun r=>V.tup [(slr false 1 Ag) r.1,V.bool r.2]) v):=by
 refine M2 Aff (Nat.le_of_ble_eq_true rfl) ?_
 unfold Hj at h
 refine Cells.lit rfl rfl ?_
 refine Cells.lit rfl rfl ?_
 refine CallQ.o V.bool (by rfl) h (fun r h=>Q3 h) (fun r1 h=> ?_)
 refine Br.flip ?_
 refine Br.ob h (fun p2 h=> ?_) (fun p2 h=> ?_)
 ·refine Cells.lit rfl rfl ?_
  refine Cells.lit rfl rfl ?_
  refine CallQ.o (fun r=>V.tup [(slr false 1 Ag) r.1,V.bool r.2]) (by rfl) h (fun r h=>Adp h) (fun r3 h=> ?_)
  cases h;exact (by rfl)
 refine BslQ.o Ag (Ao Int) (by exact fun _=>⟨rfl,rfl⟩) (by first | rfl | (simp only [Aa,V.fz,fzL,V.up,upL,Ab,Ac,Ad,slr,List.cons_append,List.nil_append];done) | simp [Aa,V.fz,fzL,V.up,upL,Ab,Ac,Ad,slr]) ?_
 cases h;exact (by rfl)
end Go.Proofs.Ytmkgjnphianalaa.Ax
