/-
 What the functions compute, as functions on plain data, and that the program does compute it; written by program.
-/
import Derived.Test.YtmkgjnphianalaaGreatCode
import Derived.Test.YtmkgjnphianalaaGreatG1
import Derived.Test.YtmkgjnphianalaaGreatG3
import Derived.Test.YtmkgjnphianalaaGreatG5
import Derived.Test.YtmkgjnphianalaaGreatG6
import Derived.Test.YtmkgjnphianalaaGreatG8
import Derived.Test.YtmkgjnphianalaaGreatG9
import Derived.Test.YtmkgjnphianalaaGreatG10
import Derived.Test.YtmkgjnphianalaaGreatG11
import Derived.Test.YtmkgjnphianalaaGreatG13
namespace Go.Proofs.YtmkgjnphianalaaGreat.Ax
open Go
set_option maxRecDepth 100000
set_option maxHeartbeats 4000000
noncomputable def Ha (a0:SAlgebra) (b0:SAlgebra) (embed0:Bool) (_good0:(Unit)):Option ((Option (List Int))×Bool):=
 (Dq (a0) (b0) (embed0) (Sum.inr ((),none))).bind fun t=>match t with
 | (r1,(.inr (_u2_0,none)))=>(some (none,r1))
 | (r1,(.inr (_u2_0,some u2_1)))=>(some (some u2_1,r1))
 | _=>(none)
theorem Aar {a0:SAlgebra} {b0:SAlgebra} {embed0:Bool} {good0:(Unit)} {v:((Option (List Int))×Bool)} (h:Ha a0 b0 embed0 good0=some v):Ret Tryz.prog Mc [(Ae false) a0,(Ae false) b0,V.bool embed0,Eh good0] ((fun r=>V.tup [(rOl 1 Ag) r.1,V.bool r.2]) v):=by
 refine Ih Alu (Nat.le_of_ble_eq_true rfl) ?_
 unfold Ha at h
 conv=>whnf
 refine FrzQ.d ((rP false Eh) ()) ((Ak _).trans (Eq.trans (b:=V.fz ((rP true Eh) ())) rfl (Ad (rP true Eh) _))) ?_
 conv=>whnf
 refine Cells.lit rfl rfl ?_
 conv=>whnf
 refine Cells.lit rfl rfl ?_
 conv=>whnf
 refine LendQ.ioc (j:=1) 3 V.bool Cb (fun tv=>(by rfl)) rfl rfl (fun _=>rfl) rfl h (fun r h tv=>Wb h) (fun r1 u2 h=> ?_)
 rcases u2 with u2 | u2
 ·cases h
 rcases u2 with ⟨u2_0,(_ | u2_1)⟩
 ·try dsimp only at h
  refine ⟨_,_,fun _=>rfl,rfl,⟨by first | rfl | simp [C7,rP,slr,V.noFz,Ch,Bs,NoFz.eq],rfl⟩,?_⟩
  conv=>whnf
  refine Cells.lit rfl rfl ?_
  conv=>whnf
  cases h;exact (by rfl)
 try dsimp only at h
 refine ⟨_,_,fun _=>rfl,rfl,⟨by first | rfl | simp [C7,rP,slr,V.noFz,Ch,Bs,NoFz.eq],rfl⟩,?_⟩
 conv=>whnf
 refine Cells.lit rfl rfl ?_
 conv=>whnf
 cases h;exact (by first | rfl | simp only [Ah,V.fz,fzL,V.up,Ab] | simp [Ah,Aa,V.fz,fzL,V.up,upL,Ab,Ac,Ad,slr])
noncomputable def He (a0:SAlgebra) (b0:SAlgebra) (embed0:Bool):Option ((List (List Int))×Bool):=
 (Dq (a0) (b0) (embed0) (Sum.inl (Al (List Int)))).bind fun t=>match t with
 | (r1,(.inl u2))=>(if (r1)=true then
 if (↑u2.length:Int)>(300:Int) then
 some (Al (List Int),false)
 else
 some (u2,true)
 else
 some (Al (List Int),false))
 | _=>(none)
theorem Aat {a0:SAlgebra} {b0:SAlgebra} {embed0:Bool} {v:((List (List Int))×Bool)} (h:He a0 b0 embed0=some v):Ret Tryz.prog Mi [(Ae false) a0,(Ae false) b0,V.bool embed0] ((fun r=>V.tup [(slr true 1 (slr true 1 Ag)) r.1,V.bool r.2]) v):=by
 refine A6 Amc (Nat.le_of_ble_eq_true rfl) ?_
 unfold He at h
 refine BslQ.o (slr true 1 Ag) (Al (List Int)) (by exact fun _=>⟨rfl,rfl⟩) (by first | rfl | (simp only [Aa,V.fz,fzL,V.up,upL,Ab,Ac,Ad,slr,List.cons_append,List.nil_append];done) | simp [Aa,V.fz,fzL,V.up,upL,Ab,Ac,Ad,slr])<|SetKids.lit rfl<|Cells.lit rfl rfl<|Cells.lit rfl rfl<|LendQ.ioc (j:=0) 3 V.bool Cb (fun tv=>(by rfl)) rfl rfl (fun _=>rfl) rfl h (fun r h tv=>Wb h) (fun r1 u2 h=> ?_)
 rcases u2 with u2 | u2
 ·try dsimp only at h
  refine ⟨_,_,fun _=>rfl,rfl,⟨by first | rfl | simp [C7,rP,slr,V.noFz,Ch,Bs,NoFz.eq],rfl⟩,?_⟩
  refine Br.flip<|Br.ob h (fun p3 h=> ?_) (fun p3 h=> ?_)
  ·refine Cells.lit rfl rfl<|Br.no<|Kid.lit rfl rfl<|Len.map<|Br.no<|Br.no<|Br.od h (fun p4 h=> ?_) (fun p4 h=> ?_)
   ·refine BslQ.o (slr true 1 Ag) (Al (List Int)) (by exact fun _=>⟨rfl,rfl⟩) (by first | rfl | (simp only [Aa,V.fz,fzL,V.up,upL,Ab,Ac,Ad,slr,List.cons_append,List.nil_append];done) | simp [Aa,V.fz,fzL,V.up,upL,Ab,Ac,Ad,slr]) ?_
    cases h;exact (by rfl)
   refine Cells.lit rfl rfl ?_
   cases h;exact (by rfl)
  refine Br.yes<|Br.yes<|Br.yes<|Br.yes<|BslQ.o (slr true 1 Ag) (Al (List Int)) (by exact fun _=>⟨rfl,rfl⟩) (by first | rfl | (simp only [Aa,V.fz,fzL,V.up,upL,Ab,Ac,Ad,slr,List.cons_append,List.nil_append];done) | simp [Aa,V.fz,fzL,V.up,upL,Ab,Ac,Ad,slr]) ?_
  cases h;exact (by rfl)
 cases h
noncomputable def Ea (r1:SAlgebra):(Int×Sl1Cur)→Option ((Int×Sl1Cur) ⊕ ((SAlgebra×Sl1Cur) ⊕ Sl1Cur)):=fun (x8,x119)=>
 if x8<(12:Int) then
 (Cm (x119)).bind fun (r35,u36)=>
 (Ef (r35)).bind fun r37=>
 if (r37)=true then
 (Jw (r1) (r35)).bind fun r39=>
 if (r39)=true then
 some (.inr (.inl (r35,u36)))
 else
 ask (InI (x8+(1:Int))) <|
 some (.inl (x8+(1:Int),u36))
 else
 ask (InI (x8+(1:Int))) <|
 some (.inl (x8+(1:Int),u36))
 else
 some (.inr (.inr x119))
def K0 (r1:SAlgebra):(Int×Sl1Cur)→St:=fun s=>[(8,A.val (Ag s.1)),(4,A.val ((rP false (Ae false)) (r1))),(3,A.val ((rP true (Ae true)) ({ Size:=(0:Int),Ops:=Al SOp }))),(2,A.val ((rP true (Ae true)) ({ Size:=(0:Int),Ops:=Al SOp }))),(0,A.ref 119 []),(119,A.val ((rP true (Am false)) s.2))]
def Q1 (r1:SAlgebra):((SAlgebra×Sl1Cur) ⊕ Sl1Cur)→Tgt
 | (.inl s)=>(Ex.ret,[3,2,119],[(3,A.val ((rP false (Ae false)) s.1)),(2,A.val ((rP false (Ae false)) (r1))),(119,A.val ((rP true (Am false)) s.2))])
 | (.inr s)=>((Ex.exit 1),[4,3,2,0,119],[(4,A.val ((rP false (Ae false)) (r1))),(3,A.val ((rP true (Ae true)) ({ Size:=(0:Int),Ops:=Al SOp }))),(2,A.val ((rP true (Ae true)) ({ Size:=(0:Int),Ops:=Al SOp }))),(0,A.ref 119 []),(119,A.val ((rP true (Am false)) s))])
theorem Acm {r1:SAlgebra} (s:(Int×Sl1Cur)) (o:(Int×Sl1Cur) ⊕ ((SAlgebra×Sl1Cur) ⊕ Sl1Cur)) (h:Ea r1 s=some o):vc Tryz.prog Ri (Cr [8,4,3,2,0,119] (K0 r1) (Q1 r1) o) (K0 r1 s):=by
 obtain ⟨x8,x119⟩:=s
 unfold Ea at h
 try dsimp only at h
 refine Br.od h (fun p34 h=> ?_) (fun p34 h=> ?_)
 ·refine CallQ.io (Ae true) (rP true (Am false)) (by rfl) rfl (fun _=>rfl) (fun _=>⟨rfl,rfl⟩) rfl h (fun r h=>Fp h) (fun r35 u36 h=> ?_)
  refine SetKids.lit rfl<|FrzQ.d ((rP false (Ae false)) r35) ((Ak _).trans (Eq.trans (b:=V.fz ((rP true (Ae true)) r35)) rfl (Ad (rP true (Ae true)) _)))<|CallQ.o V.bool (by rfl) h (fun r h=>Jv h) (fun r37 h=> ?_)
  refine Br.ob h (fun p38 h=> ?_) (fun p38 h=> ?_)
  ·refine Br.yes<|Br.yes<|CallQ.o V.bool (by rfl) h (fun r h=>Ad9 h) (fun r39 h=> ?_)
   refine Br.yes<|Br.ob h (fun p40 h=> ?_) (fun p40 h=> ?_)
   ·refine SameQ.mk ⟨rfl,?_⟩
    refine SameQ.mk ⟨rfl,?_⟩
    refine SetKids.lit rfl<|SameQ.mk ⟨rfl,?_⟩
    refine SetKids.lit rfl<|FrzQ.d ((rP false (Ae false)) r1) ((Ak _).trans (Eq.trans (b:=V.fz ((rP true (Ae false)) r1)) rfl (Ad (rP true (Ae false)) _)))<|FrzQ.d ((rP false (Ae false)) r35) ((Ak _).trans (Eq.trans (b:=V.fz ((rP true (Ae false)) r35)) rfl (Ad (rP true (Ae false)) _))) ?_
    cases h;exact ⟨rfl,rfl⟩
   refine Ask.o h fun p41 h=> ?_
   cases h;exact ⟨rfl,rfl⟩
  refine Br.no<|Br.no<|Br.no<|Br.no<|Ask.o h fun p42 h=> ?_
  cases h;exact ⟨rfl,rfl⟩
 cases h;exact ⟨rfl,rfl⟩
noncomputable def Fo (_r1:SAlgebra):(Int×SAlgebra×Sl1Cur)→Option ((Int×SAlgebra×Sl1Cur) ⊕ (SAlgebra×Sl1Cur)):=fun (x11,x10,x119)=>
 if x11<(↑x10.Ops.length:Int) then
 ask ((0:Int)≤x11∧x11<(↑x10.Ops.length:Int)) <|
 (A9 (x119) ((↑(nth x10.Ops x11.toNat).Table.length:Int))).bind fun (r48,u49)=>
 (A9 (u49) (x10.Size)).bind fun (r50,u51)=>
 ask ((0:Int)≤r48∧r48<(↑(nth x10.Ops x11.toNat).Table.length:Int)) <|
 ask (InI (x11+(1:Int))) <|
 some (.inl (x11+(1:Int),{ Size:=x10.Size,Ops:=x10.Ops.set x11.toNat { Arity:=(nth x10.Ops x11.toNat).Arity,Table:=(nth x10.Ops x11.toNat).Table.set r48.toNat r50 } },u51))
 else
 some (.inr (x10,x119))
def Kh (r1:SAlgebra):(Int×SAlgebra×Sl1Cur)→St:=fun s=>[(11,A.val (Ag s.1)),(10,A.val ((rP true (Ae true)) s.2.1)),(4,A.val ((rP false (Ae false)) (r1))),(3,A.val ((rP true (Ae true)) ({ Size:=(0:Int),Ops:=Al SOp }))),(2,A.val ((rP true (Ae true)) ({ Size:=(0:Int),Ops:=Al SOp }))),(0,A.ref 119 []),(119,A.val ((rP true (Am false)) s.2.2))]
def Q7 (r1:SAlgebra):(SAlgebra×Sl1Cur)→Tgt
 | s=>((Ex.exit 3),[10,4,3,2,119],[(10,A.val ((rP true (Ae true)) s.1)),(4,A.val ((rP false (Ae false)) (r1))),(3,A.val ((rP true (Ae true)) ({ Size:=(0:Int),Ops:=Al SOp }))),(2,A.val ((rP true (Ae true)) ({ Size:=(0:Int),Ops:=Al SOp }))),(119,A.val ((rP true (Am false)) s.2))])
theorem Acg {r1:SAlgebra} (s:(Int×SAlgebra×Sl1Cur)) (o:(Int×SAlgebra×Sl1Cur) ⊕ (SAlgebra×Sl1Cur)) (h:Fo r1 s=some o):vc Tryz.prog Rn (Cr [11,10,4,3,2,0,119] (Kh r1) (Q7 r1) o) (Kh r1 s):=by
 obtain ⟨x11,x10,x119⟩:=s
 unfold Fo at h
 try dsimp only at h
 refine Cells.lit rfl rfl ?_
 refine Kid.lit rfl rfl ?_
 refine Len.map ?_
 refine Br.od h (fun p46 h=> ?_) (fun p46 h=> ?_)
 ·refine Cells.lit rfl rfl ?_
  refine Kid.lit rfl rfl ?_
  refine Len.map ?_
  refine Ask.o h fun p47 h=> ?_
  refine Kid.lit rfl rfl ?_
  refine Cells.wide (by exact fun _=>⟨rfl,rfl⟩) (by first | omega | (simp [Aq] at * <;> omega)) (by decide) ?_
  refine Cells.lit rfl rfl ?_
  refine Kid.lit rfl rfl ?_
  refine Len.map ?_
  refine Ask.mk p47 ?_
  refine Kid.lit rfl rfl ?_
  refine Cells.wide (by exact fun _=>⟨rfl,rfl⟩) (by first | omega | (simp [Aq] at * <;> omega)) (by decide) ?_
  refine Cells.lit rfl rfl ?_
  refine SameQ.mk ⟨rfl,?_⟩
  refine Cells.lit rfl rfl ?_
  refine SameQ.mk ⟨rfl,?_⟩
  refine SameQ.mk ⟨rfl,?_⟩
  refine Kid.lit rfl rfl ?_
  refine Len.map ?_
  refine Ask.mk p47 ?_
  refine SameQ.mk ⟨rfl,?_⟩
  refine SameQ.mk ⟨rfl,?_⟩
  refine Kid.lit rfl rfl ?_
  refine Cells.wide (by exact fun _=>⟨rfl,rfl⟩) (by first | omega | (simp [Aq] at * <;> omega)) (by decide) ?_
  refine SameQ.mk ⟨rfl,?_⟩
  refine SameQ.mk ⟨rfl,?_⟩
  refine SameQ.mk ⟨rfl,?_⟩
  refine Cells.lit rfl rfl ?_
  refine SameQ.mk ⟨rfl,?_⟩
  refine SameQ.mk ⟨rfl,?_⟩
  refine Kid.lit rfl rfl ?_
  refine Len.map ?_
  refine Ask.mk p47 ?_
  refine SameQ.mk ⟨rfl,?_⟩
  refine SameQ.mk ⟨rfl,?_⟩
  refine Kid.lit rfl rfl ?_
  refine Cells.wide (by exact fun _=>⟨rfl,rfl⟩) (by first | omega | (simp [Aq] at * <;> omega)) (by decide) ?_
  refine SameQ.mk ⟨rfl,?_⟩
  refine SameQ.mk ⟨rfl,?_⟩
  refine SameQ.mk ⟨rfl,?_⟩
  refine Cells.lit rfl rfl ?_
  refine SameQ.mk ⟨rfl,?_⟩
  refine Kid.lit rfl rfl ?_
  refine Kid.wide (by exact fun _=>⟨rfl,rfl⟩) (by first | omega | (simp [Aq] at * <;> omega)) (by rfl) ?_
  refine Len.map ?_
  refine SameQ.mk ⟨rfl,?_⟩
  refine Cells.lit rfl rfl ?_
  refine SameQ.mk ⟨rfl,?_⟩
  refine SameQ.mk ⟨rfl,?_⟩
  refine Kid.lit rfl rfl ?_
  refine Len.map ?_
  refine Ask.mk p47 ?_
  refine SameQ.mk ⟨rfl,?_⟩
  refine SameQ.mk ⟨rfl,?_⟩
  refine Kid.lit rfl rfl ?_
  refine Cells.wide (by exact fun _=>⟨rfl,rfl⟩) (by first | omega | (simp [Aq] at * <;> omega)) (by decide) ?_
  refine SameQ.mk ⟨rfl,?_⟩
  refine SameQ.mk ⟨rfl,?_⟩
  refine SameQ.mk ⟨rfl,?_⟩
  refine SameQ.mk ⟨rfl,?_⟩
  refine Cells.lit rfl rfl ?_
  refine SameQ.mk ⟨rfl,?_⟩
  refine CallQ.io Ag (rP true (Am false)) (by rfl) rfl (fun _=>rfl) (fun _=>⟨rfl,rfl⟩) rfl h (fun r h=>Bh h) (fun r48 u49 h=> ?_)
  refine SameQ.mk ⟨rfl,?_⟩
  refine Cells.lit rfl rfl ?_
  refine SameQ.mk ⟨rfl,?_⟩
  refine SameQ.mk ⟨rfl,?_⟩
  refine Kid.lit rfl rfl ?_
  refine Len.map ?_
  refine Ask.mk p47 ?_
  refine SameQ.mk ⟨rfl,?_⟩
  refine SameQ.mk ⟨rfl,?_⟩
  refine Kid.lit rfl rfl ?_
  refine Cells.wide (by exact fun _=>⟨rfl,rfl⟩) (by first | omega | (simp [Aq] at * <;> omega)) (by decide) ?_
  refine SameQ.mk ⟨rfl,?_⟩
  refine SameQ.mk ⟨rfl,?_⟩
  refine SameQ.mk ⟨rfl,?_⟩
  refine Cells.lit rfl rfl ?_
  refine SameQ.mk ⟨rfl,?_⟩
  refine CallQ.io Ag (rP true (Am false)) (by rfl) rfl (fun _=>rfl) (fun _=>⟨rfl,rfl⟩) rfl h (fun r h=>Bh h) (fun r50 u51 h=> ?_)
  refine SameQ.mk ⟨rfl,?_⟩
  refine Cells.lit rfl rfl ?_
  refine SameQ.mk ⟨rfl,?_⟩
  refine SameQ.mk ⟨rfl,?_⟩
  refine Kid.lit rfl rfl ?_
  refine Len.map ?_
  refine Ask.mk p47 ?_
  refine SameQ.mk ⟨rfl,?_⟩
  refine SameQ.mk ⟨rfl,?_⟩
  refine Kid.lit rfl rfl ?_
  refine Cells.wide (by exact fun _=>⟨rfl,rfl⟩) (by first | omega | (simp [Aq] at * <;> omega)) (by decide) ?_
  refine SameQ.mk ⟨rfl,?_⟩
  refine Kid.lit rfl rfl ?_
  refine Kid.wide (by exact fun _=>⟨rfl,rfl⟩) (by first | omega | (simp [Aq] at * <;> omega)) (by rfl) ?_
  refine Len.map ?_
  refine Ask.o h fun p52 h=> ?_
  refine Kid.lit rfl rfl ?_
  refine Kid.wide (by exact fun _=>⟨rfl,rfl⟩) (by first | omega | (simp [Aq] at * <;> omega)) (by rfl) ?_
  refine SetKids.one (fun _=>⟨rfl,rfl⟩) (r50) (by rfl) (by first | omega | (simp [Aq] at * <;> omega)) ?_
  refine Kid.lit rfl rfl ?_
  refine Kid.wide (by exact fun _=>⟨rfl,rfl⟩) (by first | omega | (simp [Aq] at * <;> omega)) (by rfl) ?_
  refine SetKids.wide (by exact fun _=>⟨rfl,rfl⟩) ({ Arity:=(nth x10.Ops x11.toNat).Arity,Table:=(nth x10.Ops x11.toNat).Table.set r48.toNat r50 }) (by first | omega | (simp [Aq] at * <;> omega)) (by rfl) (by decide) ?_
  refine SetKids.lit rfl ?_
  refine Ask.o h fun p53 h=> ?_
  cases h;exact ⟨rfl,rfl⟩
 cases h;exact ⟨rfl,rfl⟩
noncomputable def Hn (c0:Sl1Cur):Option ((SAlgebra×SAlgebra)×Sl1Cur):=
 (Cm (c0)).bind fun (r1,u2)=>
 (((Ef (r1)).bind fun r3=>
 if (r3)=true then
 (Gp (u2) ((8:Int))).bind fun (r5,u6)=>
 if (r5)=true then
 (Cm (u6)).bind fun (r8,u9)=>
 some (.inl (r8,u9))
 else
 some (.inr u6)
 else
 (Cm (u2)).bind fun (r10,u11)=>
 some (.inl (r10,u11)):Option ((SAlgebra×Sl1Cur) ⊕ Sl1Cur))).bind fun t=>match t with
 | (.inl (q12_3,q12_119))=>(some ((r1,q12_3),q12_119))
 | (.inr q12_119)=>((((A9 (q12_119) ((5:Int))).bind fun (r13,u14)=>
 if r13=(0:Int) then
 (I4 (r1)).bind fun r16=>
 some (.inl (r16,r1,u14))
 else
 if r13=(1:Int) then
 (Co (u14) (r1.Size)).bind fun (r18,u19)=>
 (Ju (r18) (r1.Size)).bind fun r20=>
 if (r20)=true then
 (Hb (r1) (r18)).bind fun r22=>
 some (.inl (r22,r1,u19))
 else
 some (.inr u19)
 else
 if r13=(2:Int) then
 (Lb (r1)).bind fun r24=>
 ask (InI ((↑r24.length:Int)-(1:Int))) <|
 ask ((0:Int)≤(↑r24.length:Int)-(1:Int)∧(↑r24.length:Int)-(1:Int)<(↑r24.length:Int)) <|
 if (↑(nth r24 ((↑r24.length:Int)-(1:Int)).toNat).length:Int)>(0:Int) then
 (A9 (u14) ((↑r24.length:Int))).bind fun (r28,u29)=>
 ask ((0:Int)≤r28∧r28<(↑r24.length:Int)) <|
 if (↑(nth r24 r28.toNat).length:Int)>(0:Int) then
 (Li (r1) (nth r24 r28.toNat)).bind fun r32=>
 some (.inl (r1,r32,u29))
 else
 some (.inr u29)
 else
 some (.inr u14)
 else
 if r13=(3:Int) then
 (Aj (Ea r1) ((0:Int),u14)).bind fun t=>match t with
 | (.inl (q43_3,q43_119))=>(some (.inl (q43_3,r1,q43_119)))
 | (.inr q43_119)=>(some (.inr q43_119))
 else
 some (.inr u14):Option ((SAlgebra×SAlgebra×Sl1Cur) ⊕ Sl1Cur))).bind fun t=>match t with
 | (.inl (q44_3,q44_2,q44_119))=>(some ((q44_2,q44_3),q44_119))
 | (.inr q44_119)=>((I4 (r1)).bind fun r45=>
 (Aj (Fo r1) ((0:Int),r45,q44_119)).bind fun (q54_10,q54_119)=>
 some ((r1,q54_10),q54_119)))
theorem Af6 {c0:Sl1Cur} {v:((SAlgebra×SAlgebra)×Sl1Cur)} (h:Hn c0=some v):I9 Tryz.prog On [(rP true (Am false)) c0] ((fun r=>V.tup [(Ae false) r.1,(Ae false) r.2]) v.1) 0 ((rP true (Am false)) v.2):=by
 refine A3l Ahn (Nat.le_of_ble_eq_true rfl) ?_
 unfold Hn at h
 refine CallQ.io (Ae true) (rP true (Am false)) (by rfl) rfl (fun _=>rfl) (fun _=>⟨rfl,rfl⟩) rfl h (fun r h=>Fp h) (fun r1 u2 h=> ?_)
 refine SetKids.lit rfl<|CutQ.o (fun t:((SAlgebra×Sl1Cur) ⊕ Sl1Cur)=>match t with | (.inl s)=>(Ex.ret,[3,2,119],[(3,A.val ((rP false (Ae false)) s.1)),(2,A.val ((rP false (Ae false)) (r1))),(119,A.val ((rP true (Am false)) s.2))]) | (.inr s)=>(Ex.normal,[4,3,2,0,119],[(4,A.val ((rP false (Ae false)) (r1))),(3,A.val ((rP true (Ae true)) ({ Size:=(0:Int),Ops:=Al SOp }))),(2,A.val ((rP true (Ae true)) ({ Size:=(0:Int),Ops:=Al SOp }))),(0,A.ref 119 []),(119,A.val ((rP true (Am false)) s))])) h ?_ ?_
 ·intro t h
  refine FrzQ.d ((rP false (Ae false)) r1) ((Ak _).trans (Eq.trans (b:=V.fz ((rP true (Ae true)) r1)) rfl (Ad (rP true (Ae true)) _)))<|CallQ.o V.bool (by rfl) h (fun r h=>Jv h) (fun r3 h=> ?_)
  refine Br.flip<|Br.ob h (fun p4 h=> ?_) (fun p4 h=> ?_)
  ·refine Br.no<|CallQ.io V.bool (rP true (Am false)) (by rfl) rfl (fun _=>rfl) (fun _=>⟨rfl,rfl⟩) rfl h (fun r h=>Zc h) (fun r5 u6 h=> ?_)
   refine Br.no<|Br.ob h (fun p7 h=> ?_) (fun p7 h=> ?_)
   ·refine LendP.io (Ae true) (rP true (Am false)) (by rfl) (fun _=>rfl) (fun _=>⟨rfl,rfl⟩) (fun _=>rfl) h (fun r h=>Fp h) (fun r8 u9 h=> ?_)
    refine SetKids.lit rfl<|SetKids.lit rfl<|FrzQ.d ((rP false (Ae false)) r1) ((Ak _).trans (Eq.trans (b:=V.fz ((rP true (Ae false)) r1)) rfl (Ad (rP true (Ae false)) _)))<|FrzQ.d ((rP false (Ae false)) r8) ((Ak _).trans (Eq.trans (b:=V.fz ((rP true (Ae true)) r8)) rfl (Ad (rP true (Ae true)) _))) ?_
    cases h;exact ⟨rfl,rfl⟩
   cases h;exact ⟨rfl,rfl⟩
  refine Br.yes<|Br.yes<|Br.yes<|LendP.io (Ae true) (rP true (Am false)) (by rfl) (fun _=>rfl) (fun _=>⟨rfl,rfl⟩) (fun _=>rfl) h (fun r h=>Fp h) (fun r10 u11 h=> ?_)
  refine SetKids.lit rfl<|SetKids.lit rfl<|FrzQ.d ((rP false (Ae false)) r1) ((Ak _).trans (Eq.trans (b:=V.fz ((rP true (Ae false)) r1)) rfl (Ad (rP true (Ae false)) _)))<|FrzQ.d ((rP false (Ae false)) r10) ((Ak _).trans (Eq.trans (b:=V.fz ((rP true (Ae true)) r10)) rfl (Ad (rP true (Ae true)) _))) ?_
  cases h;exact ⟨rfl,rfl⟩
 rintro (⟨q12_3,q12_119⟩ | q12_119) h
 ·try dsimp only at h
  cases h;exact ⟨(by rfl),(by rfl)⟩
 try dsimp only at h
 refine CutQ.o (fun t:((SAlgebra×SAlgebra×Sl1Cur) ⊕ Sl1Cur)=>match t with | (.inl s)=>(Ex.ret,[3,2,119],[(3,A.val ((rP false (Ae false)) s.1)),(2,A.val ((rP false (Ae false)) s.2.1)),(119,A.val ((rP true (Am false)) s.2.2))]) | (.inr s)=>(Ex.normal,[4,3,2,0,119],[(4,A.val ((rP false (Ae false)) (r1))),(3,A.val ((rP true (Ae true)) ({ Size:=(0:Int),Ops:=Al SOp }))),(2,A.val ((rP true (Ae true)) ({ Size:=(0:Int),Ops:=Al SOp }))),(0,A.ref 119 []),(119,A.val ((rP true (Am false)) s))])) h ?_ ?_
 ·intro t h
  refine CallQ.io Ag (rP true (Am false)) (by rfl) rfl (fun _=>rfl) (fun _=>⟨rfl,rfl⟩) rfl h (fun r h=>Bh h) (fun r13 u14 h=> ?_)
  refine Br.oe h (fun p15 h=> ?_) (fun p15 h=> ?_)
  ·refine CallP.o (Ae true) (by rfl) h (fun r h=>Af0 h) (fun r16 h=> ?_)
   refine SetKids.lit rfl<|SetKids.lit rfl<|FrzQ.d ((rP false (Ae false)) r1) ((Ak _).trans (Eq.trans (b:=V.fz ((rP true (Ae false)) r1)) rfl (Ad (rP true (Ae false)) _)))<|FrzQ.d ((rP false (Ae false)) r16) ((Ak _).trans (Eq.trans (b:=V.fz ((rP true (Ae true)) r16)) rfl (Ad (rP true (Ae true)) _))) ?_
   cases h;exact ⟨rfl,rfl⟩
  refine Br.oe h (fun p17 h=> ?_) (fun p17 h=> ?_)
  ·refine CallQ.io (slr true 1 Ag) (rP true (Am false)) (by rfl) rfl (fun _=>rfl) (fun _=>⟨rfl,rfl⟩) rfl h (fun r h=>Sm h) (fun r18 u19 h=> ?_)
   refine FrzQ.d (V.sl false (1:Nat) (List.map Ag r18)) (by first | (simp only [slr];done) | (simp [Ak,V.fz,Ab,slr];done) | (simp [Ak,V.fz,fzL,Ab,slr];done))<|CallQ.o V.bool (by rfl) h (fun r h=>Asl h) (fun r20 h=> ?_)
   refine Br.ob h (fun p21 h=> ?_) (fun p21 h=> ?_)
   ·refine CallP.o (Ae true) (by rfl) h (fun r h=>Ak1 h) (fun r22 h=> ?_)
    refine SetKids.lit rfl<|SetKids.lit rfl<|FrzQ.d ((rP false (Ae false)) r1) ((Ak _).trans (Eq.trans (b:=V.fz ((rP true (Ae false)) r1)) rfl (Ad (rP true (Ae false)) _)))<|FrzQ.d ((rP false (Ae false)) r22) ((Ak _).trans (Eq.trans (b:=V.fz ((rP true (Ae true)) r22)) rfl (Ad (rP true (Ae true)) _))) ?_
    cases h;exact ⟨rfl,rfl⟩
   cases h;exact ⟨rfl,rfl⟩
  refine Br.oe h (fun p23 h=> ?_) (fun p23 h=> ?_)
  ·refine CallQ.o (slr true 1 (slr false 1 Ag)) (by rfl) h (fun r h=>Avl h) (fun r24 h=> ?_)
   refine FrzQ.d (V.sl false (1:Nat) (List.map (slr false (1:Nat) Ag) r24)) (by first | (simp only [slr];done) | (simp [Ak,V.fz,Ab,slr];done) | (simp [Ak,V.fz,fzL,Ab,slr];done))<|Len.map<|Ask.o h fun p25 h=>Len.map<|Ask.o h fun p26 h=>Elem.o (by first | omega | (simp [Aq] at * <;> omega))<|Len.map<|Br.od h (fun p27 h=> ?_) (fun p27 h=> ?_)
   ·refine Len.map<|CallQ.io Ag (rP true (Am false)) (by rfl) rfl (fun _=>rfl) (fun _=>⟨rfl,rfl⟩) rfl h (fun r h=>Bh h) (fun r28 u29 h=> ?_)
    refine Len.map<|Ask.o h fun p30 h=>Elem.o (by first | omega | (simp [Aq] at * <;> omega))<|Len.map<|Br.od h (fun p31 h=> ?_) (fun p31 h=> ?_)
    ·refine SameQ.mk ⟨rfl,?_⟩
     refine SameQ.mk ⟨rfl,?_⟩
     refine SameQ.mk ⟨rfl,?_⟩
     refine CallQ.o (Ae true) (by rfl) h (fun r h=>At4 h) (fun r32 h=> ?_)
     refine SameQ.mk ⟨rfl,?_⟩
     refine SetKids.lit rfl<|SameQ.mk ⟨rfl,?_⟩
     refine SetKids.lit rfl<|FrzQ.d ((rP false (Ae false)) r32) ((Ak _).trans (Eq.trans (b:=V.fz ((rP true (Ae true)) r32)) rfl (Ad (rP true (Ae true)) _)))<|FrzQ.d ((rP false (Ae false)) r1) ((Ak _).trans (Eq.trans (b:=V.fz ((rP true (Ae false)) r1)) rfl (Ad (rP true (Ae false)) _))) ?_
     cases h;exact ⟨rfl,rfl⟩
    cases h;exact ⟨rfl,rfl⟩
   cases h;exact ⟨rfl,rfl⟩
  refine Br.oe h (fun p33 h=> ?_) (fun p33 h=> ?_)
  ·refine LoopQ.o [8,4,3,2,0,119] (K0 r1) (Q1 r1) h (fun s o h=>Acm s o h) (by rfl) (by rintro (_ | _)<;>rfl) ?_
   rintro (⟨q43_3,q43_119⟩ | q43_119) h
   ·try dsimp only at h
    cases h;exact ⟨rfl,rfl⟩
   try dsimp only at h
   cases h;exact ⟨rfl,rfl⟩
  cases h;exact ⟨rfl,rfl⟩
 rintro (⟨q44_3,q44_2,q44_119⟩ | q44_119) h
 ·try dsimp only at h
  cases h;exact ⟨(by rfl),(by rfl)⟩
 try dsimp only at h
 refine CallQ.o (Ae true) (by rfl) h (fun r h=>Af0 h) (fun r45 h=> ?_)
 refine SetKids.lit rfl<|LoopQ.o [11,10,4,3,2,0,119] (Kh r1) (Q7 r1) h (fun s o h=>Acg s o h) (by rfl) (fun _=>rfl) ?_
 rintro ⟨q54_10,q54_119⟩ h
 try dsimp only at h
 refine FrzQ.d ((rP false (Ae false)) q54_10) ((Ak _).trans (Eq.trans (b:=V.fz ((rP true (Ae true)) q54_10)) rfl (Ad (rP true (Ae true)) _)))<|SameQ.mk ⟨rfl,?_⟩
 refine SameQ.mk ⟨rfl,?_⟩
 refine SetKids.lit rfl<|SameQ.mk ⟨rfl,?_⟩
 refine SetKids.lit rfl<|FrzQ.d ((rP false (Ae false)) r1) ((Ak _).trans (Eq.trans (b:=V.fz ((rP true (Ae false)) r1)) rfl (Ad (rP true (Ae false)) _)))<|FrzQ.d ((rP false (Ae false)) q54_10) ((Ak _).trans (Eq.trans (b:=V.fz ((rP true (Ae false)) q54_10)) rfl (Ad (rP true (Ae false)) _))) ?_
 cases h;exact ⟨(by rfl),(by rfl)⟩
noncomputable def De (a0:SAlgebra) (b0:SAlgebra):Option (Bool×Bool):=
 (Ep (a0) (b0)).bind fun r1=>
 if (r1)=true then
 if a0.Size≠b0.Size then
 some (false,true)
 else
 (Ha (a0) (b0) (true) (())).bind fun t=>match t with
 | (none,r4_2)=>(if (r4_2)=true then
 some (true != true,r4_2)
 else
 some (false,r4_2))
 | ((some r4_1),r4_2)=>(if (r4_2)=true then
 ask ((0:Int)<(↑r4_1.length:Int)) <|
 some (true,r4_2)
 else
 some (false,r4_2))
 else
 some (false,false)
theorem Ku {a0:SAlgebra} {b0:SAlgebra} {v:(Bool×Bool)} (h:De a0 b0=some v):Ret Tryz.prog Fu [(Ae false) a0,(Ae false) b0] ((fun r=>V.tup [V.bool r.1,V.bool r.2]) v):=by
 refine A6 Ab5 (Nat.le_of_ble_eq_true rfl) ?_
 unfold De at h
 refine Cells.lit rfl rfl<|Cells.lit rfl rfl<|CallQ.o V.bool (by rfl) h (fun r h=>Mj h) (fun r1 h=> ?_)
 refine Br.flip<|Br.ob h (fun p2 h=> ?_) (fun p2 h=> ?_)
 ·refine Cells.lit rfl rfl<|Cells.lit rfl rfl<|Br.on h (fun p3 h=> ?_) (fun p3 h=> ?_)
  ·cases h;exact (by rfl)
  refine Cells.lit rfl rfl<|Cells.lit rfl rfl<|CallQ.o (fun r=>V.tup [(rOl 1 Ag) r.1,V.bool r.2]) (by rfl) h (fun r h=>Aar h) (fun r4 h=> ?_)
  rcases r4 with ⟨(_ | r4_1),r4_2⟩
  ·try dsimp only at h
   refine Br.ob h (fun p5 h=> ?_) (fun p5 h=> ?_)
   ·refine Br.yes<|Br.yes ?_
    cases h;exact (by rfl)
   refine Br.no<|Br.no ?_
   cases h;exact (by rfl)
  try dsimp only at h
  refine Br.ob h (fun p6 h=> ?_) (fun p6 h=> ?_)
  ·refine Br.yes<|Len.map<|Ask.o h fun p7 h=>Br.yes ?_
   cases h;exact (by rfl)
  refine Br.no<|Br.no ?_
  cases h;exact (by rfl)
 cases h;exact (by rfl)
end Go.Proofs.YtmkgjnphianalaaGreat.Ax
