/-
 What the functions compute, as functions on plain data, and that the program does compute it; written by program.
-/
import Derived.Test.YtmkgjnphianalaaCode
import Derived.Test.YtmkgjnphianalaaG4
import Derived.Test.YtmkgjnphianalaaG6
import Derived.Test.YtmkgjnphianalaaG7
import Derived.Test.YtmkgjnphianalaaG9
import Derived.Test.YtmkgjnphianalaaG10
import Derived.Test.YtmkgjnphianalaaG11
namespace Go.Proofs.Ytmkgjnphianalaa.Ax
open Go
set_option maxRecDepth 100000
set_option maxHeartbeats 4000000
noncomputable def D0 (r1:SAlgebra):(Int×Sl1Cur)→Option ((Int×Sl1Cur) ⊕ ((SAlgebra×Sl1Cur) ⊕ Sl1Cur)):=fun (x8,x119)=>
 if x8<(12:Int) then
 (Cs (x119)).bind fun (r35,u36)=>
 (D6 (r35)).bind fun r37=>
 if (r37)=true then
 (E6 (r1) (r35)).bind fun r39=>
 if (r39)=true then
 some (.inr (.inl (r35,u36)))
 else
 ask (InI (x8+(1:Int))) <|
 some (.inl (x8+(1:Int),u36))
 else
 ask (InI (x8+(1:Int))) <|
 some (.inl (x8+(1:Int),u36))
 else
 some (.inr (.inr x119))
def Jp (r1:SAlgebra):(Int×Sl1Cur)→St:=fun s=>[(8,A.val (Ag s.1)),(4,A.val ((rP false (Ae false)) (r1))),(3,A.val ((rP true (Ae true)) ({ Size:=(0:Int),Ops:=Ao SOp }))),(2,A.val ((rP true (Ae true)) ({ Size:=(0:Int),Ops:=Ao SOp }))),(0,A.ref 119 []),(119,A.val ((rP true (Aj false)) s.2))]
def Pw (r1:SAlgebra):((SAlgebra×Sl1Cur) ⊕ Sl1Cur)→Tgt
 | (.inl s)=>(Ex.ret,[3,2,119],[(3,A.val ((rP false (Ae false)) s.1)),(2,A.val ((rP false (Ae false)) (r1))),(119,A.val ((rP true (Aj false)) s.2))])
 | (.inr s)=>((Ex.exit 1),[4,3,2,0,119],[(4,A.val ((rP false (Ae false)) (r1))),(3,A.val ((rP true (Ae true)) ({ Size:=(0:Int),Ops:=Ao SOp }))),(2,A.val ((rP true (Ae true)) ({ Size:=(0:Int),Ops:=Ao SOp }))),(0,A.ref 119 []),(119,A.val ((rP true (Aj false)) s))])
theorem Zm {r1:SAlgebra} (s:(Int×Sl1Cur)) (o:(Int×Sl1Cur) ⊕ ((SAlgebra×Sl1Cur) ⊕ Sl1Cur)) (h:D0 r1 s=some o):vc Try.prog Pz (C1 [8,4,3,2,0,119] (Jp r1) (Pw r1) o) (Jp r1 s):=by
 obtain ⟨x8,x119⟩:=s
 unfold D0 at h
 try dsimp only at h
 refine Br.od h (fun p34 h=> ?_) (fun p34 h=> ?_)
 ·refine CallQ.io (Ae true) (rP true (Aj false)) (by rfl) rfl (fun _=>rfl) (fun _=>⟨rfl,rfl⟩) rfl h (fun r h=>Gz h) (fun r35 u36 h=> ?_)
  refine SetKids.lit rfl ?_
  refine FrzQ.d ((rP false (Ae false)) r35) ((Ak _).trans (Eq.trans (b:=V.fz ((rP true (Ae true)) r35)) rfl (Ad (rP true (Ae true)) _))) ?_
  refine CallQ.o V.bool (by rfl) h (fun r h=>Iw h) (fun r37 h=> ?_)
  refine Br.ob h (fun p38 h=> ?_) (fun p38 h=> ?_)
  ·refine Br.yes ?_
   refine Br.yes ?_
   refine CallQ.o V.bool (by rfl) h (fun r h=>Uj h) (fun r39 h=> ?_)
   refine Br.yes ?_
   refine Br.ob h (fun p40 h=> ?_) (fun p40 h=> ?_)
   ·refine SameQ.mk ⟨rfl,?_⟩
    refine SameQ.mk ⟨rfl,?_⟩
    refine SetKids.lit rfl ?_
    refine SameQ.mk ⟨rfl,?_⟩
    refine SetKids.lit rfl ?_
    refine FrzQ.d ((rP false (Ae false)) r1) ((Ak _).trans (Eq.trans (b:=V.fz ((rP true (Ae false)) r1)) rfl (Ad (rP true (Ae false)) _))) ?_
    refine FrzQ.d ((rP false (Ae false)) r35) ((Ak _).trans (Eq.trans (b:=V.fz ((rP true (Ae false)) r35)) rfl (Ad (rP true (Ae false)) _))) ?_
    cases h;exact ⟨rfl,rfl⟩
   refine Ask.o h fun p41 h=> ?_
   cases h;exact ⟨rfl,rfl⟩
  refine Br.no ?_
  refine Br.no ?_
  refine Br.no ?_
  refine Br.no ?_
  refine Ask.o h fun p42 h=> ?_
  cases h;exact ⟨rfl,rfl⟩
 cases h;exact ⟨rfl,rfl⟩
noncomputable def Fa (_r1:SAlgebra):(Int×SAlgebra×Sl1Cur)→Option ((Int×SAlgebra×Sl1Cur) ⊕ (SAlgebra×Sl1Cur)):=fun (x11,x10,x119)=>
 if x11<(↑x10.Ops.length:Int) then
 ask ((0:Int)≤x11∧x11<(↑x10.Ops.length:Int)) <|
 (Aq (x119) ((↑(nth x10.Ops x11.toNat).Table.length:Int))).bind fun (r48,u49)=>
 (Aq (u49) (x10.Size)).bind fun (r50,u51)=>
 ask ((0:Int)≤r48∧r48<(↑(nth x10.Ops x11.toNat).Table.length:Int)) <|
 ask (InI (x11+(1:Int))) <|
 some (.inl (x11+(1:Int),{ Size:=x10.Size,Ops:=x10.Ops.set x11.toNat { Arity:=(nth x10.Ops x11.toNat).Arity,Table:=(nth x10.Ops x11.toNat).Table.set r48.toNat r50 } },u51))
 else
 some (.inr (x10,x119))
def Jg (r1:SAlgebra):(Int×SAlgebra×Sl1Cur)→St:=fun s=>[(11,A.val (Ag s.1)),(10,A.val ((rP true (Ae true)) s.2.1)),(4,A.val ((rP false (Ae false)) (r1))),(3,A.val ((rP true (Ae true)) ({ Size:=(0:Int),Ops:=Ao SOp }))),(2,A.val ((rP true (Ae true)) ({ Size:=(0:Int),Ops:=Ao SOp }))),(0,A.ref 119 []),(119,A.val ((rP true (Aj false)) s.2.2))]
def Pm (r1:SAlgebra):(SAlgebra×Sl1Cur)→Tgt
 | s=>((Ex.exit 3),[10,4,3,2,119],[(10,A.val ((rP true (Ae true)) s.1)),(4,A.val ((rP false (Ae false)) (r1))),(3,A.val ((rP true (Ae true)) ({ Size:=(0:Int),Ops:=Ao SOp }))),(2,A.val ((rP true (Ae true)) ({ Size:=(0:Int),Ops:=Ao SOp }))),(119,A.val ((rP true (Aj false)) s.2))])
theorem Aaa {r1:SAlgebra} (s:(Int×SAlgebra×Sl1Cur)) (o:(Int×SAlgebra×Sl1Cur) ⊕ (SAlgebra×Sl1Cur)) (h:Fa r1 s=some o):vc Try.prog Ps (C1 [11,10,4,3,2,0,119] (Jg r1) (Pm r1) o) (Jg r1 s):=by
 obtain ⟨x11,x10,x119⟩:=s
 unfold Fa at h
 try dsimp only at h
 refine Cells.lit rfl rfl ?_
 refine Kid.lit rfl rfl ?_
 refine Len.map ?_
 refine Br.od h (fun p46 h=> ?_) (fun p46 h=> ?_)
 ·refine Cells.lit rfl rfl ?_
  refine Kid.lit rfl rfl ?_
  refine Len.map ?_
  refine Ask.o h fun p47 h=> ?_
  refine Kid.lit rfl rfl ?_
  refine Cells.wide (by exact fun _=>⟨rfl,rfl⟩) (by first | omega | (simp [Aw] at * <;> omega)) (by decide) ?_
  refine Cells.lit rfl rfl ?_
  refine Kid.lit rfl rfl ?_
  refine Len.map ?_
  refine Ask.mk p47 ?_
  refine Kid.lit rfl rfl ?_
  refine Cells.wide (by exact fun _=>⟨rfl,rfl⟩) (by first | omega | (simp [Aw] at * <;> omega)) (by decide) ?_
  refine Cells.lit rfl rfl ?_
  refine SameQ.mk ⟨rfl,?_⟩
  refine Cells.lit rfl rfl ?_
  refine SameQ.mk ⟨rfl,?_⟩
  refine SameQ.mk ⟨rfl,?_⟩
  refine Kid.lit rfl rfl ?_
  refine Len.map ?_
  refine Ask.mk p47 ?_
  refine SameQ.mk ⟨rfl,?_⟩
  refine SameQ.mk ⟨rfl,?_⟩
  refine Kid.lit rfl rfl ?_
  refine Cells.wide (by exact fun _=>⟨rfl,rfl⟩) (by first | omega | (simp [Aw] at * <;> omega)) (by decide) ?_
  refine SameQ.mk ⟨rfl,?_⟩
  refine SameQ.mk ⟨rfl,?_⟩
  refine SameQ.mk ⟨rfl,?_⟩
  refine Cells.lit rfl rfl ?_
  refine SameQ.mk ⟨rfl,?_⟩
  refine SameQ.mk ⟨rfl,?_⟩
  refine Kid.lit rfl rfl ?_
  refine Len.map ?_
  refine Ask.mk p47 ?_
  refine SameQ.mk ⟨rfl,?_⟩
  refine SameQ.mk ⟨rfl,?_⟩
  refine Kid.lit rfl rfl ?_
  refine Cells.wide (by exact fun _=>⟨rfl,rfl⟩) (by first | omega | (simp [Aw] at * <;> omega)) (by decide) ?_
  refine SameQ.mk ⟨rfl,?_⟩
  refine SameQ.mk ⟨rfl,?_⟩
  refine SameQ.mk ⟨rfl,?_⟩
  refine Cells.lit rfl rfl ?_
  refine SameQ.mk ⟨rfl,?_⟩
  refine Kid.lit rfl rfl ?_
  refine Kid.wide (by exact fun _=>⟨rfl,rfl⟩) (by first | omega | (simp [Aw] at * <;> omega)) (by rfl) ?_
  refine Len.map ?_
  refine SameQ.mk ⟨rfl,?_⟩
  refine Cells.lit rfl rfl ?_
  refine SameQ.mk ⟨rfl,?_⟩
  refine SameQ.mk ⟨rfl,?_⟩
  refine Kid.lit rfl rfl ?_
  refine Len.map ?_
  refine Ask.mk p47 ?_
  refine SameQ.mk ⟨rfl,?_⟩
  refine SameQ.mk ⟨rfl,?_⟩
  refine Kid.lit rfl rfl ?_
  refine Cells.wide (by exact fun _=>⟨rfl,rfl⟩) (by first | omega | (simp [Aw] at * <;> omega)) (by decide) ?_
  refine SameQ.mk ⟨rfl,?_⟩
  refine SameQ.mk ⟨rfl,?_⟩
  refine SameQ.mk ⟨rfl,?_⟩
  refine SameQ.mk ⟨rfl,?_⟩
  refine Cells.lit rfl rfl ?_
  refine SameQ.mk ⟨rfl,?_⟩
  refine CallQ.io Ag (rP true (Aj false)) (by rfl) rfl (fun _=>rfl) (fun _=>⟨rfl,rfl⟩) rfl h (fun r h=>A4 h) (fun r48 u49 h=> ?_)
  refine SameQ.mk ⟨rfl,?_⟩
  refine Cells.lit rfl rfl ?_
  refine SameQ.mk ⟨rfl,?_⟩
  refine SameQ.mk ⟨rfl,?_⟩
  refine Kid.lit rfl rfl ?_
  refine Len.map ?_
  refine Ask.mk p47 ?_
  refine SameQ.mk ⟨rfl,?_⟩
  refine SameQ.mk ⟨rfl,?_⟩
  refine Kid.lit rfl rfl ?_
  refine Cells.wide (by exact fun _=>⟨rfl,rfl⟩) (by first | omega | (simp [Aw] at * <;> omega)) (by decide) ?_
  refine SameQ.mk ⟨rfl,?_⟩
  refine SameQ.mk ⟨rfl,?_⟩
  refine SameQ.mk ⟨rfl,?_⟩
  refine Cells.lit rfl rfl ?_
  refine SameQ.mk ⟨rfl,?_⟩
  refine CallQ.io Ag (rP true (Aj false)) (by rfl) rfl (fun _=>rfl) (fun _=>⟨rfl,rfl⟩) rfl h (fun r h=>A4 h) (fun r50 u51 h=> ?_)
  refine SameQ.mk ⟨rfl,?_⟩
  refine Cells.lit rfl rfl ?_
  refine SameQ.mk ⟨rfl,?_⟩
  refine SameQ.mk ⟨rfl,?_⟩
  refine Kid.lit rfl rfl ?_
  refine Len.map ?_
  refine Ask.mk p47 ?_
  refine SameQ.mk ⟨rfl,?_⟩
  refine SameQ.mk ⟨rfl,?_⟩
  refine Kid.lit rfl rfl ?_
  refine Cells.wide (by exact fun _=>⟨rfl,rfl⟩) (by first | omega | (simp [Aw] at * <;> omega)) (by decide) ?_
  refine SameQ.mk ⟨rfl,?_⟩
  refine Kid.lit rfl rfl ?_
  refine Kid.wide (by exact fun _=>⟨rfl,rfl⟩) (by first | omega | (simp [Aw] at * <;> omega)) (by rfl) ?_
  refine Len.map ?_
  refine Ask.o h fun p52 h=> ?_
  refine Kid.lit rfl rfl ?_
  refine Kid.wide (by exact fun _=>⟨rfl,rfl⟩) (by first | omega | (simp [Aw] at * <;> omega)) (by rfl) ?_
  refine SetKids.one (fun _=>⟨rfl,rfl⟩) (r50) (by rfl) (by first | omega | (simp [Aw] at * <;> omega)) ?_
  refine Kid.lit rfl rfl ?_
  refine Kid.wide (by exact fun _=>⟨rfl,rfl⟩) (by first | omega | (simp [Aw] at * <;> omega)) (by rfl) ?_
  refine SetKids.wide (by exact fun _=>⟨rfl,rfl⟩) ({ Arity:=(nth x10.Ops x11.toNat).Arity,Table:=(nth x10.Ops x11.toNat).Table.set r48.toNat r50 }) (by first | omega | (simp [Aw] at * <;> omega)) (by rfl) (by decide) ?_
  refine SetKids.lit rfl ?_
  refine Ask.o h fun p53 h=> ?_
  cases h;exact ⟨rfl,rfl⟩
 cases h;exact ⟨rfl,rfl⟩
noncomputable def Fe (c0:Sl1Cur):Option ((SAlgebra×SAlgebra)×Sl1Cur):=
 (Cs (c0)).bind fun (r1,u2)=>
 (((D6 (r1)).bind fun r3=>
 if (r3)=true then
 (Da (u2) ((8:Int))).bind fun (r5,u6)=>
 if (r5)=true then
 (Cs (u6)).bind fun (r8,u9)=>
 some (.inl (r8,u9))
 else
 some (.inr u6)
 else
 (Cs (u2)).bind fun (r10,u11)=>
 some (.inl (r10,u11)):Option ((SAlgebra×Sl1Cur) ⊕ Sl1Cur))).bind fun t=>match t with
 | (.inl (q12_3,q12_119))=>(some ((r1,q12_3),q12_119))
 | (.inr q12_119)=>((((Aq (q12_119) ((5:Int))).bind fun (r13,u14)=>
 if r13=(0:Int) then
 (H4 (r1)).bind fun r16=>
 some (.inl (r16,r1,u14))
 else
 if r13=(1:Int) then
 (Ef (u14) (r1.Size)).bind fun (r18,u19)=>
 (Is (r18) (r1.Size)).bind fun r20=>
 if (r20)=true then
 (Gm (r1) (r18)).bind fun r22=>
 some (.inl (r22,r1,u19))
 else
 some (.inr u19)
 else
 if r13=(2:Int) then
 (Ke (r1)).bind fun r24=>
 ask (InI ((↑r24.length:Int)-(1:Int))) <|
 ask ((0:Int)≤(↑r24.length:Int)-(1:Int)∧(↑r24.length:Int)-(1:Int)<(↑r24.length:Int)) <|
 if (↑(nth r24 ((↑r24.length:Int)-(1:Int)).toNat).length:Int)>(0:Int) then
 (Aq (u14) ((↑r24.length:Int))).bind fun (r28,u29)=>
 ask ((0:Int)≤r28∧r28<(↑r24.length:Int)) <|
 if (↑(nth r24 r28.toNat).length:Int)>(0:Int) then
 (Kj (r1) (nth r24 r28.toNat)).bind fun r32=>
 some (.inl (r1,r32,u29))
 else
 some (.inr u29)
 else
 some (.inr u14)
 else
 if r13=(3:Int) then
 (Al (D0 r1) ((0:Int),u14)).bind fun t=>match t with
 | (.inl (q43_3,q43_119))=>(some (.inl (q43_3,r1,q43_119)))
 | (.inr q43_119)=>(some (.inr q43_119))
 else
 some (.inr u14):Option ((SAlgebra×SAlgebra×Sl1Cur) ⊕ Sl1Cur))).bind fun t=>match t with
 | (.inl (q44_3,q44_2,q44_119))=>(some ((q44_2,q44_3),q44_119))
 | (.inr q44_119)=>((H4 (r1)).bind fun r45=>
 (Al (Fa r1) ((0:Int),r45,q44_119)).bind fun (q54_10,q54_119)=>
 some ((r1,q54_10),q54_119)))
theorem T4 {c0:Sl1Cur} {v:((SAlgebra×SAlgebra)×Sl1Cur)} (h:Fe c0=some v):H8 Try.prog I5 [(rP true (Aj false)) c0] ((fun r=>V.tup [(Ae false) r.1,(Ae false) r.2]) v.1) 0 ((rP true (Aj false)) v.2):=by
 refine Ay7 Aee (Nat.le_of_ble_eq_true rfl) ?_
 unfold Fe at h
 refine CallQ.io (Ae true) (rP true (Aj false)) (by rfl) rfl (fun _=>rfl) (fun _=>⟨rfl,rfl⟩) rfl h (fun r h=>Gz h) (fun r1 u2 h=> ?_)
 refine SetKids.lit rfl ?_
 refine CutQ.o (fun t:((SAlgebra×Sl1Cur) ⊕ Sl1Cur)=>match t with | (.inl s)=>(Ex.ret,[3,2,119],[(3,A.val ((rP false (Ae false)) s.1)),(2,A.val ((rP false (Ae false)) (r1))),(119,A.val ((rP true (Aj false)) s.2))]) | (.inr s)=>(Ex.normal,[4,3,2,0,119],[(4,A.val ((rP false (Ae false)) (r1))),(3,A.val ((rP true (Ae true)) ({ Size:=(0:Int),Ops:=Ao SOp }))),(2,A.val ((rP true (Ae true)) ({ Size:=(0:Int),Ops:=Ao SOp }))),(0,A.ref 119 []),(119,A.val ((rP true (Aj false)) s))])) h ?_ ?_
 ·intro t h
  refine FrzQ.d ((rP false (Ae false)) r1) ((Ak _).trans (Eq.trans (b:=V.fz ((rP true (Ae true)) r1)) rfl (Ad (rP true (Ae true)) _))) ?_
  refine CallQ.o V.bool (by rfl) h (fun r h=>Iw h) (fun r3 h=> ?_)
  refine Br.flip ?_
  refine Br.ob h (fun p4 h=> ?_) (fun p4 h=> ?_)
  ·refine Br.no ?_
   refine CallQ.io V.bool (rP true (Aj false)) (by rfl) rfl (fun _=>rfl) (fun _=>⟨rfl,rfl⟩) rfl h (fun r h=>Kf h) (fun r5 u6 h=> ?_)
   refine Br.no ?_
   refine Br.ob h (fun p7 h=> ?_) (fun p7 h=> ?_)
   ·refine LendP.io (Ae true) (rP true (Aj false)) (by rfl) (fun _=>rfl) (fun _=>⟨rfl,rfl⟩) (fun _=>rfl) h (fun r h=>Gz h) (fun r8 u9 h=> ?_)
    refine SetKids.lit rfl ?_
    refine SetKids.lit rfl ?_
    refine FrzQ.d ((rP false (Ae false)) r1) ((Ak _).trans (Eq.trans (b:=V.fz ((rP true (Ae false)) r1)) rfl (Ad (rP true (Ae false)) _))) ?_
    refine FrzQ.d ((rP false (Ae false)) r8) ((Ak _).trans (Eq.trans (b:=V.fz ((rP true (Ae true)) r8)) rfl (Ad (rP true (Ae true)) _))) ?_
    cases h;exact ⟨rfl,rfl⟩
   cases h;exact ⟨rfl,rfl⟩
  refine Br.yes ?_
  refine Br.yes ?_
  refine Br.yes ?_
  refine LendP.io (Ae true) (rP true (Aj false)) (by rfl) (fun _=>rfl) (fun _=>⟨rfl,rfl⟩) (fun _=>rfl) h (fun r h=>Gz h) (fun r10 u11 h=> ?_)
  refine SetKids.lit rfl ?_
  refine SetKids.lit rfl ?_
  refine FrzQ.d ((rP false (Ae false)) r1) ((Ak _).trans (Eq.trans (b:=V.fz ((rP true (Ae false)) r1)) rfl (Ad (rP true (Ae false)) _))) ?_
  refine FrzQ.d ((rP false (Ae false)) r10) ((Ak _).trans (Eq.trans (b:=V.fz ((rP true (Ae true)) r10)) rfl (Ad (rP true (Ae true)) _))) ?_
  cases h;exact ⟨rfl,rfl⟩
 rintro (⟨q12_3,q12_119⟩ | q12_119) h
 ·try dsimp only at h
  cases h;exact ⟨(by rfl),(by rfl)⟩
 try dsimp only at h
 refine CutQ.o (fun t:((SAlgebra×SAlgebra×Sl1Cur) ⊕ Sl1Cur)=>match t with | (.inl s)=>(Ex.ret,[3,2,119],[(3,A.val ((rP false (Ae false)) s.1)),(2,A.val ((rP false (Ae false)) s.2.1)),(119,A.val ((rP true (Aj false)) s.2.2))]) | (.inr s)=>(Ex.normal,[4,3,2,0,119],[(4,A.val ((rP false (Ae false)) (r1))),(3,A.val ((rP true (Ae true)) ({ Size:=(0:Int),Ops:=Ao SOp }))),(2,A.val ((rP true (Ae true)) ({ Size:=(0:Int),Ops:=Ao SOp }))),(0,A.ref 119 []),(119,A.val ((rP true (Aj false)) s))])) h ?_ ?_
 ·intro t h
  refine CallQ.io Ag (rP true (Aj false)) (by rfl) rfl (fun _=>rfl) (fun _=>⟨rfl,rfl⟩) rfl h (fun r h=>A4 h) (fun r13 u14 h=> ?_)
  refine Br.oe h (fun p15 h=> ?_) (fun p15 h=> ?_)
  ·refine CallP.o (Ae true) (by rfl) h (fun r h=>Adf h) (fun r16 h=> ?_)
   refine SetKids.lit rfl ?_
   refine SetKids.lit rfl ?_
   refine FrzQ.d ((rP false (Ae false)) r1) ((Ak _).trans (Eq.trans (b:=V.fz ((rP true (Ae false)) r1)) rfl (Ad (rP true (Ae false)) _))) ?_
   refine FrzQ.d ((rP false (Ae false)) r16) ((Ak _).trans (Eq.trans (b:=V.fz ((rP true (Ae true)) r16)) rfl (Ad (rP true (Ae true)) _))) ?_
   cases h;exact ⟨rfl,rfl⟩
  refine Br.oe h (fun p17 h=> ?_) (fun p17 h=> ?_)
  ·refine CallQ.io (slr true 1 Ag) (rP true (Aj false)) (by rfl) rfl (fun _=>rfl) (fun _=>⟨rfl,rfl⟩) rfl h (fun r h=>Abg h) (fun r18 u19 h=> ?_)
   refine FrzQ.d (V.sl false (1:Nat) (List.map Ag r18)) (by first | (simp only [slr];done) | (simp [Ak,V.fz,Ab,slr];done) | (simp [Ak,V.fz,fzL,Ab,slr];done)) ?_
   refine CallQ.o V.bool (by rfl) h (fun r h=>Anx h) (fun r20 h=> ?_)
   refine Br.ob h (fun p21 h=> ?_) (fun p21 h=> ?_)
   ·refine CallP.o (Ae true) (by rfl) h (fun r h=>Ahx h) (fun r22 h=> ?_)
    refine SetKids.lit rfl ?_
    refine SetKids.lit rfl ?_
    refine FrzQ.d ((rP false (Ae false)) r1) ((Ak _).trans (Eq.trans (b:=V.fz ((rP true (Ae false)) r1)) rfl (Ad (rP true (Ae false)) _))) ?_
    refine FrzQ.d ((rP false (Ae false)) r22) ((Ak _).trans (Eq.trans (b:=V.fz ((rP true (Ae true)) r22)) rfl (Ad (rP true (Ae true)) _))) ?_
    cases h;exact ⟨rfl,rfl⟩
   cases h;exact ⟨rfl,rfl⟩
  refine Br.oe h (fun p23 h=> ?_) (fun p23 h=> ?_)
  ·refine CallQ.o (slr true 1 (slr false 1 Ag)) (by rfl) h (fun r h=>Aqq h) (fun r24 h=> ?_)
   refine FrzQ.d (V.sl false (1:Nat) (List.map (slr false (1:Nat) Ag) r24)) (by first | (simp only [slr];done) | (simp [Ak,V.fz,Ab,slr];done) | (simp [Ak,V.fz,fzL,Ab,slr];done)) ?_
   refine Len.map ?_
   refine Ask.o h fun p25 h=> ?_
   refine Len.map ?_
   refine Ask.o h fun p26 h=> ?_
   refine Elem.o (by first | omega | (simp [Aw] at * <;> omega)) ?_
   refine Len.map ?_
   refine Br.od h (fun p27 h=> ?_) (fun p27 h=> ?_)
   ·refine Len.map ?_
    refine CallQ.io Ag (rP true (Aj false)) (by rfl) rfl (fun _=>rfl) (fun _=>⟨rfl,rfl⟩) rfl h (fun r h=>A4 h) (fun r28 u29 h=> ?_)
    refine Len.map ?_
    refine Ask.o h fun p30 h=> ?_
    refine Elem.o (by first | omega | (simp [Aw] at * <;> omega)) ?_
    refine Len.map ?_
    refine Br.od h (fun p31 h=> ?_) (fun p31 h=> ?_)
    ·refine SameQ.mk ⟨rfl,?_⟩
     refine SameQ.mk ⟨rfl,?_⟩
     refine SameQ.mk ⟨rfl,?_⟩
     refine CallQ.o (Ae true) (by rfl) h (fun r h=>Ard h) (fun r32 h=> ?_)
     refine SameQ.mk ⟨rfl,?_⟩
     refine SetKids.lit rfl ?_
     refine SameQ.mk ⟨rfl,?_⟩
     refine SetKids.lit rfl ?_
     refine FrzQ.d ((rP false (Ae false)) r32) ((Ak _).trans (Eq.trans (b:=V.fz ((rP true (Ae true)) r32)) rfl (Ad (rP true (Ae true)) _))) ?_
     refine FrzQ.d ((rP false (Ae false)) r1) ((Ak _).trans (Eq.trans (b:=V.fz ((rP true (Ae false)) r1)) rfl (Ad (rP true (Ae false)) _))) ?_
     cases h;exact ⟨rfl,rfl⟩
    cases h;exact ⟨rfl,rfl⟩
   cases h;exact ⟨rfl,rfl⟩
  refine Br.oe h (fun p33 h=> ?_) (fun p33 h=> ?_)
  ·refine LoopQ.o [8,4,3,2,0,119] (Jp r1) (Pw r1) h (fun s o h=>Zm s o h) (by rfl) (by rintro (_ | _)<;>rfl) ?_
   rintro (⟨q43_3,q43_119⟩ | q43_119) h
   ·try dsimp only at h
    cases h;exact ⟨rfl,rfl⟩
   try dsimp only at h
   cases h;exact ⟨rfl,rfl⟩
  cases h;exact ⟨rfl,rfl⟩
 rintro (⟨q44_3,q44_2,q44_119⟩ | q44_119) h
 ·try dsimp only at h
  cases h;exact ⟨(by rfl),(by rfl)⟩
 try dsimp only at h
 refine CallQ.o (Ae true) (by rfl) h (fun r h=>Adf h) (fun r45 h=> ?_)
 refine SetKids.lit rfl ?_
 refine LoopQ.o [11,10,4,3,2,0,119] (Jg r1) (Pm r1) h (fun s o h=>Aaa s o h) (by rfl) (fun _=>rfl) ?_
 rintro ⟨q54_10,q54_119⟩ h
 try dsimp only at h
 refine FrzQ.d ((rP false (Ae false)) q54_10) ((Ak _).trans (Eq.trans (b:=V.fz ((rP true (Ae true)) q54_10)) rfl (Ad (rP true (Ae true)) _))) ?_
 refine SameQ.mk ⟨rfl,?_⟩
 refine SameQ.mk ⟨rfl,?_⟩
 refine SetKids.lit rfl ?_
 refine SameQ.mk ⟨rfl,?_⟩
 refine SetKids.lit rfl ?_
 refine FrzQ.d ((rP false (Ae false)) r1) ((Ak _).trans (Eq.trans (b:=V.fz ((rP true (Ae false)) r1)) rfl (Ad (rP true (Ae false)) _))) ?_
 refine FrzQ.d ((rP false (Ae false)) q54_10) ((Ak _).trans (Eq.trans (b:=V.fz ((rP true (Ae false)) q54_10)) rfl (Ad (rP true (Ae false)) _))) ?_
 cases h;exact ⟨(by rfl),(by rfl)⟩
noncomputable def Dp (a0:SAlgebra) (b0:SAlgebra):Option Bool:=
 (D2 (a0)).bind fun r1=>
 if (r1)=true then
 (D2 (b0)).bind fun r3=>
 if (r3)=true then
 (Ra (a0) (b0)).bind fun r5=>
 some r5
 else
 some false
 else
 some false
theorem In {a0:SAlgebra} {b0:SAlgebra} {v:Bool} (h:Dp a0 b0=some v):Ret Try.prog Fn [(Ae false) a0,(Ae false) b0] (V.bool v):=by
 refine Bb Ai0 (Nat.le_of_ble_eq_true rfl) ?_
 unfold Dp at h
 refine Cells.lit rfl rfl ?_
 refine CallQ.o V.bool (by rfl) h (fun r h=>Ki h) (fun r1 h=> ?_)
 refine Br.ob h (fun p2 h=> ?_) (fun p2 h=> ?_)
 ·refine Cells.lit rfl rfl ?_
  refine Br.yes ?_
  refine CallQ.o V.bool (by rfl) h (fun r h=>Ki h) (fun r3 h=> ?_)
  refine Br.yes ?_
  refine Br.ob h (fun p4 h=> ?_) (fun p4 h=> ?_)
  ·refine Cells.lit rfl rfl ?_
   refine Br.yes ?_
   refine Cells.lit rfl rfl ?_
   refine Br.yes ?_
   refine CallQ.o V.bool (by rfl) h (fun r h=>Aqn h) (fun r5 h=> ?_)
   refine Br.yes ?_
   cases h;exact (by rfl)
  refine Br.no ?_
  refine Br.no ?_
  refine Br.no ?_
  cases h;exact (by rfl)
 refine Br.no ?_
 refine Br.no ?_
 refine Br.no ?_
 refine Br.no ?_
 refine Br.no ?_
 refine Br.no ?_
 cases h;exact (by rfl)
end Go.Proofs.Ytmkgjnphianalaa.Ax
