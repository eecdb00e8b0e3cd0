/-
 What the functions compute, as functions on plain data, and that the program does compute it; written by program.
-/
import Derived.Test.YtmkgjnphianalaaCode
import Derived.Test.YtmkgjnphianalaaG1
import Derived.Test.YtmkgjnphianalaaG2
import Derived.Test.YtmkgjnphianalaaG4
import Derived.Test.YtmkgjnphianalaaG6
import Derived.Test.YtmkgjnphianalaaG7
import Derived.Test.YtmkgjnphianalaaG8
import Derived.Test.YtmkgjnphianalaaG10
namespace Go.Proofs.Ytmkgjnphianalaa.Ax
open Go
set_option maxRecDepth 100000
set_option maxHeartbeats 4000000
noncomputable def E7 (a0:SAlgebra) (b0:SAlgebra):(Int×(List Int)×Sl1Cur)→Option ((Int×(List Int)×Sl1Cur) ⊕ ((List Int)×Sl1Cur)):=fun (x8,x7,x80)=>
 if x8<a0.Size then
 (Aq (x80) (b0.Size)).bind fun (r7,u8)=>
 ask ((x7).length+([r7]).length≤LIM) <|
 ask (InI (x8+(1:Int))) <|
 some (.inl (x8+(1:Int),x7++[r7],u8))
 else
 some (.inr (x7,x80))
def Ji (a0:SAlgebra) (b0:SAlgebra):(Int×(List Int)×Sl1Cur)→St:=fun s=>[(8,A.val (Ag s.1)),(7,A.val ((slr true 1 Ag) s.2.1)),(5,A.val ((rP true (Ae false)) (b0))),(4,A.val ((rP true (Ae false)) (a0))),(0,A.ref 80 []),(80,A.val ((rP true (Aj false)) s.2.2))]
def Pq (a0:SAlgebra) (b0:SAlgebra):((List Int)×Sl1Cur)→Tgt
 | s=>((Ex.exit 0),[7,5,4,0,80],[(7,A.val ((slr true 1 Ag) s.1)),(5,A.val ((rP true (Ae false)) (b0))),(4,A.val ((rP true (Ae false)) (a0))),(0,A.ref 80 []),(80,A.val ((rP true (Aj false)) s.2))])
theorem Aan {a0:SAlgebra} {b0:SAlgebra} (s:(Int×(List Int)×Sl1Cur)) (o:(Int×(List Int)×Sl1Cur) ⊕ ((List Int)×Sl1Cur)) (h:E7 a0 b0 s=some o):vc Try.prog Pl (C1 [8,7,5,4,0,80] (Ji a0 b0) (Pq a0 b0) o) (Ji a0 b0 s):=by
 obtain ⟨x8,x7,x80⟩:=s
 unfold E7 at h
 try dsimp only at h
 refine Cells.lit rfl rfl ?_
 refine Br.od h (fun p6 h=> ?_) (fun p6 h=> ?_)
 ·refine Cells.lit rfl rfl ?_
  refine CallQ.io Ag (rP true (Aj false)) (by rfl) rfl (fun _=>rfl) (fun _=>⟨rfl,rfl⟩) rfl h (fun r h=>A4 h) (fun r7 u8 h=> ?_)
  refine BslQ.o Ag [r7] (by exact fun _=>⟨rfl,rfl⟩) (by first | rfl | (simp only [Aa,V.fz,fzL,V.up,upL,Ab,Ac,Ad,slr,List.cons_append,List.nil_append];done) | simp [Aa,V.fz,fzL,V.up,upL,Ab,Ac,Ad,slr]) ?_
  refine NoOwn.o (fun _=>rfl) ?_
  refine AppQ.o (m:=1) Ag (by exact fun _=>⟨rfl,rfl⟩) (x7) ([r7]) (by rfl) (by rfl) h fun h=> ?_
  refine Ask.o h fun p9 h=> ?_
  cases h;exact ⟨rfl,rfl⟩
 cases h;exact ⟨rfl,rfl⟩
noncomputable def Gn (c0:Sl1Cur) (a0:SAlgebra) (b0:SAlgebra):Option ((List Int)×Sl1Cur):=
 (((D6 (a0)).bind fun r1=>
 if (r1)=true then
 (D6 (b0)).bind fun r3=>
 if (r3)=true then
 some (.inl ())
 else
 some (.inr ())
 else
 some (.inr ()):Option (Unit ⊕ Unit))).bind fun t=>match t with
 | (.inl _)=>((Al (E7 a0 b0) ((0:Int),Ao Int,c0)).bind fun (q10_7,q10_80)=>
 (((((E6 (a0) (b0)).bind fun r11=>
 if (r11)=true then
 (Da (q10_80) ((3:Int))).bind fun (r13,u14)=>
 some (!r13,u14)
 else
 some (false,q10_80):Option (Bool×Sl1Cur))).bind fun (q15_41,q15_80)=>
 if (q15_41)=true then
 (Cq (a0) (b0) (false) (false) ((8:Int))).bind fun r17=>
 if (↑r17.fst.length:Int)>(0:Int) then
 (Aq (q15_80) ((↑r17.fst.length:Int))).bind fun (r19,u20)=>
 ask ((0:Int)≤r19∧r19<(↑r17.fst.length:Int)) <|
 (Ft (nth r17.fst r19.toNat)).bind fun r22=>
 some (r22,u20)
 else
 some (q10_7,q15_80)
 else
 some (q10_7,q15_80):Option ((List Int)×Sl1Cur))).bind fun (q23_7,q23_80)=>
 (Aq (q23_80) ((24:Int))).bind fun (r24,u25)=>
 if r24=(0:Int) then
 ask ((q23_7).length+([(0:Int)]).length≤LIM) <|
 some (q23_7++[(0:Int)],u25)
 else
 if r24=(1:Int) then
 (Aq (u25) ((↑q23_7.length:Int))).bind fun (r28,u29)=>
 (Bi (u29) ([(-1:Int),b0.Size,(1099511627776:Int)])).bind fun (r30,u31)=>
 ask ((0:Int)≤r28∧r28<(↑q23_7.length:Int)) <|
 some (q23_7.set r28.toNat r30,u31)
 else
 some (q23_7,u25))
 | (.inr _)=>(some (Ao Int,c0))
theorem Ae3 {c0:Sl1Cur} {a0:SAlgebra} {b0:SAlgebra} {v:((List Int)×Sl1Cur)} (h:Gn c0 a0 b0=some v):H8 Try.prog Mq [(rP true (Aj false)) c0,(Ae false) a0,(Ae false) b0] ((slr true 1 Ag) v.1) 0 ((rP true (Aj false)) v.2):=by
 refine I7 Aen (Nat.le_of_ble_eq_true rfl) ?_
 unfold Gn at h
 refine BslQ.o Ag (Ao Int) (by exact fun _=>⟨rfl,rfl⟩) (by first | rfl | (simp only [Aa,V.fz,fzL,V.up,upL,Ab,Ac,Ad,slr,List.cons_append,List.nil_append];done) | simp [Aa,V.fz,fzL,V.up,upL,Ab,Ac,Ad,slr]) ?_
 refine CutQ.o (fun t:(Unit ⊕ Unit)=>match t with | (.inl s)=>(Ex.normal,[7,5,4,0,80],[(7,A.val ((slr true 1 Ag) (Ao Int))),(5,A.val ((rP true (Ae false)) (b0))),(4,A.val ((rP true (Ae false)) (a0))),(0,A.ref 80 []),(80,A.val ((rP true (Aj false)) (c0)))]) | (.inr s)=>(Ex.ret,[6,80],[(6,A.val ((slr true 1 Ag) (Ao Int))),(80,A.val ((rP true (Aj false)) (c0)))])) h ?_ ?_
 ·intro t h
  refine Cells.lit rfl rfl ?_
  refine CallQ.o V.bool (by rfl) h (fun r h=>Iw h) (fun r1 h=> ?_)
  refine Br.flip ?_
  refine Br.ob h (fun p2 h=> ?_) (fun p2 h=> ?_)
  ·refine Cells.lit rfl rfl ?_
   refine Br.no ?_
   refine CallQ.o V.bool (by rfl) h (fun r h=>Iw h) (fun r3 h=> ?_)
   refine Br.no ?_
   refine Br.no ?_
   refine Br.flip ?_
   refine Br.ob h (fun p4 h=> ?_) (fun p4 h=> ?_)
   ·cases h;exact ⟨rfl,rfl⟩
   cases h;exact ⟨rfl,rfl⟩
  refine Br.yes ?_
  refine Br.yes ?_
  refine Br.yes ?_
  refine Br.yes ?_
  cases h;exact ⟨rfl,rfl⟩
 rintro (⟨⟩ | ⟨⟩) h
 ·try dsimp only at h
  refine LoopQ.o [8,7,5,4,0,80] (Ji a0 b0) (Pq a0 b0) h (fun s o h=>Aan s o h) (by rfl) (fun _=>rfl) ?_
  rintro ⟨q10_7,q10_80⟩ h
  try dsimp only at h
  refine CutQ.o (fun t:((List Int)×Sl1Cur)=>match t with | s=>(Ex.normal,[7,5,0,80],[(7,A.val ((slr true 1 Ag) s.1)),(5,A.val ((rP true (Ae false)) (b0))),(0,A.ref 80 []),(80,A.val ((rP true (Aj false)) s.2))])) h ?_ ?_
  ·intro t h
   refine CutQ.o (fun t:(Bool×Sl1Cur)=>match t with | s=>(Ex.normal,[41,7,5,4,0,80],[(41,A.val (V.bool s.1)),(7,A.val ((slr true 1 Ag) (q10_7))),(5,A.val ((rP true (Ae false)) (b0))),(4,A.val ((rP true (Ae false)) (a0))),(0,A.ref 80 []),(80,A.val ((rP true (Aj false)) s.2))])) h ?_ ?_
   ·intro t h
    refine Cells.lit rfl rfl ?_
    refine Cells.lit rfl rfl ?_
    refine CallQ.o V.bool (by rfl) h (fun r h=>Uj h) (fun r11 h=> ?_)
    refine Br.ob h (fun p12 h=> ?_) (fun p12 h=> ?_)
    ·refine Br.yes ?_
     refine CallQ.io V.bool (rP true (Aj false)) (by rfl) rfl (fun _=>rfl) (fun _=>⟨rfl,rfl⟩) rfl h (fun r h=>Kf h) (fun r13 u14 h=> ?_)
     refine Br.yes ?_
     refine Br.yes ?_
     cases h;exact ⟨rfl,rfl⟩
    refine Br.no ?_
    refine Br.no ?_
    refine Br.no ?_
    cases h;exact ⟨rfl,rfl⟩
   rintro ⟨q15_41,q15_80⟩ h
   try dsimp only at h
   refine Br.ob h (fun p16 h=> ?_) (fun p16 h=> ?_)
   ·refine Cells.lit rfl rfl ?_
    refine Cells.lit rfl rfl ?_
    refine CallQ.o (fun r=>V.tup [(slr false 1 (slr false 1 Ag)) r.1,V.bool r.2]) (by rfl) h (fun r h=>Uf h) (fun r17 h=> ?_)
    refine Len.map ?_
    refine Br.od h (fun p18 h=> ?_) (fun p18 h=> ?_)
    ·refine Len.map ?_
     refine CallQ.io Ag (rP true (Aj false)) (by rfl) rfl (fun _=>rfl) (fun _=>⟨rfl,rfl⟩) rfl h (fun r h=>A4 h) (fun r19 u20 h=> ?_)
     refine Len.map ?_
     refine Ask.o h fun p21 h=> ?_
     refine Elem.o (by first | omega | (simp [Aw] at * <;> omega)) ?_
     refine CallQ.o (slr true 1 Ag) (by rfl) h (fun r h=>Q4 h) (fun r22 h=> ?_)
     cases h;exact ⟨rfl,rfl⟩
    cases h;exact ⟨rfl,rfl⟩
   cases h;exact ⟨rfl,rfl⟩
  rintro ⟨q23_7,q23_80⟩ h
  try dsimp only at h
  refine CallQ.io Ag (rP true (Aj false)) (by rfl) rfl (fun _=>rfl) (fun _=>⟨rfl,rfl⟩) rfl h (fun r h=>A4 h) (fun r24 u25 h=> ?_)
  refine Br.oe h (fun p26 h=> ?_) (fun p26 h=> ?_)
  ·refine BslQ.o Ag ([(0:Int)]) (by exact fun _=>⟨rfl,rfl⟩) (by first | rfl | (simp only [Aa,V.fz,fzL,V.up,upL,Ab,Ac,Ad,slr,List.cons_append,List.nil_append];done) | simp [Aa,V.fz,fzL,V.up,upL,Ab,Ac,Ad,slr]) ?_
   refine NoOwn.o (fun _=>rfl) ?_
   refine AppQ.o (m:=1) Ag (by exact fun _=>⟨rfl,rfl⟩) (q23_7) ([(0:Int)]) (by rfl) (by rfl) h fun h=> ?_
   cases h;exact ⟨(by rfl),(by rfl)⟩
  refine Br.oe h (fun p27 h=> ?_) (fun p27 h=> ?_)
  ·refine Cells.lit rfl rfl ?_
   obtain ⟨⟨r28,u29⟩,e33,h⟩:=Option.bind_eq_some_iff.1 h
   try dsimp only at h
   obtain ⟨⟨r30,u31⟩,e34,h⟩:=Option.bind_eq_some_iff.1 h
   try dsimp only at h
   obtain ⟨p35,h⟩:=Rh.1 h
   refine Two.mk ⟨?_,?_⟩
   ·refine SameQ.mk ⟨rfl,?_⟩
    refine SameQ.mk ⟨rfl,?_⟩
    refine SameQ.mk ⟨rfl,?_⟩
    refine SameQ.mk ⟨rfl,?_⟩
    refine SameQ.mk ⟨rfl,?_⟩
    refine Cells.lit rfl rfl ?_
    refine SameQ.mk ⟨rfl,?_⟩
    refine Len.map ?_
    refine Two.mk ⟨?_,?_⟩
    ·refine SameQ.mk ⟨rfl,?_⟩
     refine SameQ.mk ⟨rfl,?_⟩
     refine SameQ.mk ⟨rfl,?_⟩
     refine SameQ.mk ⟨rfl,?_⟩
     refine Cells.lit rfl rfl ?_
     refine SameQ.mk ⟨rfl,?_⟩
     refine CallQ.io Ag (rP true (Aj false)) (by rfl) rfl (fun _=>rfl) (fun _=>⟨rfl,rfl⟩) rfl (show Option.bind (Aq (u25) ((↑q23_7.length:Int))) some=some (r28,u29) by rw [e33];rfl) (fun r h=>A4 h) (fun b36 c37 hb=> ?_)
     obtain ⟨rfl,rfl⟩:r28=b36∧u29=c37:=by cases hb;exact ⟨rfl,rfl⟩
     refine SameQ.mk ⟨rfl,?_⟩
     refine SameQ.mk ⟨rfl,?_⟩
     refine SameQ.mk ⟨rfl,?_⟩
     refine Cells.lit rfl rfl ?_
     refine SameQ.mk ⟨rfl,?_⟩
     refine BslQ.o Ag ([(-1:Int),b0.Size,(1099511627776:Int)]) (by exact fun _=>⟨rfl,rfl⟩) (by first | rfl | (simp only [Aa,V.fz,fzL,V.up,upL,Ab,Ac,Ad,slr,List.cons_append,List.nil_append];done) | simp [Aa,V.fz,fzL,V.up,upL,Ab,Ac,Ad,slr]) ?_
     refine SameQ.mk ⟨rfl,?_⟩
     refine SameQ.mk ⟨rfl,?_⟩
     refine CallQ.io Ag (rP true (Aj false)) (by first | rfl | (simp only [Aa,Ak,V.fz,fzL,Ab,Ac,slr];done) | simp [Aa,Ak,V.fz,fzL,V.up,upL,Ab,Ac,Ad,slr]) rfl (fun _=>rfl) (fun _=>⟨rfl,rfl⟩) rfl (show Option.bind (Bi (u29) ([(-1:Int),b0.Size,(1099511627776:Int)])) some=some (r30,u31) by rw [e34];rfl) (fun r h=>Bw h) (fun b38 c39 hb=> ?_)
     obtain ⟨rfl,rfl⟩:r30=b38∧u31=c39:=by cases hb;exact ⟨rfl,rfl⟩
     refine SameQ.mk ⟨rfl,?_⟩
     refine Len.map ?_
     refine Ask.mk p35 ?_
     refine SetKids.one (fun _=>⟨rfl,rfl⟩) (r30) (by rfl) (by first | omega | (simp [Aw] at * <;> omega)) ?_
     cases h;exact ⟨(by rfl),(by rfl)⟩
    refine SameQ.mk ⟨rfl,?_⟩
    refine SameQ.mk ⟨rfl,?_⟩
    refine SameQ.mk ⟨rfl,?_⟩
    refine SameQ.mk ⟨rfl,?_⟩
    refine Cells.lit rfl rfl ?_
    refine SameQ.mk ⟨rfl,?_⟩
    refine BslQ.o Ag ([(-1:Int),b0.Size,(1099511627776:Int)]) (by exact fun _=>⟨rfl,rfl⟩) (by first | rfl | (simp only [Aa,V.fz,fzL,V.up,upL,Ab,Ac,Ad,slr,List.cons_append,List.nil_append];done) | simp [Aa,V.fz,fzL,V.up,upL,Ab,Ac,Ad,slr]) ?_
    refine SameQ.mk ⟨rfl,?_⟩
    refine SameQ.mk ⟨rfl,?_⟩
    refine SameQ.mk ⟨rfl,?_⟩
    refine CallQ.io Ag (rP true (Aj false)) (by rfl) rfl (fun _=>rfl) (fun _=>⟨rfl,rfl⟩) rfl (show Option.bind (Aq (u25) ((↑q23_7.length:Int))) some=some (r28,u29) by rw [e33];rfl) (fun r h=>A4 h) (fun b40 c41 hb=> ?_)
    obtain ⟨rfl,rfl⟩:r28=b40∧u29=c41:=by cases hb;exact ⟨rfl,rfl⟩
    refine SameQ.mk ⟨rfl,?_⟩
    refine SameQ.mk ⟨rfl,?_⟩
    refine CallQ.io Ag (rP true (Aj false)) (by first | rfl | (simp only [Aa,Ak,V.fz,fzL,Ab,Ac,slr];done) | simp [Aa,Ak,V.fz,fzL,V.up,upL,Ab,Ac,Ad,slr]) rfl (fun _=>rfl) (fun _=>⟨rfl,rfl⟩) rfl (show Option.bind (Bi (u29) ([(-1:Int),b0.Size,(1099511627776:Int)])) some=some (r30,u31) by rw [e34];rfl) (fun r h=>Bw h) (fun b42 c43 hb=> ?_)
    obtain ⟨rfl,rfl⟩:r30=b42∧u31=c43:=by cases hb;exact ⟨rfl,rfl⟩
    refine SameQ.mk ⟨rfl,?_⟩
    refine Len.map ?_
    refine Ask.mk p35 ?_
    refine SetKids.one (fun _=>⟨rfl,rfl⟩) (r30) (by rfl) (by first | omega | (simp [Aw] at * <;> omega)) ?_
    cases h;exact ⟨(by rfl),(by rfl)⟩
   refine SameQ.mk ⟨rfl,?_⟩
   refine SameQ.mk ⟨rfl,?_⟩
   refine SameQ.mk ⟨rfl,?_⟩
   refine SameQ.mk ⟨rfl,?_⟩
   refine SameQ.mk ⟨rfl,?_⟩
   refine Cells.lit rfl rfl ?_
   refine SameQ.mk ⟨rfl,?_⟩
   refine BslQ.o Ag ([(-1:Int),b0.Size,(1099511627776:Int)]) (by exact fun _=>⟨rfl,rfl⟩) (by first | rfl | (simp only [Aa,V.fz,fzL,V.up,upL,Ab,Ac,Ad,slr,List.cons_append,List.nil_append];done) | simp [Aa,V.fz,fzL,V.up,upL,Ab,Ac,Ad,slr]) ?_
   refine SameQ.mk ⟨rfl,?_⟩
   refine SameQ.mk ⟨rfl,?_⟩
   refine SameQ.mk ⟨rfl,?_⟩
   refine SameQ.mk ⟨rfl,?_⟩
   refine Len.map ?_
   refine SameQ.mk ⟨rfl,?_⟩
   refine SameQ.mk ⟨rfl,?_⟩
   refine SameQ.mk ⟨rfl,?_⟩
   refine CallQ.io Ag (rP true (Aj false)) (by rfl) rfl (fun _=>rfl) (fun _=>⟨rfl,rfl⟩) rfl (show Option.bind (Aq (u25) ((↑q23_7.length:Int))) some=some (r28,u29) by rw [e33];rfl) (fun r h=>A4 h) (fun b44 c45 hb=> ?_)
   obtain ⟨rfl,rfl⟩:r28=b44∧u29=c45:=by cases hb;exact ⟨rfl,rfl⟩
   refine SameQ.mk ⟨rfl,?_⟩
   refine SameQ.mk ⟨rfl,?_⟩
   refine CallQ.io Ag (rP true (Aj false)) (by first | rfl | (simp only [Aa,Ak,V.fz,fzL,Ab,Ac,slr];done) | simp [Aa,Ak,V.fz,fzL,V.up,upL,Ab,Ac,Ad,slr]) rfl (fun _=>rfl) (fun _=>⟨rfl,rfl⟩) rfl (show Option.bind (Bi (u29) ([(-1:Int),b0.Size,(1099511627776:Int)])) some=some (r30,u31) by rw [e34];rfl) (fun r h=>Bw h) (fun b46 c47 hb=> ?_)
   obtain ⟨rfl,rfl⟩:r30=b46∧u31=c47:=by cases hb;exact ⟨rfl,rfl⟩
   refine SameQ.mk ⟨rfl,?_⟩
   refine Len.map ?_
   refine Ask.mk p35 ?_
   refine SetKids.one (fun _=>⟨rfl,rfl⟩) (r30) (by rfl) (by first | omega | (simp [Aw] at * <;> omega)) ?_
   cases h;exact ⟨(by rfl),(by rfl)⟩
  cases h;exact ⟨(by rfl),(by rfl)⟩
 try dsimp only at h
 cases h;exact ⟨(by rfl),(by rfl)⟩
noncomputable def Ij (a0:SAlgebra):(Int×(List (List Int)))→Option ((Int×(List (List Int))) ⊕ (List (List Int))):=fun (x4,x3)=>
 ask ((0:Int)≤a0.Size) <|
 if x4<A0d (1:Int) a0.Size then
 (Ky (x4)).bind fun r3=>
 (Pu (a0) (r3)).bind fun r4=>
 if (r4)=true then
 (K4 (x3) (r3)).bind fun r6=>
 ask (InI (x4+(1:Int))) <|
 some (.inl (x4+(1:Int),r6))
 else
 ask (InI (x4+(1:Int))) <|
 some (.inl (x4+(1:Int),x3))
 else
 some (.inr x3)
def Qb (a0:SAlgebra):(Int×(List (List Int)))→St:=fun s=>[(4,A.val (Ag s.1)),(3,A.val ((slr true 1 (slr false 1 Ag)) s.2)),(1,A.val ((rP true (Ae false)) (a0)))]
def Xz (_a0:SAlgebra):(List (List Int))→Tgt
 | s=>((Ex.exit 0),[3],[(3,A.val ((slr true 1 (slr false 1 Ag)) s))])
theorem Ajh {a0:SAlgebra} (s:(Int×(List (List Int)))) (o:(Int×(List (List Int))) ⊕ (List (List Int))) (h:Ij a0 s=some o):vc Try.prog X6 (C1 [4,3,1] (Qb a0) (Xz a0) o) (Qb a0 s):=by
 obtain ⟨x4,x3⟩:=s
 unfold Ij at h
 try dsimp only at h
 refine Cells.lit rfl rfl ?_
 refine Ask.o h fun p1 h=> ?_
 refine Br.od h (fun p2 h=> ?_) (fun p2 h=> ?_)
 ·refine CallQ.o (slr true 1 Ag) (by rfl) h (fun r h=>Amo h) (fun r3 h=> ?_)
  refine Cells.lit rfl rfl ?_
  refine CallQ.rd V.bool (by first | rfl | simp only [V.fz,fzL,Ab,slr] | simp [Aa,V.fz,fzL,V.up,upL,Ab,Ac,Ad,slr]) (fun _=>rfl) h (fun r h=>Aua h) (fun r4 h=> ?_)
  refine Br.ob h (fun p5 h=> ?_) (fun p5 h=> ?_)
  ·refine FrzQ.d (V.sl false (1:Nat) (List.map (slr false (1:Nat) Ag) x3)) (by first | (simp only [slr];done) | (simp [Ak,V.fz,Ab,slr];done) | (simp [Ak,V.fz,fzL,Ab,slr];done)) ?_
   refine FrzQ.d (V.sl false (1:Nat) (List.map Ag r3)) (by first | (simp only [slr];done) | (simp [Ak,V.fz,Ab,slr];done) | (simp [Ak,V.fz,fzL,Ab,slr];done)) ?_
   refine CallQ.o (slr true 1 (slr false 1 Ag)) (by rfl) h (fun r h=>Ani h) (fun r6 h=> ?_)
   refine Ask.o h fun p7 h=> ?_
   cases h;exact ⟨rfl,rfl⟩
  refine Ask.o h fun p8 h=> ?_
  cases h;exact ⟨rfl,rfl⟩
 cases h;exact ⟨rfl,rfl⟩
noncomputable def Ke (a0:SAlgebra):Option (List (List Int)):=
 (Al (Ij a0) ((0:Int),Ao (List Int))).bind fun q9_3=>
 some q9_3
theorem Aqq {a0:SAlgebra} {v:(List (List Int))} (h:Ke a0=some v):Ret Try.prog Xk [(Ae false) a0] ((slr true 1 (slr false 1 Ag)) v):=by
 refine Bb Aqk (Nat.le_of_ble_eq_true rfl) ?_
 unfold Ke at h
 refine BslQ.o (slr true 1 Ag) (Ao (List Int)) (by exact fun _=>⟨rfl,rfl⟩) (by first | rfl | (simp only [Aa,V.fz,fzL,V.up,upL,Ab,Ac,Ad,slr,List.cons_append,List.nil_append];done) | simp [Aa,V.fz,fzL,V.up,upL,Ab,Ac,Ad,slr]) ?_
 refine LoopQ.o [4,3,1] (Qb a0) (Xz a0) h (fun s o h=>Ajh s o h) (by rfl) (fun _=>rfl) ?_
 rintro q9_3 h
 try dsimp only at h
 cases h;exact (by rfl)
noncomputable def Ra (a0:SAlgebra) (b0:SAlgebra):Option Bool:=
 (Lj (a0) (b0)).bind fun r1=>
 if (r1.snd)=true then
 some r1.fst
 else
 some false
theorem Aqn {a0:SAlgebra} {b0:SAlgebra} {v:Bool} (h:Ra a0 b0=some v):Ret Try.prog Xs [(Ae false) a0,(Ae false) b0] (V.bool v):=by
 refine Bb Aqg (Nat.le_of_ble_eq_true rfl) ?_
 unfold Ra at h
 refine Cells.lit rfl rfl ?_
 refine Cells.lit rfl rfl ?_
 refine CallQ.o (fun r=>V.tup [V.bool r.1,V.bool r.2]) (by rfl) h (fun r h=>Ahu h) (fun r1 h=> ?_)
 refine Br.ob h (fun p2 h=> ?_) (fun p2 h=> ?_)
 ·refine Br.yes ?_
  cases h;exact (by rfl)
 refine Br.no ?_
 cases h;exact (by rfl)
end Go.Proofs.Ytmkgjnphianalaa.Ax
