/-
 What the functions compute, as functions on plain data, and that the program does compute it; written by program.
-/
import Derived.Test.YtjcekpmojnnmbaaGreatCode
namespace Go.Proofs.YtjcekpmojnnmbaaGreat.Ax
open Go
set_option maxRecDepth 100000
set_option maxHeartbeats 4000000
noncomputable def Sg (code0:(List Int)):Option Bool:=
 some (decide ((↑code0.length:Int)>(65536:Int)))
theorem Ar7 {code0:(List Int)} {v:Bool} (h:Sg code0=some v):Ret Tryz.prog X4 [(slr false 1 (V.int IntKind.u8)) code0] (V.bool v):=by
 refine A5 Aqj (Nat.le_of_ble_eq_true rfl) ?_
 unfold Sg at h
 refine Len.map ?_
 cases h;exact (by rfl)
noncomputable def Cc (a0:List Int) (b0:List Int):Int→Option (Int ⊕ (Unit ⊕ Unit)):=fun x5=>
 if x5<(↑a0.length:Int) then
 ask ((0:Int)≤x5∧x5<(↑a0.length:Int)) <|
 ask ((0:Int)≤x5∧x5<(↑b0.length:Int)) <|
 if nth a0 x5.toNat≠nth b0 x5.toNat then
 some (.inr (.inl ()))
 else
 ask (InI (x5+(1:Int))) <|
 some (.inl (x5+(1:Int)))
 else
 some (.inr (.inr ()))
def Oq (a0:List Int) (b0:List Int):Int→St:=fun s=>[(5,A.val (Af s)),(0,A.val ((slr false 1 Af) (a0))),(1,A.val ((slr false 1 Af) (b0)))]
def Wf (_a0:List Int) (_b0:List Int):(Unit ⊕ Unit)→Tgt
 | (.inl _s)=>(Ex.ret,[4],[(4,A.val (V.bool (false)))])
 | (.inr _s)=>((Ex.exit 0),[],[])
theorem Agn {a0:List Int} {b0:List Int} (x5:Int) (o:Int ⊕ (Unit ⊕ Unit)) (h:Cc a0 b0 x5=some o):vc Tryz.prog Wn (Dl [5,0,1] (Oq a0 b0) (Wf a0 b0) o) (Oq a0 b0 x5):=by
 unfold Cc at h
 try dsimp only at h
 refine Len.map<|Br.od h (fun p2 h=> ?_) (fun p2 h=> ?_)
 ·refine Len.map<|Ask.o h fun p3 h=>Elem.o (by first | omega | (simp [Ap] at * <;> omega))<|Len.map<|Ask.o h fun p4 h=>Elem.o (by first | omega | (simp [Ap] at * <;> omega))<|Br.on h (fun p5 h=> ?_) (fun p5 h=> ?_)
  ·cases h;exact ⟨rfl,rfl⟩
  refine Ask.o h fun p6 h=> ?_
  cases h;exact ⟨rfl,rfl⟩
 cases h;exact ⟨rfl,rfl⟩
noncomputable def Es (a0:(List Int)) (b0:(List Int)):Option Bool:=
 if (↑a0.length:Int)≠(↑b0.length:Int) then
 some false
 else
 (Al (Cc a0 b0) (0:Int)).bind fun t=>match t with
 | (.inl _)=>(some false)
 | (.inr _)=>(some true)
theorem Vl {a0:(List Int)} {b0:(List Int)} {v:Bool} (h:Es a0 b0=some v):Ret Tryz.prog L3 [(slr false 1 Af) a0,(slr false 1 Af) b0] (V.bool v):=by
 refine A5 Aoj (Nat.le_of_ble_eq_true rfl) ?_
 unfold Es at h
 refine Len.map<|Len.map<|Br.on h (fun p1 h=> ?_) (fun p1 h=> ?_)
 ·cases h;exact (by rfl)
 refine LoopQ.o [5,0,1] (Oq a0 b0) (Wf a0 b0) h (fun s o h=>Agn s o h) (by rfl) (by rintro (_ | _)<;>rfl) ?_
 rintro (⟨⟩ | ⟨⟩) h
 ·try dsimp only at h
  cases h;exact (by rfl)
 try dsimp only at h
 cases h;exact (by rfl)
noncomputable def Fd (p0:List Int) (q0:List Int):Int→Option (Int ⊕ (Unit ⊕ Unit)):=fun x9=>
 if x9<(↑p0.length:Int) then
 ask ((0:Int)≤x9∧x9<(↑p0.length:Int)) <|
 ask ((0:Int)≤nth p0 x9.toNat∧nth p0 x9.toNat<(↑q0.length:Int)) <|
 ask ((0:Int)≤x9∧x9<(↑q0.length:Int)) <|
 if nth q0 (nth p0 x9.toNat).toNat≠nth q0 x9.toNat then
 some (.inr (.inl ()))
 else
 ask (InI (x9+(1:Int))) <|
 some (.inl (x9+(1:Int)))
 else
 some (.inr (.inr ()))
def O3 (p0:List Int) (q0:List Int):Int→St:=fun s=>[(9,A.val (Af s)),(8,A.val (Af ((↑p0.length:Int)))),(7,A.val ((slr false 1 Af) (p0))),(1,A.val ((slr false 1 Af) (q0)))]
def Wl (_p0:List Int) (_q0:List Int):(Unit ⊕ Unit)→Tgt
 | (.inl _s)=>(Ex.ret,[4],[(4,A.val (V.bool (false)))])
 | (.inr _s)=>((Ex.exit 0),[],[])
theorem Ag2 {p0:List Int} {q0:List Int} (x9:Int) (o:Int ⊕ (Unit ⊕ Unit)) (h:Fd p0 q0 x9=some o):vc Tryz.prog Wr (Dl [9,8,7,1] (O3 p0 q0) (Wl p0 q0) o) (O3 p0 q0 x9):=by
 unfold Fd at h
 try dsimp only at h
 refine Br.od h (fun p1 h=> ?_) (fun p1 h=> ?_)
 ·refine Len.map<|Ask.o h fun p2 h=>Elem.o (by first | omega | (simp [Ap] at * <;> omega))<|Len.map<|Ask.o h fun p3 h=>Elem.o (by first | omega | (simp [Ap] at * <;> omega))<|Len.map<|Ask.o h fun p4 h=>Elem.o (by first | omega | (simp [Ap] at * <;> omega))<|Br.on h (fun p5 h=> ?_) (fun p5 h=> ?_)
  ·cases h;exact ⟨rfl,rfl⟩
  refine Ask.o h fun p6 h=> ?_
  cases h;exact ⟨rfl,rfl⟩
 cases h;exact ⟨rfl,rfl⟩
noncomputable def Gu (p0:(List Int)) (q0:(List Int)):Option Bool:=
 (Al (Fd p0 q0) (0:Int)).bind fun t=>match t with
 | (.inl _)=>(some false)
 | (.inr _)=>(some true)
theorem Pn {p0:(List Int)} {q0:(List Int)} {v:Bool} (h:Gu p0 q0=some v):Ret Tryz.prog Jh [(slr false 1 Af) p0,(slr false 1 Af) q0] (V.bool v):=by
 refine A5 Aqd (Nat.le_of_ble_eq_true rfl) ?_
 unfold Gu at h
 refine Len.map<|LoopQ.o [9,8,7,1] (O3 p0 q0) (Wl p0 q0) h (fun s o h=>Ag2 s o h) (by rfl) (by rintro (_ | _)<;>rfl) ?_
 rintro (⟨⟩ | ⟨⟩) h
 ·try dsimp only at h
  cases h;exact (by rfl)
 try dsimp only at h
 cases h;exact (by rfl)
noncomputable def C0 (n0:Int):(Int×(List Int))→Option ((Int×(List Int)) ⊕ (List Int)):=fun (x4,x3)=>
 if x4<n0 then
 ask ((x3).length+([x4]).length≤LIM) <|
 ask (InI (x4+(1:Int))) <|
 some (.inl (x4+(1:Int),x3++[x4]))
 else
 some (.inr x3)
def I5 (n0:Int):(Int×(List Int))→St:=fun s=>[(4,A.val (Af s.1)),(3,A.val ((slr true 1 Af) s.2)),(0,A.val (Af (n0)))]
def N1 (_n0:Int):(List Int)→Tgt
 | s=>((Ex.exit 0),[3],[(3,A.val ((slr true 1 Af) s))])
theorem Xk {n0:Int} (s:(Int×(List Int))) (o:(Int×(List Int)) ⊕ (List Int)) (h:C0 n0 s=some o):vc Tryz.prog Nw (Dl [4,3,0] (I5 n0) (N1 n0) o) (I5 n0 s):=by
 obtain ⟨x4,x3⟩:=s
 unfold C0 at h
 try dsimp only at h
 refine Br.od h (fun p1 h=> ?_) (fun p1 h=> ?_)
 ·refine BslQ.o Af [x4] (by exact fun _=>⟨rfl,rfl⟩) (by first | rfl | (simp only [Aa,V.fz,fzL,V.up,upL,Ab,Ac,Ad,slr,List.cons_append,List.nil_append];done) | simp [Aa,V.fz,fzL,V.up,upL,Ab,Ac,Ad,slr])<|NoOwn.o (fun _=>rfl)<|AppQ.o (m:=1) Af (by exact fun _=>⟨rfl,rfl⟩) (x3) ([x4]) (by rfl) (by rfl) h fun h=>Ask.o h fun p2 h=> ?_
  cases h;exact ⟨rfl,rfl⟩
 cases h;exact ⟨rfl,rfl⟩
noncomputable def Cs (n0:Int):Option (List Int):=
 (Al (C0 n0) ((0:Int),Aw Int)).bind fun q3_3=>
 some q3_3
theorem Gv {n0:Int} {v:(List Int)} (h:Cs n0=some v):Ret Tryz.prog D7 [Af n0] ((slr true 1 Af) v):=by
 refine A5 Adu (Nat.le_of_ble_eq_true rfl) ?_
 unfold Cs at h
 refine BslQ.o Af (Aw Int) (by exact fun _=>⟨rfl,rfl⟩) (by first | rfl | (simp only [Aa,V.fz,fzL,V.up,upL,Ab,Ac,Ad,slr,List.cons_append,List.nil_append];done) | simp [Aa,V.fz,fzL,V.up,upL,Ab,Ac,Ad,slr])<|LoopQ.o [4,3,0] (I5 n0) (N1 n0) h (fun s o h=>Xk s o h) (by rfl) (fun _=>rfl) ?_
 rintro q3_3 h
 try dsimp only at h
 cases h;exact (by rfl)
noncomputable def H7 (n0:Int):Option Bool:=
 if n0≥(1:Int) then
 some (decide (n0≤(8:Int)))
 else
 some false
theorem Z9 {n0:Int} {v:Bool} (h:H7 n0=some v):Ret Tryz.prog Ng [Af n0] (V.bool v):=by
 refine A5 Alz (Nat.le_of_ble_eq_true rfl) ?_
 unfold H7 at h
 refine Br.od h (fun p1 h=> ?_) (fun p1 h=> ?_)
 ·refine Br.yes<|Br.yes ?_
  cases h;exact (by rfl)
 refine Br.no<|Br.no ?_
 cases h;exact (by rfl)
noncomputable def Cq (p0:List Int):Int→Option (Int ⊕ (Unit ⊕ Unit)):=fun x13=>
 if x13<(↑p0.length:Int) then
 ask ((0:Int)≤x13∧x13<(↑p0.length:Int)) <|
 if nth p0 x13.toNat<(0:Int) then
 some (.inr (.inl ()))
 else
 if nth p0 x13.toNat>x13 then
 some (.inr (.inl ()))
 else
 ask ((0:Int)≤nth p0 x13.toNat∧nth p0 x13.toNat<(↑p0.length:Int)) <|
 if nth p0 (nth p0 x13.toNat).toNat≠nth p0 x13.toNat then
 some (.inr (.inl ()))
 else
 ask (InI (x13+(1:Int))) <|
 some (.inl (x13+(1:Int)))
 else
 some (.inr (.inr ()))
def Ic (p0:List Int):Int→St:=fun s=>[(13,A.val (Af s)),(12,A.val (Af ((↑p0.length:Int)))),(11,A.val ((slr false 1 Af) (p0))),(1,A.val ((slr false 1 Af) (p0)))]
def Mi (_p0:List Int):(Unit ⊕ Unit)→Tgt
 | (.inl _s)=>(Ex.ret,[4],[(4,A.val (V.bool (false)))])
 | (.inr _s)=>((Ex.exit 0),[],[])
theorem Wz {p0:List Int} (x13:Int) (o:Int ⊕ (Unit ⊕ Unit)) (h:Cq p0 x13=some o):vc Tryz.prog Mg (Dl [13,12,11,1] (Ic p0) (Mi p0) o) (Ic p0 x13):=by
 unfold Cq at h
 try dsimp only at h
 refine Br.od h (fun p2 h=> ?_) (fun p2 h=> ?_)
 ·refine Len.map<|Ask.o h fun p3 h=>Elem.o (by first | omega | (simp [Ap] at * <;> omega))<|Br.od h (fun p4 h=> ?_) (fun p4 h=> ?_)
  ·refine Br.yes<|Br.yes<|Br.yes<|Br.yes<|Br.yes<|Br.yes<|Br.yes<|Br.yes<|Br.yes<|Br.yes<|Br.yes ?_
   cases h;exact ⟨rfl,rfl⟩
  refine Br.no<|Br.no<|Br.no<|Br.od h (fun p5 h=> ?_) (fun p5 h=> ?_)
  ·refine Br.yes<|Br.yes<|Br.yes<|Br.yes<|Br.yes<|Br.yes<|Br.yes ?_
   cases h;exact ⟨rfl,rfl⟩
  refine Br.no<|Br.no<|Len.map<|Ask.o h fun p6 h=>Elem.o (by first | omega | (simp [Ap] at * <;> omega))<|Br.no<|Br.no<|Br.no<|Br.no<|Br.on h (fun p7 h=> ?_) (fun p7 h=> ?_)
  ·cases h;exact ⟨rfl,rfl⟩
  refine Ask.o h fun p8 h=> ?_
  cases h;exact ⟨rfl,rfl⟩
 cases h;exact ⟨rfl,rfl⟩
noncomputable def Di (n0:Int) (p0:(List Int)):Option Bool:=
 if (↑p0.length:Int)≠n0 then
 some false
 else
 (Al (Cq p0) (0:Int)).bind fun t=>match t with
 | (.inl _)=>(some false)
 | (.inr _)=>(some true)
theorem Ks {n0:Int} {p0:(List Int)} {v:Bool} (h:Di n0 p0=some v):Ret Tryz.prog F7 [Af n0,(slr false 1 Af) p0] (V.bool v):=by
 refine A5 Abx (Nat.le_of_ble_eq_true rfl) ?_
 unfold Di at h
 refine Len.map<|Br.on h (fun p1 h=> ?_) (fun p1 h=> ?_)
 ·cases h;exact (by rfl)
 refine Len.map<|LoopQ.o [13,12,11,1] (Ic p0) (Mi p0) h (fun s o h=>Wz s o h) (by rfl) (by rintro (_ | _)<;>rfl) ?_
 rintro (⟨⟩ | ⟨⟩) h
 ·try dsimp only at h
  cases h;exact (by rfl)
 try dsimp only at h
 cases h;exact (by rfl)
noncomputable def F1 (p0:List Int):(Int×(List (List Int))×(List Int))→Option ((Int×(List (List Int))×(List Int)) ⊕ (List (List Int))):=fun (x13,x4,x3)=>
 if x13<(↑p0.length:Int) then
 ask ((0:Int)≤x13∧x13<(↑p0.length:Int)) <|
 ((if nth p0 x13.toNat=x13 then
 ask ((0:Int)≤x13∧x13<(↑x3.length:Int)) <|
 ask ((x4).length+([Aw Int]).length≤LIM) <|
 some (x4++[Aw Int],x3.set x13.toNat (↑x4.length:Int))
 else
 some (x4,x3):Option ((List (List Int))×(List Int)))).bind fun (q6_4,q6_3)=>
 ask ((0:Int)≤nth p0 x13.toNat∧nth p0 x13.toNat<(↑q6_3.length:Int)) <|
 ask ((0:Int)≤nth p0 x13.toNat∧nth p0 x13.toNat<(↑q6_3.length:Int)) <|
 ask ((0:Int)≤nth q6_3 (nth p0 x13.toNat).toNat∧nth q6_3 (nth p0 x13.toNat).toNat<(↑q6_4.length:Int)) <|
 ask ((0:Int)≤nth p0 x13.toNat∧nth p0 x13.toNat<(↑q6_3.length:Int)) <|
 ask ((0:Int)≤nth p0 x13.toNat∧nth p0 x13.toNat<(↑q6_3.length:Int)) <|
 ask ((0:Int)≤nth q6_3 (nth p0 x13.toNat).toNat∧nth q6_3 (nth p0 x13.toNat).toNat<(↑q6_4.length:Int)) <|
 ask ((0:Int)≤nth p0 x13.toNat∧nth p0 x13.toNat<(↑q6_3.length:Int)) <|
 ask ((0:Int)≤nth p0 x13.toNat∧nth p0 x13.toNat<(↑q6_3.length:Int)) <|
 ask ((0:Int)≤nth q6_3 (nth p0 x13.toNat).toNat∧nth q6_3 (nth p0 x13.toNat).toNat<(↑q6_4.length:Int)) <|
 ask ((nth q6_4 (nth q6_3 (nth p0 x13.toNat).toNat).toNat).length+([x13]).length≤LIM) <|
 ask ((0:Int)≤nth p0 x13.toNat∧nth p0 x13.toNat<(↑q6_3.length:Int)) <|
 ask ((0:Int)≤nth q6_3 (nth p0 x13.toNat).toNat∧nth q6_3 (nth p0 x13.toNat).toNat<(↑q6_4.length:Int)) <|
 ask (InI (x13+(1:Int))) <|
 some (.inl (x13+(1:Int),q6_4.set (nth q6_3 (nth p0 x13.toNat).toNat).toNat (nth q6_4 (nth q6_3 (nth p0 x13.toNat).toNat).toNat++[x13]),q6_3))
 else
 some (.inr x4)
def K7 (p0:List Int):(Int×(List (List Int))×(List Int))→St:=fun s=>[(13,A.val (Af s.1)),(12,A.val (Af ((↑p0.length:Int)))),(11,A.val ((slr false 1 Af) (p0))),(4,A.val ((slr true 1 (slr true 1 Af)) s.2.1)),(3,A.val ((slr true 1 Af) s.2.2))]
def P8 (_p0:List Int):(List (List Int))→Tgt
 | s=>((Ex.exit 0),[4],[(4,A.val ((slr true 1 (slr true 1 Af)) s))])
theorem Aby {p0:List Int} (s:(Int×(List (List Int))×(List Int))) (o:(Int×(List (List Int))×(List Int)) ⊕ (List (List Int))) (h:F1 p0 s=some o):vc Tryz.prog Qz (Dl [13,12,11,4,3] (K7 p0) (P8 p0) o) (K7 p0 s):=by
 obtain ⟨x13,x4,x3⟩:=s
 unfold F1 at h
 try dsimp only at h
 refine Br.od h (fun p2 h=> ?_) (fun p2 h=> ?_)
 ·refine Len.map<|Ask.o h fun p3 h=>Elem.o (by first | omega | (simp [Ap] at * <;> omega))<|CutQ.o (fun t:((List (List Int))×(List Int))=>match t with | s=>(Ex.normal,[4,6,5,13,12,11,3],[(4,A.val ((slr true 1 (slr true 1 Af)) s.1)),(6,A.val (Af (nth p0 x13.toNat))),(5,A.val (Af (x13))),(13,A.val (Af (x13))),(12,A.val (Af ((↑p0.length:Int)))),(11,A.val ((slr false 1 Af) (p0))),(3,A.val ((slr true 1 Af) s.2))])) h ?_ ?_
  ·intro t h
   refine Br.oe h (fun p4 h=> ?_) (fun p4 h=> ?_)
   ·refine Len.map<|Len.map<|Ask.o h fun p5 h=>SetKids.one (fun _=>⟨rfl,rfl⟩) ((↑x4.length:Int)) (by rfl) (by first | omega | (simp [Ap] at * <;> omega))<|BslQ.o Af (Aw Int) (by exact fun _=>⟨rfl,rfl⟩) (by first | rfl | (simp only [Aa,V.fz,fzL,V.up,upL,Ab,Ac,Ad,slr,List.cons_append,List.nil_append];done) | simp [Aa,V.fz,fzL,V.up,upL,Ab,Ac,Ad,slr])<|BslQ.o (slr true 1 Af) ([Aw Int]) (by exact fun _=>⟨rfl,rfl⟩) (by first | rfl | (simp only [Aa,V.fz,fzL,V.up,upL,Ab,Ac,Ad,slr,List.cons_append,List.nil_append];done) | simp [Aa,V.fz,fzL,V.up,upL,Ab,Ac,Ad,slr])<|NoOwn.own rfl<|AppQ.o (m:=1) (slr true 1 Af) (by exact fun _=>⟨rfl,rfl⟩) (x4) ([Aw Int]) (by rfl) (by rfl) h fun h=> ?_
    cases h;exact ⟨rfl,rfl⟩
   cases h;exact ⟨rfl,rfl⟩
  rintro ⟨q6_4,q6_3⟩ h
  try dsimp only at h
  refine Len.map<|Ask.o h fun p7 h=>Cells.one (fun _=>⟨rfl,rfl⟩) (by first | omega | (simp [Ap] at * <;> omega))<|Len.map<|Ask.o h fun p8 h=>Cells.one (fun _=>⟨rfl,rfl⟩) (by first | omega | (simp [Ap] at * <;> omega))<|Len.map<|Ask.o h fun p9 h=>Cells.one (fun _=>⟨rfl,rfl⟩) (by first | omega | (simp [Ap] at * <;> omega))<|SameQ.mk ⟨rfl,?_⟩
  refine SameQ.mk ⟨rfl,?_⟩
  refine SameQ.mk ⟨rfl,?_⟩
  refine Len.map<|Ask.o h fun p10 h=>SameQ.mk ⟨rfl,?_⟩
  refine Cells.one (fun _=>⟨rfl,rfl⟩) (by first | omega | (simp [Ap] at * <;> omega))<|SameQ.mk ⟨rfl,?_⟩
  refine SameQ.mk ⟨rfl,?_⟩
  refine SameQ.mk ⟨rfl,?_⟩
  refine SameQ.mk ⟨rfl,?_⟩
  refine Len.map<|Ask.o h fun p11 h=>SameQ.mk ⟨rfl,?_⟩
  refine Cells.one (fun _=>⟨rfl,rfl⟩) (by first | omega | (simp [Ap] at * <;> omega))<|SameQ.mk ⟨rfl,?_⟩
  refine Len.map<|Ask.o h fun p12 h=>SameQ.mk ⟨rfl,?_⟩
  refine Cells.one (fun _=>⟨rfl,rfl⟩) (by first | omega | (simp [Ap] at * <;> omega))<|SameQ.mk ⟨rfl,?_⟩
  refine SameQ.mk ⟨rfl,?_⟩
  refine BslQ.o Af [x13] (by exact fun _=>⟨rfl,rfl⟩) (by first | rfl | (simp only [Aa,V.fz,fzL,V.up,upL,Ab,Ac,Ad,slr,List.cons_append,List.nil_append];done) | simp [Aa,V.fz,fzL,V.up,upL,Ab,Ac,Ad,slr])<|SameQ.mk ⟨rfl,?_⟩
  refine SameQ.mk ⟨rfl,?_⟩
  refine SameQ.mk ⟨rfl,?_⟩
  refine Len.map<|Ask.o h fun p13 h=>SameQ.mk ⟨rfl,?_⟩
  refine Cells.one (fun _=>⟨rfl,rfl⟩) (by first | omega | (simp [Ap] at * <;> omega))<|SameQ.mk ⟨rfl,?_⟩
  refine SameQ.mk ⟨rfl,?_⟩
  refine SameQ.mk ⟨rfl,?_⟩
  refine SameQ.mk ⟨rfl,?_⟩
  refine Len.map<|Ask.o h fun p14 h=>SameQ.mk ⟨rfl,?_⟩
  refine Cells.one (fun _=>⟨rfl,rfl⟩) (by first | omega | (simp [Ap] at * <;> omega))<|SameQ.mk ⟨rfl,?_⟩
  refine Len.map<|Ask.o h fun p15 h=>SameQ.mk ⟨rfl,?_⟩
  refine Cells.one (fun _=>⟨rfl,rfl⟩) (by first | omega | (simp [Ap] at * <;> omega))<|SameQ.mk ⟨rfl,?_⟩
  refine NoOwn.o (fun _=>rfl)<|Kid.one (fun _=>⟨rfl,rfl⟩) (by first | omega | (simp [Ap] at * <;> omega))<|Kid.one (fun _=>⟨rfl,rfl⟩) (by first | omega | (simp [Ap] at * <;> omega))<|SetKids.mkhole (fun _=>⟨rfl,rfl⟩) (by first | omega | (simp [Ap] at * <;> omega))<|AppQ.o (m:=1) Af (by exact fun _=>⟨rfl,rfl⟩) (nth q6_4 (nth q6_3 (nth p0 x13.toNat).toNat).toNat) ([x13]) (by rfl) (by rfl) h fun h=>SameQ.mk ⟨rfl,?_⟩
  refine SameQ.mk ⟨rfl,?_⟩
  refine SameQ.mk ⟨rfl,?_⟩
  refine Len.map<|Ask.o h fun p16 h=>SameQ.mk ⟨rfl,?_⟩
  refine Cells.one (fun _=>⟨rfl,rfl⟩) (by first | omega | (simp [Ap] at * <;> omega))<|SameQ.mk ⟨rfl,?_⟩
  refine Len.hole<|Ask.o h fun p17 h=>SetKids.fill (fun _=>⟨rfl,rfl⟩) (nth q6_4 (nth q6_3 (nth p0 x13.toNat).toNat).toNat++[x13]) (by rfl) (by first | omega | (simp [Ap] at * <;> omega))<|Ask.o h fun p18 h=> ?_
  cases h;exact ⟨rfl,rfl⟩
 cases h;exact ⟨rfl,rfl⟩
noncomputable def Hy (p0:(List Int)):Option (List (List Int)):=
 ask ((0:Int)≤(↑p0.length:Int)∧(↑p0.length:Int)≤(↑LIM:Int)) <|
 (Al (F1 p0) ((0:Int),Aw (List Int),List.replicate (↑p0.length:Int).toNat (0:Int))).bind fun q19_4=>
 some q19_4
theorem Ag0 {p0:(List Int)} {v:(List (List Int))} (h:Hy p0=some v):Ret Tryz.prog On [(slr false 1 Af) p0] ((slr true 1 (slr true 1 Af)) v):=by
 refine A5 Ahm (Nat.le_of_ble_eq_true rfl) ?_
 unfold Hy at h
 refine Len.map<|Ask.o h fun p1 h=>MkQ.o Af ((0:Int)) rfl<|BslQ.o (slr true 1 Af) (Aw (List Int)) (by exact fun _=>⟨rfl,rfl⟩) (by first | rfl | (simp only [Aa,V.fz,fzL,V.up,upL,Ab,Ac,Ad,slr,List.cons_append,List.nil_append];done) | simp [Aa,V.fz,fzL,V.up,upL,Ab,Ac,Ad,slr])<|Len.map<|LoopQ.o [13,12,11,4,3] (K7 p0) (P8 p0) h (fun s o h=>Aby s o h) (by rfl) (fun _=>rfl) ?_
 rintro q19_4 h
 try dsimp only at h
 cases h;exact (by rfl)
noncomputable def E6 (c0:Sl1Cur):Option (Int×Sl1Cur):=
 ((if c0.at_<(↑c0.code.length:Int) then
 ask ((0:Int)≤c0.at_∧c0.at_<(↑c0.code.length:Int)) <|
 some (IntKind.i64.wrap (nth c0.code c0.at_.toNat))
 else
 some (0:Int):Option Int)).bind fun q3_3=>
 ask (InI (c0.at_+(1:Int))) <|
 if c0.at_+(1:Int)≤(↑c0.code.length:Int) then
 some (q3_3,{ code:=c0.code,at_:=c0.at_+(1:Int),seed:=IntKind.u64.wrap (IntKind.u64.wrap (IntKind.u64.wrap (c0.seed*(6364136223846793005:Int))+IntKind.u64.wrap q3_3)+(550289:Int)) })
 else
 some (IntKind.i64.wrap (IntKind.u64.wrap (↑(BitVec.ofInt IntKind.u64.bits ((IntKind.u64.wrap (IntKind.u64.wrap (IntKind.u64.wrap (c0.seed*(6364136223846793005:Int))+IntKind.u64.wrap q3_3)+(550289:Int))).fdiv ((2:Int)^min (Int.toNat (40:Int)) IntKind.u64.bits)) &&& BitVec.ofInt IntKind.u64.bits (255:Int)).toNat:Int)),{ code:=c0.code,at_:=c0.at_+(1:Int),seed:=IntKind.u64.wrap (IntKind.u64.wrap (IntKind.u64.wrap (c0.seed*(6364136223846793005:Int))+IntKind.u64.wrap q3_3)+(550289:Int)) })
theorem S6 {c0:Sl1Cur} {v:(Int×Sl1Cur)} (h:E6 c0=some v):Zi Tryz.prog Ij [(rP true (Au false)) c0] (Af v.1) 0 ((rP true (Au false)) v.2):=by
 refine Wc Ab7 (Nat.le_of_ble_eq_true rfl) ?_
 unfold E6 at h
 refine CutQ.o (fun t:Int=>match t with | s=>(Ex.normal,[3,0,62],[(3,A.val (Af s)),(0,A.ref 62 []),(62,A.val ((rP true (Au false)) (c0)))])) h ?_ ?_
 ·intro t h
  refine Cells.lit rfl rfl<|Cells.lit rfl rfl<|Len.map<|Br.od h (fun p1 h=> ?_) (fun p1 h=> ?_)
  ·refine Cells.lit rfl rfl<|Cells.lit rfl rfl<|Len.map<|Ask.o h fun p2 h=>Elem.o (by first | omega | (simp [Ap] at * <;> omega)) ?_
   cases h;exact ⟨rfl,rfl⟩
  cases h;exact ⟨rfl,rfl⟩
 rintro q3_3 h
 try dsimp only at h
 refine Cells.lit rfl rfl<|Ask.o h fun p4 h=>SetKids.lit rfl<|Cells.lit rfl rfl<|SetKids.lit rfl<|Cells.lit rfl rfl<|Cells.lit rfl rfl<|Len.map<|Br.od h (fun p5 h=> ?_) (fun p5 h=> ?_)
 ·cases h;exact ⟨(by rfl),(by rfl)⟩
 refine Cells.lit rfl rfl ?_
 cases h;exact ⟨(by rfl),(by rfl)⟩
noncomputable def Jf (list0:(List Int)):Option (List Int):=
 ask ((Aw Int).length+(list0).length≤LIM) <|
 some (Aw Int++list0)
theorem Adj {list0:(List Int)} {v:(List Int)} (h:Jf list0=some v):Ret Tryz.prog Pv [(slr false 1 Af) list0] ((slr true 1 Af) v):=by
 refine A5 Aom (Nat.le_of_ble_eq_true rfl) ?_
 unfold Jf at h
 refine BslQ.o Af (Aw Int) (by exact fun _=>⟨rfl,rfl⟩) (by first | rfl | (simp only [Aa,V.fz,fzL,V.up,upL,Ab,Ac,Ad,slr,List.cons_append,List.nil_append];done) | simp [Aa,V.fz,fzL,V.up,upL,Ab,Ac,Ad,slr])<|AppQ.o (m:=1) Af (by exact fun _=>⟨rfl,rfl⟩) (Aw Int) (list0) (by rfl) (by rfl) h fun h=> ?_
 cases h;exact (by rfl)
noncomputable def Fe (n0:Int):(Int×Int)→Option ((Int×Int) ⊕ Int):=fun (x5,x1)=>
 if x1>(0:Int) then
 ask (InI (x5*n0)) <|
 ask (InI (x1-(1:Int))) <|
 some (.inl (x5*n0,x1-(1:Int)))
 else
 some (.inr x5)
def Oo (n0:Int):(Int×Int)→St:=fun s=>[(5,A.val (Af s.1)),(0,A.val (Af (n0))),(1,A.val (Af s.2))]
def Wk (_n0:Int):Int→Tgt
 | s=>((Ex.exit 0),[5],[(5,A.val (Af s))])
theorem Ahf {n0:Int} (s:(Int×Int)) (o:(Int×Int) ⊕ Int) (h:Fe n0 s=some o):vc Tryz.prog Wi (Dl [5,0,1] (Oo n0) (Wk n0) o) (Oo n0 s):=by
 obtain ⟨x5,x1⟩:=s
 unfold Fe at h
 try dsimp only at h
 refine Br.od h (fun p1 h=> ?_) (fun p1 h=> ?_)
 ·refine Ask.o h fun p2 h=>Ask.o h fun p3 h=> ?_
  cases h;exact ⟨rfl,rfl⟩
 cases h;exact ⟨rfl,rfl⟩
noncomputable def Jd (n0:Int) (k0:Int):Option Int:=
 (Al (Fe n0) ((1:Int),k0)).bind fun q4_5=>
 some q4_5
theorem Apo {n0:Int} {k0:Int} {v:Int} (h:Jd n0 k0=some v):Ret Tryz.prog Vv [Af n0,Af k0] (Af v):=by
 refine A5 Ap5 (Nat.le_of_ble_eq_true rfl) ?_
 unfold Jd at h
 refine LoopQ.o [5,0,1] (Oo n0) (Wk n0) h (fun s o h=>Ahf s o h) (by rfl) (fun _=>rfl) ?_
 rintro q4_5 h
 try dsimp only at h
 cases h;exact (by rfl)
noncomputable def Fh (list0:List Int):(Int×(List Int))→Option ((Int×(List Int)) ⊕ (List Int)):=fun (x12,x3)=>
 if x12<(↑list0.length:Int) then
 ask ((0:Int)≤x12∧x12<(↑list0.length:Int)) <|
 ask ((x3).length+([IntKind.u8.wrap ((nth list0 x12.toNat).fdiv ((2:Int)^min (Int.toNat (8:Int)) IntKind.i64.bits)),IntKind.u8.wrap (nth list0 x12.toNat)]).length≤LIM) <|
 ask (InI (x12+(1:Int))) <|
 some (.inl (x12+(1:Int),x3++[IntKind.u8.wrap ((nth list0 x12.toNat).fdiv ((2:Int)^min (Int.toNat (8:Int)) IntKind.i64.bits)),IntKind.u8.wrap (nth list0 x12.toNat)]))
 else
 some (.inr x3)
def Ol (list0:List Int):(Int×(List Int))→St:=fun s=>[(12,A.val (Af s.1)),(11,A.val (Af ((↑list0.length:Int)))),(10,A.val ((slr false 1 Af) (list0))),(3,A.val ((slr true 1 (V.int IntKind.u8)) s.2))]
def Wo (_list0:List Int):(List Int)→Tgt
 | s=>((Ex.exit 0),[3],[(3,A.val ((slr true 1 (V.int IntKind.u8)) s))])
theorem Agu {list0:List Int} (s:(Int×(List Int))) (o:(Int×(List Int)) ⊕ (List Int)) (h:Fh list0 s=some o):vc Tryz.prog Wg (Dl [12,11,10,3] (Ol list0) (Wo list0) o) (Ol list0 s):=by
 obtain ⟨x12,x3⟩:=s
 unfold Fh at h
 try dsimp only at h
 refine Br.od h (fun p3 h=> ?_) (fun p3 h=> ?_)
 ·refine Len.map<|Ask.o h fun p4 h=>Elem.o (by first | omega | (simp [Ap] at * <;> omega))<|BslQ.o (V.int IntKind.u8) ([IntKind.u8.wrap ((nth list0 x12.toNat).fdiv ((2:Int)^min (Int.toNat (8:Int)) IntKind.i64.bits)),IntKind.u8.wrap (nth list0 x12.toNat)]) (by exact fun _=>⟨rfl,rfl⟩) (by first | rfl | (simp only [Aa,V.fz,fzL,V.up,upL,Ab,Ac,Ad,slr,List.cons_append,List.nil_append];done) | simp [Aa,V.fz,fzL,V.up,upL,Ab,Ac,Ad,slr])<|NoOwn.o (fun _=>rfl)<|AppQ.o (m:=1) (V.int IntKind.u8) (by exact fun _=>⟨rfl,rfl⟩) (x3) ([IntKind.u8.wrap ((nth list0 x12.toNat).fdiv ((2:Int)^min (Int.toNat (8:Int)) IntKind.i64.bits)),IntKind.u8.wrap (nth list0 x12.toNat)]) (by rfl) (by rfl) h fun h=>Ask.o h fun p5 h=> ?_
  cases h;exact ⟨rfl,rfl⟩
 cases h;exact ⟨rfl,rfl⟩
noncomputable def Je (list0:(List Int)):Option ByteArray:=
 ask (InI ((2:Int)*(↑list0.length:Int))) <|
 ask ((0:Int)≤(2:Int)*(↑list0.length:Int)∧(2:Int)*(↑list0.length:Int)≤(↑LIM:Int)) <|
 (Al (Fh list0) ((0:Int),Aw Int)).bind fun q6_3=>
 some (Wp q6_3)
theorem Ad1 {list0:(List Int)} {v:ByteArray} (h:Je list0=some v):Ret Tryz.prog Pk [(slr false 1 Af) list0] (V.str v):=by
 refine A5 Aop (Nat.le_of_ble_eq_true rfl) ?_
 unfold Je at h
 refine Len.map<|Ask.o h fun p1 h=>Ask.o h fun p2 h=>Len.map<|LoopQ.o [12,11,10,3] (Ol list0) (Wo list0) h (fun s o h=>Agu s o h) (by rfl) (fun _=>rfl) ?_
 rintro q6_3 h
 try dsimp only at h
 refine BsQ.o q6_3 (by rfl) ?_
 cases h;exact (by rfl)
end Go.Proofs.YtjcekpmojnnmbaaGreat.Ax
