/-
 What the functions compute, as functions on plain data, and that the program does compute it; written by program.
-/
import Derived.Test.YtpfikenknmlajaaCode
namespace Go.Proofs.Ytpfikenknmlajaa.Ax
open Go
set_option maxRecDepth 100000
set_option maxHeartbeats 4000000
noncomputable def Da (o0:List (List Bool)) (x11:Int) (_x3:SPoset):(Int×(List Int))→Option ((Int×(List Int)) ⊕ (List Int)):=fun (x17,x5)=>
 if x17<(↑o0.length:Int) then
 ask ((0:Int)≤x17∧x17<(↑o0.length:Int)) <|
 ask ((0:Int)≤x11∧x11<(↑(nth o0 x17.toNat).length:Int)) <|
 if (nth (nth o0 x17.toNat) x11.toNat)=true then
 ask ((x5).length+([x17]).length≤LIM) <|
 ask (InI (x17+(1:Int))) <|
 some (.inl (x17+(1:Int),x5++[x17]))
 else
 ask (InI (x17+(1:Int))) <|
 some (.inl (x17+(1:Int),x5))
 else
 some (.inr x5)
def Kg (o0:List (List Bool)) (x11:Int) (x3:SPoset):(Int×(List Int))→St:=fun s=>[(17,A.val (Af s.1)),(16,A.val (Af ((↑o0.length:Int)))),(5,A.val ((slr true 1 Af) s.2)),(4,A.val (Af (x11))),(11,A.val (Af (x11))),(10,A.val (Af ((↑o0.length:Int)))),(3,A.val ((rP true (Ag true)) (x3))),(2,A.val ((rP true (Ag true)) ({ Below:=Ar (List Int) }))),(0,A.val ((slr false 1 (slr false 1 V.bool)) (o0)))]
def Qq (o0:List (List Bool)) (x11:Int) (x3:SPoset):(List Int)→Tgt
 | s=>((Ex.exit 2),[5,11,10,3,2,0],[(5,A.val ((slr true 1 Af) s)),(11,A.val (Af (x11))),(10,A.val (Af ((↑o0.length:Int)))),(3,A.val ((rP true (Ag true)) (x3))),(2,A.val ((rP true (Ag true)) ({ Below:=Ar (List Int) }))),(0,A.val ((slr false 1 (slr false 1 V.bool)) (o0)))])
theorem Abm {o0:List (List Bool)} {x11:Int} {x3:SPoset} (s:(Int×(List Int))) (o:(Int×(List Int)) ⊕ (List Int)) (h:Da o0 x11 x3 s=some o):vc Try.prog Qf (Cc [17,16,5,4,11,10,3,2,0] (Kg o0 x11 x3) (Qq o0 x11 x3) o) (Kg o0 x11 x3 s):=by
 obtain ⟨x17,x5⟩:=s
 unfold Da at h
 try dsimp only at h
 refine Br.od h (fun p2 h=> ?_) (fun p2 h=> ?_)
 ·refine Len.map<|Ask.o h fun p3 h=>Elem.o (by first | omega | (simp [Ak] at * <;> omega))<|Len.map<|Ask.o h fun p4 h=>Elem.o (by first | omega | (simp [Ak] at * <;> omega))<|Br.ob h (fun p5 h=> ?_) (fun p5 h=> ?_)
  ·refine BslQ.o Af [x17] (by exact fun _=>⟨rfl,rfl⟩) (by first | rfl | (simp only [Aa,V.fz,fzL,V.up,upL,Ab,Ac,Ad,slr,List.cons_append,List.nil_append];done) | simp [Aa,V.fz,fzL,V.up,upL,Ab,Ac,Ad,slr])<|NoOwn.o (fun _=>rfl)<|AppQ.o (m:=1) Af (by exact fun _=>⟨rfl,rfl⟩) (x5) ([x17]) (by rfl) (by rfl) h fun h=>Ask.o h fun p6 h=> ?_
   cases h;exact ⟨rfl,rfl⟩
  refine Ask.o h fun p7 h=> ?_
  cases h;exact ⟨rfl,rfl⟩
 cases h;exact ⟨rfl,rfl⟩
noncomputable def Db (o0:List (List Bool)):(Int×SPoset)→Option ((Int×SPoset) ⊕ SPoset):=fun (x11,x3)=>
 if x11<(↑o0.length:Int) then
 (Aj (Da o0 x11 x3) ((0:Int),Ar Int)).bind fun q8_5=>
 ask ((x3.Below).length+([q8_5]).length≤LIM) <|
 ask (InI (x11+(1:Int))) <|
 some (.inl (x11+(1:Int),{ Below:=x3.Below++[q8_5] }))
 else
 some (.inr x3)
def Ka (o0:List (List Bool)):(Int×SPoset)→St:=fun s=>[(11,A.val (Af s.1)),(10,A.val (Af ((↑o0.length:Int)))),(3,A.val ((rP true (Ag true)) s.2)),(2,A.val ((rP true (Ag true)) ({ Below:=Ar (List Int) }))),(0,A.val ((slr false 1 (slr false 1 V.bool)) (o0)))]
def Qo (_o0:List (List Bool)):SPoset→Tgt
 | s=>((Ex.exit 0),[3,2],[(3,A.val ((rP true (Ag true)) s)),(2,A.val ((rP true (Ag true)) ({ Below:=Ar (List Int) })))])
theorem Abr {o0:List (List Bool)} (s:(Int×SPoset)) (o:(Int×SPoset) ⊕ SPoset) (h:Db o0 s=some o):vc Try.prog Qj (Cc [11,10,3,2,0] (Ka o0) (Qo o0) o) (Ka o0 s):=by
 obtain ⟨x11,x3⟩:=s
 unfold Db at h
 try dsimp only at h
 refine Br.od h (fun p1 h=> ?_) (fun p1 h=> ?_)
 ·refine BslQ.o Af (Ar Int) (by exact fun _=>⟨rfl,rfl⟩) (by first | rfl | (simp only [Aa,V.fz,fzL,V.up,upL,Ab,Ac,Ad,slr,List.cons_append,List.nil_append];done) | simp [Aa,V.fz,fzL,V.up,upL,Ab,Ac,Ad,slr])<|Len.map<|LoopQ.o [17,16,5,4,11,10,3,2,0] (Kg o0 x11 x3) (Qq o0 x11 x3) h (fun s o h=>Abm s o h) (by rfl) (fun _=>rfl) ?_
  rintro q8_5 h
  try dsimp only at h
  refine Cells.lit rfl rfl<|BslQ.o (slr true 1 Af) [q8_5] (by exact fun _=>⟨rfl,rfl⟩) (by first | rfl | (simp only [Aa,V.fz,fzL,V.up,upL,Ab,Ac,Ad,slr,List.cons_append,List.nil_append];done) | simp [Aa,V.fz,fzL,V.up,upL,Ab,Ac,Ad,slr])<|NoOwn.own rfl<|Kid.lit rfl rfl<|Kid.lit rfl rfl<|SetKids.lit rfl<|AppQ.o (m:=1) (slr true 1 Af) (by exact fun _=>⟨rfl,rfl⟩) (x3.Below) ([q8_5]) (by rfl) (by rfl) h fun h=>SetKids.lit rfl<|Ask.o h fun p9 h=> ?_
  cases h;exact ⟨rfl,rfl⟩
 cases h;exact ⟨rfl,rfl⟩
noncomputable def F1 (o0:(List (List Bool))):Option SPoset:=
 (Aj (Db o0) ((0:Int),{ Below:=Ar (List Int) })).bind fun q10_3=>
 some q10_3
theorem Uh {o0:(List (List Bool))} {v:SPoset} (h:F1 o0=some v):Ret Try.prog Jq [(slr false 1 (slr false 1 V.bool)) o0] ((Ag true) v):=by
 refine A6 Ae6 (Nat.le_of_ble_eq_true rfl) ?_
 unfold F1 at h
 refine BslQ.o (slr true 1 Af) (Ar (List Int)) (by exact fun _=>⟨rfl,rfl⟩) (by first | rfl | (simp only [Aa,V.fz,fzL,V.up,upL,Ab,Ac,Ad,slr,List.cons_append,List.nil_append];done) | simp [Aa,V.fz,fzL,V.up,upL,Ab,Ac,Ad,slr])<|SetKids.lit rfl<|Len.map<|LoopQ.o [11,10,3,2,0] (Ka o0) (Qo o0) h (fun s o h=>Abr s o h) (by rfl) (fun _=>rfl) ?_
 rintro q10_3 h
 try dsimp only at h
 refine Cells.lit rfl rfl<|SetKids.lit rfl ?_
 cases h;exact (by rfl)
noncomputable def Ft (o0:List (List Bool)) (so0:Int→Option Bool):(Int×(List Int))→Option ((Int×(List Int)) ⊕ (List Int)):=fun (x10,x5)=>
 if x10<(↑o0.length:Int) then
 (so0 (x10)).bind fun r2=>
 if (r2)=true then
 ask ((x5).length+([x10]).length≤LIM) <|
 ask (InI (x10+(1:Int))) <|
 some (.inl (x10+(1:Int),x5++[x10]))
 else
 ask (InI (x10+(1:Int))) <|
 some (.inl (x10+(1:Int),x5))
 else
 some (.inr x5)
def Ki (o0:List (List Bool)) (f_so0:Nat) (c_so0:List V):(Int×(List Int))→St:=fun s=>[(10,A.val (Af s.1)),(9,A.val (Af ((↑o0.length:Int)))),(5,A.val ((slr true 1 Af) s.2)),(1,A.val (V.fclo f_so0 c_so0))]
def Qh (_o0:List (List Bool)) (_f_so0:Nat) (_c_so0:List V):(List Int)→Tgt
 | s=>((Ex.exit 0),[5],[(5,A.val ((slr true 1 Af) s))])
theorem Abo {o0:List (List Bool)} {so0:Int→Option Bool} {f_so0:Nat} {c_so0:List V} (h_so0 : ∀w_0 v,so0 w_0=some v→Ret Try.prog f_so0 ([Af w_0]++fzL c_so0) (V.bool v)) (s:(Int×(List Int))) (o:(Int×(List Int)) ⊕ (List Int)) (h:Ft o0 so0 s=some o):vc Try.prog Qm (Cc [10,9,5,1] (Ki o0 f_so0 c_so0) (Qh o0 f_so0 c_so0) o) (Ki o0 f_so0 c_so0 s):=by
 obtain ⟨x10,x5⟩:=s
 unfold Ft at h
 try dsimp only at h
 refine Br.od h (fun p1 h=> ?_) (fun p1 h=> ?_)
 ·refine CloQ.o V.bool (by rfl) (fun _=>by first | rfl | simp [Ea,V.noFz,Ct,Cu,NoFz.eq]) h (fun r h=>h_so0 _ _ h) (fun r2 h=> ?_)
  refine Br.ob h (fun p3 h=> ?_) (fun p3 h=> ?_)
  ·refine BslQ.o Af [x10] (by exact fun _=>⟨rfl,rfl⟩) (by first | rfl | (simp only [Aa,V.fz,fzL,V.up,upL,Ab,Ac,Ad,slr,List.cons_append,List.nil_append];done) | simp [Aa,V.fz,fzL,V.up,upL,Ab,Ac,Ad,slr])<|NoOwn.o (fun _=>rfl)<|AppQ.o (m:=1) Af (by exact fun _=>⟨rfl,rfl⟩) (x5) ([x10]) (by rfl) (by rfl) h fun h=>Ask.o h fun p4 h=> ?_
   cases h;exact ⟨rfl,rfl⟩
  refine Ask.o h fun p5 h=> ?_
  cases h;exact ⟨rfl,rfl⟩
 cases h;exact ⟨rfl,rfl⟩
noncomputable def Ej (o0:(List (List Bool))) (so0:(Int→Option Bool)):Option (List Int):=
 (Aj (Ft o0 so0) ((0:Int),Ar Int)).bind fun q6_5=>
 some q6_5
theorem M2 {o0:(List (List Bool))} {so0:(Int→Option Bool)} {f_so0:Nat} {c_so0:List V} (h_so0 : ∀w_0 v,so0 w_0=some v→Ret Try.prog f_so0 ([Af w_0]++fzL c_so0) (V.bool v)) {v:(List Int)} (h:Ej o0 so0=some v):Ret Try.prog Hr [(slr false 1 (slr false 1 V.bool)) o0,V.fclo f_so0 c_so0] ((slr true 1 Af) v):=by
 refine A6 Ae1 (Nat.le_of_ble_eq_true rfl) ?_
 unfold Ej at h
 refine BslQ.o Af (Ar Int) (by exact fun _=>⟨rfl,rfl⟩) (by first | rfl | (simp only [Aa,V.fz,fzL,V.up,upL,Ab,Ac,Ad,slr,List.cons_append,List.nil_append];done) | simp [Aa,V.fz,fzL,V.up,upL,Ab,Ac,Ad,slr])<|Len.map<|LoopQ.o [10,9,5,1] (Ki o0 f_so0 c_so0) (Qh o0 f_so0 c_so0) h (fun s o h=>Abo h_so0 s o h) (by rfl) (fun _=>rfl) ?_
 rintro q6_5 h
 try dsimp only at h
 cases h;exact (by rfl)
noncomputable def Gu (l0:List Int) (n0:Int):Int→Option (Int ⊕ (Unit ⊕ Unit)):=fun x5=>
 if x5<(↑l0.length:Int) then
 ask ((0:Int)≤x5∧x5<(↑l0.length:Int)) <|
 if nth l0 x5.toNat=n0 then
 some (.inr (.inl ()))
 else
 ask (InI (x5+(1:Int))) <|
 some (.inl (x5+(1:Int)))
 else
 some (.inr (.inr ()))
def Sj (l0:List Int) (n0:Int):Int→St:=fun s=>[(5,A.val (Af s)),(0,A.val ((slr false 1 Af) (l0))),(1,A.val (Af (n0)))]
def Abd (_l0:List Int) (_n0:Int):(Unit ⊕ Unit)→Tgt
 | (.inl _s)=>(Ex.ret,[4],[(4,A.val (V.bool (true)))])
 | (.inr _s)=>((Ex.exit 0),[],[])
theorem Als {l0:List Int} {n0:Int} (x5:Int) (o:Int ⊕ (Unit ⊕ Unit)) (h:Gu l0 n0 x5=some o):vc Try.prog Abb (Cc [5,0,1] (Sj l0 n0) (Abd l0 n0) o) (Sj l0 n0 x5):=by
 unfold Gu at h
 try dsimp only at h
 refine Len.map<|Br.od h (fun p1 h=> ?_) (fun p1 h=> ?_)
 ·refine Len.map<|Ask.o h fun p2 h=>Elem.o (by first | omega | (simp [Ak] at * <;> omega))<|Br.oe h (fun p3 h=> ?_) (fun p3 h=> ?_)
  ·cases h;exact ⟨rfl,rfl⟩
  refine Ask.o h fun p4 h=> ?_
  cases h;exact ⟨rfl,rfl⟩
 cases h;exact ⟨rfl,rfl⟩
noncomputable def Ii (l0:(List Int)) (n0:Int):Option Bool:=
 (Aj (Gu l0 n0) (0:Int)).bind fun t=>match t with
 | (.inl _)=>(some true)
 | (.inr _)=>(some false)
theorem Tc {l0:(List Int)} {n0:Int} {v:Bool} (h:Ii l0 n0=some v):Ret Try.prog L4 [(slr false 1 Af) l0,Af n0] (V.bool v):=by
 refine A6 Asc (Nat.le_of_ble_eq_true rfl) ?_
 unfold Ii at h
 refine LoopQ.o [5,0,1] (Sj l0 n0) (Abd l0 n0) h (fun s o h=>Als s o h) (by rfl) (by rintro (_ | _)<;>rfl) ?_
 rintro (⟨⟩ | ⟨⟩) h
 ·try dsimp only at h
  cases h;exact (by rfl)
 try dsimp only at h
 cases h;exact (by rfl)
noncomputable def Ec (list0:List Int):Int→Option (Int ⊕ (Unit ⊕ Unit)):=fun x3=>
 if x3<(↑list0.length:Int) then
 ask (InI (x3-(1:Int))) <|
 ask ((0:Int)≤x3-(1:Int)∧x3-(1:Int)<(↑list0.length:Int)) <|
 ask ((0:Int)≤x3∧x3<(↑list0.length:Int)) <|
 if nth list0 (x3-(1:Int)).toNat≥nth list0 x3.toNat then
 some (.inr (.inl ()))
 else
 ask (InI (x3+(1:Int))) <|
 some (.inl (x3+(1:Int)))
 else
 some (.inr (.inr ()))
def Si (list0:List Int):Int→St:=fun s=>[(3,A.val (Af s)),(0,A.val ((slr false 1 Af) (list0)))]
def Aa8 (_list0:List Int):(Unit ⊕ Unit)→Tgt
 | (.inl _s)=>(Ex.ret,[2],[(2,A.val (V.bool (false)))])
 | (.inr _s)=>((Ex.exit 0),[],[])
theorem Al6 {list0:List Int} (x3:Int) (o:Int ⊕ (Unit ⊕ Unit)) (h:Ec list0 x3=some o):vc Try.prog Aa5 (Cc [3,0] (Si list0) (Aa8 list0) o) (Si list0 x3):=by
 unfold Ec at h
 try dsimp only at h
 refine Len.map<|Br.od h (fun p1 h=> ?_) (fun p1 h=> ?_)
 ·refine Ask.o h fun p2 h=>Len.map<|Ask.o h fun p3 h=>Elem.o (by first | omega | (simp [Ak] at * <;> omega))<|Len.map<|Ask.o h fun p4 h=>Elem.o (by first | omega | (simp [Ak] at * <;> omega))<|Br.od h (fun p5 h=> ?_) (fun p5 h=> ?_)
  ·cases h;exact ⟨rfl,rfl⟩
  refine Ask.o h fun p6 h=> ?_
  cases h;exact ⟨rfl,rfl⟩
 cases h;exact ⟨rfl,rfl⟩
noncomputable def Nz (list0:(List Int)):Option Bool:=
 (Aj (Ec list0) (1:Int)).bind fun t=>match t with
 | (.inl _)=>(some false)
 | (.inr _)=>(some true)
theorem As8 {list0:(List Int)} {v:Bool} (h:Nz list0=some v):Ret Try.prog Aaq [(slr false 1 Af) list0] (V.bool v):=by
 refine A6 Atl (Nat.le_of_ble_eq_true rfl) ?_
 unfold Nz at h
 refine LoopQ.o [3,0] (Si list0) (Aa8 list0) h (fun s o h=>Al6 s o h) (by rfl) (by rintro (_ | _)<;>rfl) ?_
 rintro (⟨⟩ | ⟨⟩) h
 ·try dsimp only at h
  cases h;exact (by rfl)
 try dsimp only at h
 cases h;exact (by rfl)
noncomputable def F3 (list0:List Int) (n0:Int):Int→Option (Int ⊕ (Unit ⊕ Unit)):=fun x9=>
 if x9<(↑list0.length:Int) then
 ask ((0:Int)≤x9∧x9<(↑list0.length:Int)) <|
 if nth list0 x9.toNat<(0:Int) then
 some (.inr (.inl ()))
 else
 if nth list0 x9.toNat≥n0 then
 some (.inr (.inl ()))
 else
 ask (InI (x9+(1:Int))) <|
 some (.inl (x9+(1:Int)))
 else
 some (.inr (.inr ()))
def Qx (list0:List Int) (n0:Int):Int→St:=fun s=>[(9,A.val (Af s)),(8,A.val (Af ((↑list0.length:Int)))),(7,A.val ((slr false 1 Af) (list0))),(1,A.val (Af (n0)))]
def Y8 (_list0:List Int) (_n0:Int):(Unit ⊕ Unit)→Tgt
 | (.inl _s)=>(Ex.ret,[4],[(4,A.val (V.bool (false)))])
 | (.inr _s)=>((Ex.exit 0),[],[])
theorem Aj2 {list0:List Int} {n0:Int} (x9:Int) (o:Int ⊕ (Unit ⊕ Unit)) (h:F3 list0 n0 x9=some o):vc Try.prog Yy (Cc [9,8,7,1] (Qx list0 n0) (Y8 list0 n0) o) (Qx list0 n0 x9):=by
 unfold F3 at h
 try dsimp only at h
 refine Br.od h (fun p1 h=> ?_) (fun p1 h=> ?_)
 ·refine Len.map<|Ask.o h fun p2 h=>Elem.o (by first | omega | (simp [Ak] at * <;> omega))<|Br.od h (fun p3 h=> ?_) (fun p3 h=> ?_)
  ·refine Br.yes<|Br.yes<|Br.yes<|Br.yes ?_
   cases h;exact ⟨rfl,rfl⟩
  refine Br.no<|Br.no<|Br.no<|Br.od h (fun p4 h=> ?_) (fun p4 h=> ?_)
  ·cases h;exact ⟨rfl,rfl⟩
  refine Ask.o h fun p5 h=> ?_
  cases h;exact ⟨rfl,rfl⟩
 cases h;exact ⟨rfl,rfl⟩
noncomputable def J7 (list0:(List Int)) (n0:Int):Option Bool:=
 (Aj (F3 list0 n0) (0:Int)).bind fun t=>match t with
 | (.inl _)=>(some false)
 | (.inr _)=>(some true)
theorem Aen {list0:(List Int)} {n0:Int} {v:Bool} (h:J7 list0 n0=some v):Ret Try.prog Rk [(slr false 1 Af) list0,Af n0] (V.bool v):=by
 refine A6 Apz (Nat.le_of_ble_eq_true rfl) ?_
 unfold J7 at h
 refine Len.map<|LoopQ.o [9,8,7,1] (Qx list0 n0) (Y8 list0 n0) h (fun s o h=>Aj2 s o h) (by rfl) (by rintro (_ | _)<;>rfl) ?_
 rintro (⟨⟩ | ⟨⟩) h
 ·try dsimp only at h
  cases h;exact (by rfl)
 try dsimp only at h
 cases h;exact (by rfl)
noncomputable def Ha (bits0:Int):(Int×(List Int))→Option ((Int×(List Int)) ⊕ (List Int)):=fun (x4,x3)=>
 ask ((0:Int)≤x4) <|
 if Adn bits0 x4>(0:Int) then
 ask ((0:Int)≤x4) <|
 if Ahh (Adn bits0 x4) (1:Int)=(1:Int) then
 ask ((x3).length+([x4]).length≤LIM) <|
 ask (InI (x4+(1:Int))) <|
 some (.inl (x4+(1:Int),x3++[x4]))
 else
 ask (InI (x4+(1:Int))) <|
 some (.inl (x4+(1:Int),x3))
 else
 some (.inr x3)
def Q6 (bits0:Int):(Int×(List Int))→St:=fun s=>[(4,A.val (Af s.1)),(3,A.val ((slr true 1 Af) s.2)),(0,A.val (Af (bits0)))]
def X9 (_bits0:Int):(List Int)→Tgt
 | s=>((Ex.exit 0),[3],[(3,A.val ((slr true 1 Af) s))])
theorem Ajo {bits0:Int} (s:(Int×(List Int))) (o:(Int×(List Int)) ⊕ (List Int)) (h:Ha bits0 s=some o):vc Try.prog Zc (Cc [4,3,0] (Q6 bits0) (X9 bits0) o) (Q6 bits0 s):=by
 obtain ⟨x4,x3⟩:=s
 unfold Ha at h
 try dsimp only at h
 refine Ask.o h fun p1 h=>Br.od h (fun p2 h=> ?_) (fun p2 h=> ?_)
 ·refine Ask.o h fun p3 h=>Br.oe h (fun p4 h=> ?_) (fun p4 h=> ?_)
  ·refine BslQ.o Af [x4] (by exact fun _=>⟨rfl,rfl⟩) (by first | rfl | (simp only [Aa,V.fz,fzL,V.up,upL,Ab,Ac,Ad,slr,List.cons_append,List.nil_append];done) | simp [Aa,V.fz,fzL,V.up,upL,Ab,Ac,Ad,slr])<|NoOwn.o (fun _=>rfl)<|AppQ.o (m:=1) Af (by exact fun _=>⟨rfl,rfl⟩) (x3) ([x4]) (by rfl) (by rfl) h fun h=>Ask.o h fun p5 h=> ?_
   cases h;exact ⟨rfl,rfl⟩
  refine Ask.o h fun p6 h=> ?_
  cases h;exact ⟨rfl,rfl⟩
 cases h;exact ⟨rfl,rfl⟩
noncomputable def Mo (bits0:Int):Option (List Int):=
 (Aj (Ha bits0) ((0:Int),Ar Int)).bind fun q7_3=>
 some q7_3
theorem Aqe {bits0:Int} {v:(List Int)} (h:Mo bits0=some v):Ret Try.prog Xh [Af bits0] ((slr true 1 Af) v):=by
 refine A6 Aqn (Nat.le_of_ble_eq_true rfl) ?_
 unfold Mo at h
 refine BslQ.o Af (Ar Int) (by exact fun _=>⟨rfl,rfl⟩) (by first | rfl | (simp only [Aa,V.fz,fzL,V.up,upL,Ab,Ac,Ad,slr,List.cons_append,List.nil_append];done) | simp [Aa,V.fz,fzL,V.up,upL,Ab,Ac,Ad,slr])<|LoopQ.o [4,3,0] (Q6 bits0) (X9 bits0) h (fun s o h=>Ajo s o h) (by rfl) (fun _=>rfl) ?_
 rintro q7_3 h
 try dsimp only at h
 cases h;exact (by rfl)
noncomputable def F0 (a0:List Int) (b0:List Int):Int→Option (Int ⊕ (Bool ⊕ Unit)):=fun x5=>
 if x5<(↑a0.length:Int) then
 ask ((0:Int)≤x5∧x5<(↑a0.length:Int)) <|
 ask ((0:Int)≤x5∧x5<(↑b0.length:Int)) <|
 if nth a0 x5.toNat≠nth b0 x5.toNat then
 ask ((0:Int)≤x5∧x5<(↑a0.length:Int)) <|
 ask ((0:Int)≤x5∧x5<(↑b0.length:Int)) <|
 some (.inr (.inl (decide (nth a0 x5.toNat<nth b0 x5.toNat))))
 else
 ask (InI (x5+(1:Int))) <|
 some (.inl (x5+(1:Int)))
 else
 some (.inr (.inr ()))
def Rc (a0:List Int) (b0:List Int):Int→St:=fun s=>[(5,A.val (Af s)),(0,A.val ((slr false 1 Af) (a0))),(1,A.val ((slr false 1 Af) (b0)))]
def Yq (_a0:List Int) (_b0:List Int):(Bool ⊕ Unit)→Tgt
 | (.inl s)=>(Ex.ret,[4],[(4,A.val (V.bool s))])
 | (.inr _s)=>((Ex.exit 0),[],[])
theorem Aj3 {a0:List Int} {b0:List Int} (x5:Int) (o:Int ⊕ (Bool ⊕ Unit)) (h:F0 a0 b0 x5=some o):vc Try.prog X6 (Cc [5,0,1] (Rc a0 b0) (Yq a0 b0) o) (Rc a0 b0 x5):=by
 unfold F0 at h
 try dsimp only at h
 refine Len.map<|Br.od h (fun p1 h=> ?_) (fun p1 h=> ?_)
 ·refine Len.map<|Ask.o h fun p2 h=>Elem.o (by first | omega | (simp [Ak] at * <;> omega))<|Len.map<|Ask.o h fun p3 h=>Elem.o (by first | omega | (simp [Ak] at * <;> omega))<|Br.on h (fun p4 h=> ?_) (fun p4 h=> ?_)
  ·refine Len.map<|Ask.o h fun p5 h=>Elem.o (by first | omega | (simp [Ak] at * <;> omega))<|Len.map<|Ask.o h fun p6 h=>Elem.o (by first | omega | (simp [Ak] at * <;> omega)) ?_
   cases h;exact ⟨rfl,rfl⟩
  refine Ask.o h fun p7 h=> ?_
  cases h;exact ⟨rfl,rfl⟩
 cases h;exact ⟨rfl,rfl⟩
noncomputable def Mu (a0:(List Int)) (b0:(List Int)):Option Bool:=
 (Aj (F0 a0 b0) (0:Int)).bind fun t=>match t with
 | (.inl q8_4)=>(some q8_4)
 | (.inr _)=>(some false)
theorem Ap9 {a0:(List Int)} {b0:(List Int)} {v:Bool} (h:Mu a0 b0=some v):Ret Try.prog Xa [(slr false 1 Af) a0,(slr false 1 Af) b0] (V.bool v):=by
 refine A6 Ap2 (Nat.le_of_ble_eq_true rfl) ?_
 unfold Mu at h
 refine LoopQ.o [5,0,1] (Rc a0 b0) (Yq a0 b0) h (fun s o h=>Aj3 s o h) (by rfl) (by rintro (_ | _)<;>rfl) ?_
 rintro (q8_4 | ⟨⟩) h
 ·try dsimp only at h
  cases h;exact (by rfl)
 try dsimp only at h
 cases h;exact (by rfl)
noncomputable def Nq (x0:Int) (a0:Int) (b0:Int):Option Bool:=
 if x0≥a0 then
 some (decide (x0≤b0))
 else
 some false
theorem Ald {x0:Int} {a0:Int} {b0:Int} {v:Bool} (h:Nq x0 a0 b0=some v):Ret Try.prog Vm [Af x0,Af a0,Af b0] (V.bool v):=by
 refine A6 Aui (Nat.le_of_ble_eq_true rfl) ?_
 unfold Nq at h
 refine Br.od h (fun p1 h=> ?_) (fun p1 h=> ?_)
 ·refine Br.yes<|Br.yes<|Br.yes ?_
  cases h;exact (by rfl)
 refine Br.no<|Br.no<|Br.no ?_
 cases h;exact (by rfl)
end Go.Proofs.Ytpfikenknmlajaa.Ax
