/-
 What the functions compute, as functions on plain data, and that the program does compute it; written by program.
-/
import Derived.Test.YtmcbocbcpijgeaaCode
import Derived.Test.YtmcbocbcpijgeaaG1
namespace Go.Proofs.Ytmcbocbcpijgeaa.Ax
open Go
set_option maxRecDepth 100000
set_option maxHeartbeats 4000000
noncomputable def Ft (have0:List Bool):(Int×(List Int))→Option ((Int×(List Int)) ⊕ (List Int)):=fun (x9,x3)=>
 if x9<(↑have0.length:Int) then
 ask ((0:Int)≤x9∧x9<(↑have0.length:Int)) <|
 if (nth have0 x9.toNat)=true then
 ask ((x3).length+([x9]).length≤LIM) <|
 ask (InI (x9+(1:Int))) <|
 some (.inl (x9+(1:Int),x3++[x9]))
 else
 ask (InI (x9+(1:Int))) <|
 some (.inl (x9+(1:Int),x3))
 else
 some (.inr x3)
def Kc (have0:List Bool):(Int×(List Int))→St:=fun s=>[(9,A.val (Af s.1)),(8,A.val (Af ((↑have0.length:Int)))),(7,A.val ((slr false 1 V.bool) (have0))),(3,A.val ((slr true 1 Af) s.2))]
def Qf (_have0:List Bool):(List Int)→Tgt
 | s=>((Ex.exit 0),[3],[(3,A.val ((slr true 1 Af) s))])
theorem Yb {have0:List Bool} (s:(Int×(List Int))) (o:(Int×(List Int)) ⊕ (List Int)) (h:Ft have0 s=some o):vc Try.prog Py (Eu [9,8,7,3] (Kc have0) (Qf have0) o) (Kc have0 s):=by
 obtain ⟨x9,x3⟩:=s
 unfold Ft at h
 try dsimp only at h
 conv=>whnf
 refine Br.od h (fun p1 h=> ?_) (fun p1 h=> ?_)
 ·conv=>whnf
  refine Len.map ?_
  conv=>whnf
  refine Ask.o h fun p2 h=> ?_
  conv=>whnf
  refine Elem.o (by first | omega | (simp [Ba] at * <;> omega)) ?_
  conv=>whnf
  refine Br.ob h (fun p3 h=> ?_) (fun p3 h=> ?_)
  ·conv=>whnf
   refine BslQ.o Af [x9] (by exact fun _=>⟨rfl,rfl⟩) (by first | rfl | (simp only [Aa,V.fz,fzL,V.up,upL,Ab,Ac,Ad,slr,List.cons_append,List.nil_append];done) | simp [Aa,V.fz,fzL,V.up,upL,Ab,Ac,Ad,slr]) ?_
   conv=>whnf
   refine NoOwn.o (fun _=>rfl) ?_
   conv=>whnf
   refine AppQ.o (m:=1) Af (by exact fun _=>⟨rfl,rfl⟩) (x3) ([x9]) (by first | rfl | simp only [Aa,V.fz,fzL,V.up,upL,Ab,Ac,Ad,slr,List.cons_append,List.nil_append] | simp [Aa,V.fz,fzL,V.up,upL,Ab,Ac,Ad,slr]) (by first | rfl | simp only [Aa,V.fz,fzL,V.up,upL,Ab,Ac,Ad,slr,List.cons_append,List.nil_append] | simp [Aa,V.fz,fzL,V.up,upL,Ab,Ac,Ad,slr]) h fun h=> ?_
   conv=>whnf
   refine Ask.o h fun p4 h=> ?_
   conv=>whnf
   cases h;exact ⟨rfl,rfl⟩
  conv=>whnf
  refine Ask.o h fun p5 h=> ?_
  conv=>whnf
  cases h;exact ⟨rfl,rfl⟩
 conv=>whnf
 cases h;exact ⟨rfl,rfl⟩
noncomputable def Ib (have0:(List Bool)):Option (List Int):=
 (Ay (Ft have0) ((0:Int),A8 Int)).bind fun q6_3=>
 some q6_3
theorem Aea {have0:(List Bool)} {v:(List Int)} (h:Ib have0=some v):Ret Try.prog O9 [(slr false 1 V.bool) have0] ((slr true 1 Af) v):=by
 refine Bp Aem (Nat.le_of_ble_eq_true rfl) ?_
 unfold Ib at h
 conv=>whnf
 refine BslQ.o Af (A8 Int) (by exact fun _=>⟨rfl,rfl⟩) (by first | rfl | (simp only [Aa,V.fz,fzL,V.up,upL,Ab,Ac,Ad,slr,List.cons_append,List.nil_append];done) | simp [Aa,V.fz,fzL,V.up,upL,Ab,Ac,Ad,slr]) ?_
 conv=>whnf
 refine Len.map ?_
 conv=>whnf
 refine LoopQ.o [9,8,7,3] (Kc have0) (Qf have0) h (fun s o h=>Yb s o h) (by first | rfl | simp [restrict,look,Aa,V.fz,fzL,V.up,upL,Ab,Ac,Ad,slr]) (fun _=>rfl) ?_
 rintro q6_3 h
 try dsimp only at h
 conv=>whnf
 cases h;exact (by first | rfl | simp only [Ah,Aa,V.fz,fzL,V.up,upL,Ab,Ac,Ad,slr] | simp [Ah,Aa,V.fz,fzL,V.up,upL,Ab,Ac,Ad,slr])
noncomputable def Dw (l0:List Int) (n0:Int):Int→Option (Int ⊕ Int):=fun x5=>
 if x5<(↑l0.length:Int) then
 ask ((0:Int)≤x5∧x5<(↑l0.length:Int)) <|
 if nth l0 x5.toNat<n0 then
 ask (InI (x5+(1:Int))) <|
 some (.inl (x5+(1:Int)))
 else
 some (.inr x5)
 else
 some (.inr x5)
def Lz (l0:List Int) (n0:Int):Int→St:=fun s=>[(5,A.val (Af s)),(0,A.val ((slr false 1 Af) (l0))),(1,A.val (Af (n0)))]
def R2 (l0:List Int) (n0:Int):Int→Tgt
 | s=>((Ex.exit 0),[5,0,1],[(5,A.val (Af s)),(0,A.val ((slr false 1 Af) (l0))),(1,A.val (Af (n0)))])
theorem Aas {l0:List Int} {n0:Int} (x5:Int) (o:Int ⊕ Int) (h:Dw l0 n0 x5=some o):vc Try.prog Rt (Eu [5,0,1] (Lz l0 n0) (R2 l0 n0) o) (Lz l0 n0 x5):=by
 unfold Dw at h
 try dsimp only at h
 conv=>whnf
 refine Len.map ?_
 conv=>whnf
 refine Br.od h (fun p1 h=> ?_) (fun p1 h=> ?_)
 ·conv=>whnf
  refine Br.yes ?_
  conv=>whnf
  refine Br.yes ?_
  conv=>whnf
  refine Len.map ?_
  conv=>whnf
  refine Ask.o h fun p2 h=> ?_
  conv=>whnf
  refine Elem.o (by first | omega | (simp [Ba] at * <;> omega)) ?_
  conv=>whnf
  refine Br.yes ?_
  conv=>whnf
  refine Br.yes ?_
  conv=>whnf
  refine Br.yes ?_
  conv=>whnf
  refine Br.yes ?_
  conv=>whnf
  refine Br.od h (fun p3 h=> ?_) (fun p3 h=> ?_)
  ·conv=>whnf
   refine Ask.o h fun p4 h=> ?_
   conv=>whnf
   cases h;exact ⟨rfl,rfl⟩
  conv=>whnf
  cases h;exact ⟨rfl,rfl⟩
 conv=>whnf
 refine Br.no ?_
 conv=>whnf
 refine Br.no ?_
 conv=>whnf
 refine Br.no ?_
 conv=>whnf
 refine Br.no ?_
 conv=>whnf
 refine Br.no ?_
 conv=>whnf
 refine Br.no ?_
 conv=>whnf
 refine Br.no ?_
 conv=>whnf
 cases h;exact ⟨rfl,rfl⟩
noncomputable def Hj (l0:(List Int)) (n0:Int):Option (List Int):=
 (Ay (Dw l0 n0) (0:Int)).bind fun q5_5=>
 ((if q5_5<(↑l0.length:Int) then
 ask ((0:Int)≤q5_5∧q5_5<(↑l0.length:Int)) <|
 if nth l0 q5_5.toNat=n0 then
 some (.inl ())
 else
 some (.inr ())
 else
 some (.inr ()):Option (Unit ⊕ Unit))).bind fun t=>match t with
 | (.inl _)=>(some l0)
 | (.inr _)=>(ask (0≤(0:Int)∧(0:Int)≤q5_5∧q5_5≤((l0.length:Nat):Int)) <|
 ask ((A8 Int).length+(List.take (q5_5.toNat-Int.toNat (0:Int)) (List.drop (Int.toNat (0:Int)) l0)).length≤LIM) <|
 ask ((A8 Int++List.take (q5_5.toNat-Int.toNat (0:Int)) (List.drop (Int.toNat (0:Int)) l0)).length+([n0]).length≤LIM) <|
 ask (0≤q5_5∧q5_5≤(↑l0.length:Int)∧(↑l0.length:Int)≤((l0.length:Nat):Int)) <|
 ask ((A8 Int++List.take (q5_5.toNat-Int.toNat (0:Int)) (List.drop (Int.toNat (0:Int)) l0)++[n0]).length+(List.take ((↑l0.length:Int).toNat-q5_5.toNat) (List.drop q5_5.toNat l0)).length≤LIM) <|
 some (A8 Int++List.take (q5_5.toNat-Int.toNat (0:Int)) (List.drop (Int.toNat (0:Int)) l0)++[n0]++List.take ((↑l0.length:Int).toNat-q5_5.toNat) (List.drop q5_5.toNat l0)))
theorem Wu {l0:(List Int)} {n0:Int} {v:(List Int)} (h:Hj l0 n0=some v):Ret Try.prog Rp [(slr false 1 Af) l0,Af n0] ((slr false 1 Af) v):=by
 refine Apq Ahs (Nat.le_of_ble_eq_true rfl) ?_
 unfold Hj at h
 conv=>whnf
 refine LoopQ.o [5,0,1] (Lz l0 n0) (R2 l0 n0) h (fun s o h=>Aas s o h) (by first | rfl | simp [restrict,look,Aa,V.fz,fzL,V.up,upL,Ab,Ac,Ad,slr]) (fun _=>rfl) ?_
 rintro q5_5 h
 try dsimp only at h
 conv=>whnf
 refine CutQ.o (fun t:(Unit ⊕ Unit)=>match t with | (.inl s)=>(Ex.ret,[4],[(4,A.val ((slr false 1 Af) (l0)))]) | (.inr s)=>(Ex.normal,[5,0,1],[(5,A.val (Af (q5_5))),(0,A.val ((slr false 1 Af) (l0))),(1,A.val (Af (n0)))])) h ?_ ?_
 ·intro t h
  conv=>whnf
  refine Len.map ?_
  conv=>whnf
  refine Br.od h (fun p6 h=> ?_) (fun p6 h=> ?_)
  ·conv=>whnf
   refine Br.yes ?_
   conv=>whnf
   refine Br.yes ?_
   conv=>whnf
   refine Len.map ?_
   conv=>whnf
   refine Ask.o h fun p7 h=> ?_
   conv=>whnf
   refine Elem.o (by first | omega | (simp [Ba] at * <;> omega)) ?_
   conv=>whnf
   refine Br.yes ?_
   conv=>whnf
   refine Br.yes ?_
   conv=>whnf
   refine Br.yes ?_
   conv=>whnf
   refine Br.yes ?_
   conv=>whnf
   refine Br.oe h (fun p8 h=> ?_) (fun p8 h=> ?_)
   ·conv=>whnf
    cases h;exact ⟨rfl,rfl⟩
   conv=>whnf
   cases h;exact ⟨rfl,rfl⟩
  conv=>whnf
  refine Br.no ?_
  conv=>whnf
  refine Br.no ?_
  conv=>whnf
  refine Br.no ?_
  conv=>whnf
  refine Br.no ?_
  conv=>whnf
  refine Br.no ?_
  conv=>whnf
  refine Br.no ?_
  conv=>whnf
  refine Br.no ?_
  conv=>whnf
  cases h;exact ⟨rfl,rfl⟩
 rintro (⟨⟩ | ⟨⟩) h
 ·try dsimp only at h
  conv=>whnf
  cases h;exact (by first | rfl | simp only [Ah,Aa,V.fz,fzL,V.up,upL,Ab,Ac,Ad,slr] | simp [Ah,Aa,V.fz,fzL,V.up,upL,Ab,Ac,Ad,slr])
 try dsimp only at h
 conv=>whnf
 refine BslQ.o Af (A8 Int) (by exact fun _=>⟨rfl,rfl⟩) (by first | rfl | (simp only [Aa,V.fz,fzL,V.up,upL,Ab,Ac,Ad,slr,List.cons_append,List.nil_append];done) | simp [Aa,V.fz,fzL,V.up,upL,Ab,Ac,Ad,slr]) ?_
 conv=>whnf
 refine SlcQ.o Af h fun h=> ?_
 conv=>whnf
 refine AppQ.o (m:=1) Af (by exact fun _=>⟨rfl,rfl⟩) (A8 Int) (List.take (q5_5.toNat-Int.toNat (0:Int)) (List.drop (Int.toNat (0:Int)) l0)) (by first | rfl | simp only [Aa,V.fz,fzL,V.up,upL,Ab,Ac,Ad,slr,List.cons_append,List.nil_append] | simp [Aa,V.fz,fzL,V.up,upL,Ab,Ac,Ad,slr]) (by first | rfl | simp only [Aa,V.fz,fzL,V.up,upL,Ab,Ac,Ad,slr,List.cons_append,List.nil_append] | simp [Aa,V.fz,fzL,V.up,upL,Ab,Ac,Ad,slr]) h fun h=> ?_
 conv=>whnf
 refine BslQ.o Af [n0] (by exact fun _=>⟨rfl,rfl⟩) (by first | rfl | (simp only [Aa,V.fz,fzL,V.up,upL,Ab,Ac,Ad,slr,List.cons_append,List.nil_append];done) | simp [Aa,V.fz,fzL,V.up,upL,Ab,Ac,Ad,slr]) ?_
 conv=>whnf
 refine NoOwn.o (fun _=>rfl) ?_
 conv=>whnf
 refine AppQ.o (m:=1) Af (by exact fun _=>⟨rfl,rfl⟩) (A8 Int++List.take (q5_5.toNat-Int.toNat (0:Int)) (List.drop (Int.toNat (0:Int)) l0)) ([n0]) (by first | rfl | simp only [Aa,V.fz,fzL,V.up,upL,Ab,Ac,Ad,slr,List.cons_append,List.nil_append] | simp [Aa,V.fz,fzL,V.up,upL,Ab,Ac,Ad,slr]) (by first | rfl | simp only [Aa,V.fz,fzL,V.up,upL,Ab,Ac,Ad,slr,List.cons_append,List.nil_append] | simp [Aa,V.fz,fzL,V.up,upL,Ab,Ac,Ad,slr]) h fun h=> ?_
 conv=>whnf
 refine Len.map ?_
 conv=>whnf
 refine SlcQ.o Af h fun h=> ?_
 conv=>whnf
 refine AppQ.o (m:=1) Af (by exact fun _=>⟨rfl,rfl⟩) (A8 Int++List.take (q5_5.toNat-Int.toNat (0:Int)) (List.drop (Int.toNat (0:Int)) l0)++[n0]) (List.take ((↑l0.length:Int).toNat-q5_5.toNat) (List.drop q5_5.toNat l0)) (by first | rfl | simp only [Aa,V.fz,fzL,V.up,upL,Ab,Ac,Ad,slr,List.cons_append,List.nil_append] | simp [Aa,V.fz,fzL,V.up,upL,Ab,Ac,Ad,slr]) (by first | rfl | simp only [Aa,V.fz,fzL,V.up,upL,Ab,Ac,Ad,slr,List.cons_append,List.nil_append] | simp [Aa,V.fz,fzL,V.up,upL,Ab,Ac,Ad,slr]) h fun h=> ?_
 conv=>whnf
 cases h;exact (by first | rfl | simp only [Ah,Ac,slr] | simp [Ah,Aa,V.fz,fzL,V.up,upL,Ab,Ac,Ad,slr])
noncomputable def Ce (n0:Int):(Int×Int)→Option ((Int×Int) ⊕ Int):=fun (x5,x1)=>
 if x1>(0:Int) then
 ask (InI (x5*n0)) <|
 ask (InI (x1-(1:Int))) <|
 some (.inl (x5*n0,x1-(1:Int)))
 else
 some (.inr x5)
def Lt (n0:Int):(Int×Int)→St:=fun s=>[(5,A.val (Af s.1)),(0,A.val (Af (n0))),(1,A.val (Af s.2))]
def Rx (_n0:Int):Int→Tgt
 | s=>((Ex.exit 0),[5],[(5,A.val (Af s))])
theorem Z1 {n0:Int} (s:(Int×Int)) (o:(Int×Int) ⊕ Int) (h:Ce n0 s=some o):vc Try.prog Rw (Eu [5,0,1] (Lt n0) (Rx n0) o) (Lt n0 s):=by
 obtain ⟨x5,x1⟩:=s
 unfold Ce at h
 try dsimp only at h
 conv=>whnf
 refine Br.od h (fun p1 h=> ?_) (fun p1 h=> ?_)
 ·conv=>whnf
  refine Ask.o h fun p2 h=> ?_
  conv=>whnf
  refine Ask.o h fun p3 h=> ?_
  conv=>whnf
  cases h;exact ⟨rfl,rfl⟩
 conv=>whnf
 cases h;exact ⟨rfl,rfl⟩
noncomputable def Cb (n0:Int) (k0:Int):Option Int:=
 (Ay (Ce n0) ((1:Int),k0)).bind fun q4_5=>
 some q4_5
theorem Mk {n0:Int} {k0:Int} {v:Int} (h:Cb n0 k0=some v):Ret Try.prog Hh [Af n0,Af k0] (Af v):=by
 refine Bp Agm (Nat.le_of_ble_eq_true rfl) ?_
 unfold Cb at h
 conv=>whnf
 refine LoopQ.o [5,0,1] (Lt n0) (Rx n0) h (fun s o h=>Z1 s o h) (by first | rfl | simp [restrict,look,Aa,V.fz,fzL,V.up,upL,Ab,Ac,Ad,slr]) (fun _=>rfl) ?_
 rintro q4_5 h
 try dsimp only at h
 conv=>whnf
 cases h;exact (by first | rfl | simp only [Ah,Aa,V.fz,fzL,V.up,upL,Ab,Ac,Ad,slr] | simp [Ah,Aa,V.fz,fzL,V.up,upL,Ab,Ac,Ad,slr])
noncomputable def Ea (a0:Int) (b0:Int):Option Int:=
 if a0>b0 then
 some a0
 else
 some b0
theorem K6 {a0:Int} {b0:Int} {v:Int} (h:Ea a0 b0=some v):Ret Try.prog Pb [Af a0,Af b0] (Af v):=by
 refine Bp Adz (Nat.le_of_ble_eq_true rfl) ?_
 unfold Ea at h
 conv=>whnf
 refine Br.od h (fun p1 h=> ?_) (fun p1 h=> ?_)
 ·conv=>whnf
  cases h;exact (by first | rfl | simp only [Ah,Aa,V.fz,fzL,V.up,upL,Ab,Ac,Ad,slr] | simp [Ah,Aa,V.fz,fzL,V.up,upL,Ab,Ac,Ad,slr])
 conv=>whnf
 cases h;exact (by first | rfl | simp only [Ah,Aa,V.fz,fzL,V.up,upL,Ab,Ac,Ad,slr] | simp [Ah,Aa,V.fz,fzL,V.up,upL,Ab,Ac,Ad,slr])
noncomputable def F6 (l0:(List Int)):Option (List Int):=
 ask ((A8 Int).length+(l0).length≤LIM) <|
 some (A8 Int++l0)
theorem Q8 {l0:(List Int)} {v:(List Int)} (h:F6 l0=some v):Ret Try.prog Jj [(slr false 1 Af) l0] ((slr true 1 Af) v):=by
 refine Bp Ahi (Nat.le_of_ble_eq_true rfl) ?_
 unfold F6 at h
 conv=>whnf
 refine BslQ.o Af (A8 Int) (by exact fun _=>⟨rfl,rfl⟩) (by first | rfl | (simp only [Aa,V.fz,fzL,V.up,upL,Ab,Ac,Ad,slr,List.cons_append,List.nil_append];done) | simp [Aa,V.fz,fzL,V.up,upL,Ab,Ac,Ad,slr]) ?_
 conv=>whnf
 refine AppQ.o (m:=1) Af (by exact fun _=>⟨rfl,rfl⟩) (A8 Int) (l0) (by first | rfl | simp only [Aa,V.fz,fzL,V.up,upL,Ab,Ac,Ad,slr,List.cons_append,List.nil_append] | simp [Aa,V.fz,fzL,V.up,upL,Ab,Ac,Ad,slr]) (by first | rfl | simp only [Aa,V.fz,fzL,V.up,upL,Ab,Ac,Ad,slr,List.cons_append,List.nil_append] | simp [Aa,V.fz,fzL,V.up,upL,Ab,Ac,Ad,slr]) h fun h=> ?_
 conv=>whnf
 cases h;exact (by first | rfl | simp only [Ah,Aa,V.fz,fzL,V.up,upL,Ab,Ac,Ad,slr] | simp [Ah,Aa,V.fz,fzL,V.up,upL,Ab,Ac,Ad,slr])
noncomputable def D5 (n0:Int):(Int×(List Int)×Int)→Option ((Int×(List Int)×Int) ⊕ (List Int)):=fun (x8,x7,x2)=>
 if x8≥(0:Int) then
 ask (n0≠(0:Int)) <|
 ask ((0:Int)≤x8∧x8<(↑x7.length:Int)) <|
 ask (n0≠(0:Int)∧InI (x2.tdiv n0)) <|
 ask (InI (x8-(1:Int))) <|
 some (.inl (x8-(1:Int),x7.set x8.toNat (x2.tmod n0),x2.tdiv n0))
 else
 some (.inr x7)
def Ko (n0:Int):(Int×(List Int)×Int)→St:=fun s=>[(8,A.val (Af s.1)),(7,A.val ((slr true 1 Af) s.2.1)),(0,A.val (Af (n0))),(2,A.val (Af s.2.2))]
def Pr (_n0:Int):(List Int)→Tgt
 | s=>((Ex.exit 0),[7],[(7,A.val ((slr true 1 Af) s))])
theorem Ym {n0:Int} (s:(Int×(List Int)×Int)) (o:(Int×(List Int)×Int) ⊕ (List Int)) (h:D5 n0 s=some o):vc Try.prog Pi (Eu [8,7,0,2] (Ko n0) (Pr n0) o) (Ko n0 s):=by
 obtain ⟨x8,x7,x2⟩:=s
 unfold D5 at h
 try dsimp only at h
 conv=>whnf
 refine Br.od h (fun p3 h=> ?_) (fun p3 h=> ?_)
 ·conv=>whnf
  refine Ask.o h fun p4 h=> ?_
  conv=>whnf
  refine Len.map ?_
  conv=>whnf
  refine Ask.o h fun p5 h=> ?_
  conv=>whnf
  refine SetKids.one (fun _=>⟨rfl,rfl⟩) (x2.tmod n0) (by first | rfl | simp only [Aa,V.fz,fzL,V.up,upL,Ab,Ac,Ad,slr,List.cons_append,List.nil_append] | simp [Aa,V.fz,fzL,V.up,upL,Ab,Ac,Ad,slr]) (by first | omega | (simp [Ba] at * <;> omega)) ?_
  conv=>whnf
  refine Ask.o h fun p6 h=> ?_
  conv=>whnf
  refine Ask.o h fun p7 h=> ?_
  conv=>whnf
  cases h;exact ⟨rfl,rfl⟩
 conv=>whnf
 cases h;exact ⟨rfl,rfl⟩
noncomputable def Co (n0:Int) (arity0:Int) (at0:Int):Option (List Int):=
 ask ((0:Int)≤arity0∧arity0≤(↑LIM:Int)) <|
 ask (InI (arity0-(1:Int))) <|
 (Ay (D5 n0) (arity0-(1:Int),List.replicate arity0.toNat (0:Int),at0)).bind fun q8_7=>
 some q8_7
theorem U9 {n0:Int} {arity0:Int} {at0:Int} {v:(List Int)} (h:Co n0 arity0 at0=some v):Ret Try.prog K8 [Af n0,Af arity0,Af at0] ((slr true 1 Af) v):=by
 refine Bp Aej (Nat.le_of_ble_eq_true rfl) ?_
 unfold Co at h
 conv=>whnf
 refine Ask.o h fun p1 h=> ?_
 conv=>whnf
 refine MkQ.o Af ((0:Int)) rfl ?_
 conv=>whnf
 refine Ask.o h fun p2 h=> ?_
 conv=>whnf
 refine LoopQ.o [8,7,0,2] (Ko n0) (Pr n0) h (fun s o h=>Ym s o h) (by first | rfl | simp [restrict,look,Aa,V.fz,fzL,V.up,upL,Ab,Ac,Ad,slr]) (fun _=>rfl) ?_
 rintro q8_7 h
 try dsimp only at h
 conv=>whnf
 cases h;exact (by first | rfl | simp only [Ah,Aa,V.fz,fzL,V.up,upL,Ab,Ac,Ad,slr] | simp [Ah,Aa,V.fz,fzL,V.up,upL,Ab,Ac,Ad,slr])
noncomputable def Eg (c0:Sl1Cur):Option (Int×Sl1Cur):=
 ((if c0.at_<(↑c0.code.length:Int) then
 ask ((0:Int)≤c0.at_∧c0.at_<(↑c0.code.length:Int)) <|
 some (IntKind.i64.wrap (nth c0.code c0.at_.toNat))
 else
 some (0:Int):Option Int)).bind fun q3_3=>
 ask (InI (c0.at_+(1:Int))) <|
 if c0.at_+(1:Int)≤(↑c0.code.length:Int) then
 some (q3_3,{ code:=c0.code,at_:=c0.at_+(1:Int),seed:=IntKind.u64.wrap (IntKind.u64.wrap (IntKind.u64.wrap (c0.seed*(6364136223846793005:Int))+IntKind.u64.wrap q3_3)+(550289:Int)) })
 else
 some (IntKind.i64.wrap (IntKind.u64.wrap (↑(BitVec.ofInt IntKind.u64.bits ((IntKind.u64.wrap (IntKind.u64.wrap (IntKind.u64.wrap (c0.seed*(6364136223846793005:Int))+IntKind.u64.wrap q3_3)+(550289:Int))).fdiv ((2:Int)^min (Int.toNat (40:Int)) IntKind.u64.bits)) &&& BitVec.ofInt IntKind.u64.bits (255:Int)).toNat:Int)),{ code:=c0.code,at_:=c0.at_+(1:Int),seed:=IntKind.u64.wrap (IntKind.u64.wrap (IntKind.u64.wrap (c0.seed*(6364136223846793005:Int))+IntKind.u64.wrap q3_3)+(550289:Int)) })
theorem Oj {c0:Sl1Cur} {v:(Int×Sl1Cur)} (h:Eg c0=some v):Nj Try.prog Gr [(rP true (Aj false)) c0] (Af v.1) 0 ((rP true (Aj false)) v.2):=by
 refine Tw W6 (Nat.le_of_ble_eq_true rfl) ?_
 unfold Eg at h
 conv=>whnf
 refine CutQ.o (fun t:Int=>match t with | s=>(Ex.normal,[3,0,62],[(3,A.val (Af s)),(0,A.ref 62 []),(62,A.val ((rP true (Aj false)) (c0)))])) h ?_ ?_
 ·intro t h
  conv=>whnf
  refine Cells.lit rfl rfl ?_
  conv=>whnf
  refine Cells.lit rfl rfl ?_
  conv=>whnf
  refine Len.map ?_
  conv=>whnf
  refine Br.od h (fun p1 h=> ?_) (fun p1 h=> ?_)
  ·conv=>whnf
   refine Cells.lit rfl rfl ?_
   conv=>whnf
   refine Cells.lit rfl rfl ?_
   conv=>whnf
   refine Len.map ?_
   conv=>whnf
   refine Ask.o h fun p2 h=> ?_
   conv=>whnf
   refine Elem.o (by first | omega | (simp [Ba] at * <;> omega)) ?_
   conv=>whnf
   cases h;exact ⟨rfl,rfl⟩
  conv=>whnf
  cases h;exact ⟨rfl,rfl⟩
 rintro q3_3 h
 try dsimp only at h
 conv=>whnf
 refine Cells.lit rfl rfl ?_
 conv=>whnf
 refine Ask.o h fun p4 h=> ?_
 conv=>whnf
 refine SetKids.lit rfl ?_
 conv=>whnf
 refine Cells.lit rfl rfl ?_
 conv=>whnf
 refine SetKids.lit rfl ?_
 conv=>whnf
 refine Cells.lit rfl rfl ?_
 conv=>whnf
 refine Cells.lit rfl rfl ?_
 conv=>whnf
 refine Len.map ?_
 conv=>whnf
 refine Br.od h (fun p5 h=> ?_) (fun p5 h=> ?_)
 ·conv=>whnf
  cases h;exact ⟨(by first | rfl | simp only [Ah,Aa,V.fz,fzL,V.up,upL,Ab,Ac,Ad,slr] | simp [Ah,Aa,V.fz,fzL,V.up,upL,Ab,Ac,Ad,slr]),(by first | rfl | simp only [Ah,Aa,V.fz,fzL,V.up,upL,Ab,Ac,Ad,slr] | simp [Ah,Aa,V.fz,fzL,V.up,upL,Ab,Ac,Ad,slr])⟩
 conv=>whnf
 refine Cells.lit rfl rfl ?_
 conv=>whnf
 cases h;exact ⟨(by first | rfl | simp only [Ah,Aa,V.fz,fzL,V.up,upL,Ab,Ac,Ad,slr] | simp [Ah,Aa,V.fz,fzL,V.up,upL,Ab,Ac,Ad,slr]),(by first | rfl | simp only [Ah,Aa,V.fz,fzL,V.up,upL,Ab,Ac,Ad,slr] | simp [Ah,Aa,V.fz,fzL,V.up,upL,Ab,Ac,Ad,slr])⟩
noncomputable def E1 (s0:ByteArray):(Int×SOp)→Option ((Int×SOp) ⊕ SOp):=fun (x4,x3)=>
 if x4<(↑s0.size:Int) then
 ask ((0:Int)≤x4∧x4<(↑s0.size:Int)) <|
 ask ((x3.Table).length+([IntKind.i64.wrap (IntKind.u8.wrap (Zv s0 x4-(48:Int)))]).length≤LIM) <|
 ask (InI (x4+(1:Int))) <|
 some (.inl (x4+(1:Int),{ Arity:=x3.Arity,Table:=x3.Table++[IntKind.i64.wrap (IntKind.u8.wrap (Zv s0 x4-(48:Int)))] }))
 else
 some (.inr x3)
def Ir (s0:ByteArray):(Int×SOp)→St:=fun s=>[(4,A.val (Af s.1)),(3,A.val ((rP true (Bb true)) s.2)),(2,A.val ((rP true (Bb true)) ({ Arity:=(0:Int),Table:=A8 Int }))),(0,A.val (V.str (s0)))]
def M8 (_s0:ByteArray):SOp→Tgt
 | s=>((Ex.exit 0),[3,2],[(3,A.val ((rP true (Bb true)) s)),(2,A.val ((rP true (Bb true)) ({ Arity:=(0:Int),Table:=A8 Int })))])
theorem Vo {s0:ByteArray} (s:(Int×SOp)) (o:(Int×SOp) ⊕ SOp) (h:E1 s0 s=some o):vc Try.prog Nl (Eu [4,3,2,0] (Ir s0) (M8 s0) o) (Ir s0 s):=by
 obtain ⟨x4,x3⟩:=s
 unfold E1 at h
 try dsimp only at h
 conv=>whnf
 refine Br.od h (fun p1 h=> ?_) (fun p1 h=> ?_)
 ·conv=>whnf
  refine Cells.lit rfl rfl ?_
  conv=>whnf
  refine Ask.o h fun p2 h=> ?_
  conv=>whnf
  refine BslQ.o Af ([IntKind.i64.wrap (IntKind.u8.wrap (Zv s0 x4-(48:Int)))]) (by exact fun _=>⟨rfl,rfl⟩) (by first | rfl | (simp only [Aa,V.fz,fzL,V.up,upL,Ab,Ac,Ad,slr,List.cons_append,List.nil_append];done) | simp [Aa,V.fz,fzL,V.up,upL,Ab,Ac,Ad,slr]) ?_
  conv=>whnf
  refine NoOwn.o (fun _=>rfl) ?_
  conv=>whnf
  refine Kid.lit rfl rfl ?_
  conv=>whnf
  refine Kid.lit rfl rfl ?_
  conv=>whnf
  refine SetKids.lit rfl ?_
  conv=>whnf
  refine AppQ.o (m:=1) Af (by exact fun _=>⟨rfl,rfl⟩) (x3.Table) ([IntKind.i64.wrap (IntKind.u8.wrap (Zv s0 x4-(48:Int)))]) (by first | rfl | simp only [Aa,V.fz,fzL,V.up,upL,Ab,Ac,Ad,slr,List.cons_append,List.nil_append] | simp [Aa,V.fz,fzL,V.up,upL,Ab,Ac,Ad,slr]) (by first | rfl | simp only [Aa,V.fz,fzL,V.up,upL,Ab,Ac,Ad,slr,List.cons_append,List.nil_append] | simp [Aa,V.fz,fzL,V.up,upL,Ab,Ac,Ad,slr]) h fun h=> ?_
  conv=>whnf
  refine SetKids.lit rfl ?_
  conv=>whnf
  refine Ask.o h fun p3 h=> ?_
  conv=>whnf
  cases h;exact ⟨rfl,rfl⟩
 conv=>whnf
 cases h;exact ⟨rfl,rfl⟩
noncomputable def Bc (s0:ByteArray):Option SOp:=
 (Ay (E1 s0) ((0:Int),{ Arity:=(2:Int),Table:=A8 Int })).bind fun q4_3=>
 some q4_3
theorem Bn {s0:ByteArray} {v:SOp} (h:Bc s0=some v):Ret Try.prog Bg [V.str s0] ((Bb true) v):=by
 refine Bp Aaj (Nat.le_of_ble_eq_true rfl) ?_
 unfold Bc at h
 conv=>whnf
 refine SetKids.lit rfl ?_
 conv=>whnf
 refine LoopQ.o [4,3,2,0] (Ir s0) (M8 s0) h (fun s o h=>Vo s o h) (by first | rfl | simp [restrict,look,Aa,V.fz,fzL,V.up,upL,Ab,Ac,Ad,slr]) (fun _=>rfl) ?_
 rintro q4_3 h
 try dsimp only at h
 conv=>whnf
 refine Cells.lit rfl rfl ?_
 conv=>whnf
 refine SetKids.lit rfl ?_
 conv=>whnf
 cases h;exact (by first | rfl | simp only [Ah,Aa,V.fz,fzL,V.up,upL,Ab,Ac,Ad,slr] | simp [Ah,Aa,V.fz,fzL,V.up,upL,Ab,Ac,Ad,slr])
noncomputable def E0 (n0:Int):(Int×SOp)→Option ((Int×SOp) ⊕ SOp):=fun (x4,x3)=>
 ask (InI (n0*n0)) <|
 ask (InI (n0*n0*n0)) <|
 if x4<n0*n0*n0 then
 ask (InI (n0*n0)) <|
 ask (n0*n0≠(0:Int)∧InI (x4.tdiv (n0*n0))) <|
 ask (InI (x4.tdiv (n0*n0)+n0)) <|
 ask (n0≠(0:Int)∧InI (x4.tdiv n0)) <|
 ask (n0≠(0:Int)) <|
 ask (InI (x4.tdiv (n0*n0)+n0-(x4.tdiv n0).tmod n0)) <|
 ask (n0≠(0:Int)) <|
 ask (InI (x4.tdiv (n0*n0)+n0-(x4.tdiv n0).tmod n0+x4.tmod n0)) <|
 ask (n0≠(0:Int)) <|
 ask ((x3.Table).length+([(x4.tdiv (n0*n0)+n0-(x4.tdiv n0).tmod n0+x4.tmod n0).tmod n0]).length≤LIM) <|
 ask (InI (x4+(1:Int))) <|
 some (.inl (x4+(1:Int),{ Arity:=x3.Arity,Table:=x3.Table++[(x4.tdiv (n0*n0)+n0-(x4.tdiv n0).tmod n0+x4.tmod n0).tmod n0] }))
 else
 some (.inr x3)
def It (n0:Int):(Int×SOp)→St:=fun s=>[(4,A.val (Af s.1)),(3,A.val ((rP true (Bb true)) s.2)),(2,A.val ((rP true (Bb true)) ({ Arity:=(0:Int),Table:=A8 Int }))),(0,A.val (Af (n0)))]
def M2 (_n0:Int):SOp→Tgt
 | s=>((Ex.exit 0),[3,2],[(3,A.val ((rP true (Bb true)) s)),(2,A.val ((rP true (Bb true)) ({ Arity:=(0:Int),Table:=A8 Int })))])
theorem V3 {n0:Int} (s:(Int×SOp)) (o:(Int×SOp) ⊕ SOp) (h:E0 n0 s=some o):vc Try.prog Na (Eu [4,3,2,0] (It n0) (M2 n0) o) (It n0 s):=by
 obtain ⟨x4,x3⟩:=s
 unfold E0 at h
 try dsimp only at h
 conv=>whnf
 refine Ask.o h fun p1 h=> ?_
 conv=>whnf
 refine Ask.o h fun p2 h=> ?_
 conv=>whnf
 refine Br.od h (fun p3 h=> ?_) (fun p3 h=> ?_)
 ·conv=>whnf
  refine Cells.lit rfl rfl ?_
  conv=>whnf
  refine Ask.o h fun p4 h=> ?_
  conv=>whnf
  refine Ask.o h fun p5 h=> ?_
  conv=>whnf
  refine Ask.o h fun p6 h=> ?_
  conv=>whnf
  refine Ask.o h fun p7 h=> ?_
  conv=>whnf
  refine Ask.o h fun p8 h=> ?_
  conv=>whnf
  refine Ask.o h fun p9 h=> ?_
  conv=>whnf
  refine Ask.o h fun p10 h=> ?_
  conv=>whnf
  refine Ask.o h fun p11 h=> ?_
  conv=>whnf
  refine Ask.o h fun p12 h=> ?_
  conv=>whnf
  refine BslQ.o Af ([(x4.tdiv (n0*n0)+n0-(x4.tdiv n0).tmod n0+x4.tmod n0).tmod n0]) (by exact fun _=>⟨rfl,rfl⟩) (by first | rfl | (simp only [Aa,V.fz,fzL,V.up,upL,Ab,Ac,Ad,slr,List.cons_append,List.nil_append];done) | simp [Aa,V.fz,fzL,V.up,upL,Ab,Ac,Ad,slr]) ?_
  conv=>whnf
  refine NoOwn.o (fun _=>rfl) ?_
  conv=>whnf
  refine Kid.lit rfl rfl ?_
  conv=>whnf
  refine Kid.lit rfl rfl ?_
  conv=>whnf
  refine SetKids.lit rfl ?_
  conv=>whnf
  refine AppQ.o (m:=1) Af (by exact fun _=>⟨rfl,rfl⟩) (x3.Table) ([(x4.tdiv (n0*n0)+n0-(x4.tdiv n0).tmod n0+x4.tmod n0).tmod n0]) (by first | rfl | simp only [Aa,V.fz,fzL,V.up,upL,Ab,Ac,Ad,slr,List.cons_append,List.nil_append] | simp [Aa,V.fz,fzL,V.up,upL,Ab,Ac,Ad,slr]) (by first | rfl | simp only [Aa,V.fz,fzL,V.up,upL,Ab,Ac,Ad,slr,List.cons_append,List.nil_append] | simp [Aa,V.fz,fzL,V.up,upL,Ab,Ac,Ad,slr]) h fun h=> ?_
  conv=>whnf
  refine SetKids.lit rfl ?_
  conv=>whnf
  refine Ask.o h fun p13 h=> ?_
  conv=>whnf
  cases h;exact ⟨rfl,rfl⟩
 conv=>whnf
 cases h;exact ⟨rfl,rfl⟩
noncomputable def Ff (n0:Int):Option SOp:=
 (Ay (E0 n0) ((0:Int),{ Arity:=(3:Int),Table:=A8 Int })).bind fun q14_3=>
 some q14_3
theorem Rr {n0:Int} {v:SOp} (h:Ff n0=some v):Ret Try.prog Im [Af n0] ((Bb true) v):=by
 refine Bp Aae (Nat.le_of_ble_eq_true rfl) ?_
 unfold Ff at h
 conv=>whnf
 refine SetKids.lit rfl ?_
 conv=>whnf
 refine LoopQ.o [4,3,2,0] (It n0) (M2 n0) h (fun s o h=>V3 s o h) (by first | rfl | simp [restrict,look,Aa,V.fz,fzL,V.up,upL,Ab,Ac,Ad,slr]) (fun _=>rfl) ?_
 rintro q14_3 h
 try dsimp only at h
 conv=>whnf
 refine Cells.lit rfl rfl ?_
 conv=>whnf
 refine SetKids.lit rfl ?_
 conv=>whnf
 cases h;exact (by first | rfl | simp only [Ah,Aa,V.fz,fzL,V.up,upL,Ab,Ac,Ad,slr] | simp [Ah,Aa,V.fz,fzL,V.up,upL,Ab,Ac,Ad,slr])
noncomputable def B7 (a0:SAlgebra) (t0:List Int):(Int×Int)→Option ((Int×Int) ⊕ (Unit ⊕ Int)):=fun (x7,x2)=>
 if x7>(0:Int) then
 if x2≥(↑t0.length:Int) then
 some (.inr (.inl ()))
 else
 ask ((0:Int)≤x2∧x2<(↑t0.length:Int)) <|
 ((if nth t0 x2.toNat≥(6:Int) then
 some true
 else
 some (decide (nth t0 x2.toNat<IntKind.i64.wrap ((0:Int)-(↑a0.Ops.length:Int)))):Option Bool)).bind fun q5_29=>
 if (q5_29)=true then
 some (.inr (.inl ()))
 else
 if nth t0 x2.toNat≥(0:Int) then
 ask (InI (x7-(1:Int))) <|
 ask (InI (x2+(1:Int))) <|
 some (.inl (x7-(1:Int),x2+(1:Int)))
 else
 ask (InI ((-1:Int)-nth t0 x2.toNat)) <|
 ask ((0:Int)≤(-1:Int)-nth t0 x2.toNat∧(-1:Int)-nth t0 x2.toNat<(↑a0.Ops.length:Int)) <|
 ask (InI ((nth a0.Ops ((-1:Int)-nth t0 x2.toNat).toNat).Arity-(1:Int))) <|
 ask (InI (x7+((nth a0.Ops ((-1:Int)-nth t0 x2.toNat).toNat).Arity-(1:Int)))) <|
 ask (InI (x2+(1:Int))) <|
 some (.inl (x7+((nth a0.Ops ((-1:Int)-nth t0 x2.toNat).toNat).Arity-(1:Int)),x2+(1:Int)))
 else
 some (.inr (.inr x2))
def L0 (a0:SAlgebra) (t0:List Int):(Int×Int)→St:=fun s=>[(7,A.val (Af s.1)),(3,A.val ((rP true (Ag false)) (a0))),(1,A.val ((slr false 1 Af) (t0))),(2,A.val (Af s.2))]
def R3 (_a0:SAlgebra) (_t0:List Int):(Unit ⊕ Int)→Tgt
 | (.inl _s)=>(Ex.ret,[6],[(6,A.val (Af ((-1:Int))))])
 | (.inr s)=>((Ex.exit 0),[2],[(2,A.val (Af s))])
theorem Aaf {a0:SAlgebra} {t0:List Int} (s:(Int×Int)) (o:(Int×Int) ⊕ (Unit ⊕ Int)) (h:B7 a0 t0 s=some o):vc Try.prog R4 (Eu [7,3,1,2] (L0 a0 t0) (R3 a0 t0) o) (L0 a0 t0 s):=by
 obtain ⟨x7,x2⟩:=s
 unfold B7 at h
 try dsimp only at h
 conv=>whnf
 refine Br.od h (fun p1 h=> ?_) (fun p1 h=> ?_)
 ·conv=>whnf
  refine Len.map ?_
  conv=>whnf
  refine Br.od h (fun p2 h=> ?_) (fun p2 h=> ?_)
  ·conv=>whnf
   cases h;exact ⟨rfl,rfl⟩
  conv=>whnf
  refine Len.map ?_
  conv=>whnf
  refine Ask.o h fun p3 h=> ?_
  conv=>whnf
  refine Elem.o (by first | omega | (simp [Ba] at * <;> omega)) ?_
  conv=>whnf
  refine CutQ.o (fun t:Bool=>match t with | s=>(Ex.normal,[29,8,7,3,1,2],[(29,A.val (V.bool s)),(8,A.val (Af (nth t0 x2.toNat))),(7,A.val (Af (x7))),(3,A.val ((rP true (Ag false)) (a0))),(1,A.val ((slr false 1 Af) (t0))),(2,A.val (Af (x2)))])) h ?_ ?_
  ·intro t h
   conv=>whnf
   refine Br.od h (fun p4 h=> ?_) (fun p4 h=> ?_)
   ·conv=>whnf
    refine Br.yes ?_
    conv=>whnf
    refine Br.yes ?_
    conv=>whnf
    refine Br.yes ?_
    conv=>whnf
    refine Br.yes ?_
    conv=>whnf
    refine Br.yes ?_
    conv=>whnf
    refine Br.yes ?_
    conv=>whnf
    cases h;exact ⟨rfl,rfl⟩
   conv=>whnf
   refine Br.no ?_
   conv=>whnf
   refine Br.no ?_
   conv=>whnf
   refine Cells.lit rfl rfl ?_
   conv=>whnf
   refine Br.no ?_
   conv=>whnf
   refine Len.map ?_
   conv=>whnf
   refine Br.no ?_
   conv=>whnf
   refine Br.no ?_
   conv=>whnf
   refine Br.no ?_
   conv=>whnf
   cases h;exact ⟨rfl,rfl⟩
  rintro q5_29 h
  try dsimp only at h
  conv=>whnf
  refine Br.ob h (fun p6 h=> ?_) (fun p6 h=> ?_)
  ·conv=>whnf
   cases h;exact ⟨rfl,rfl⟩
  conv=>whnf
  refine Br.od h (fun p7 h=> ?_) (fun p7 h=> ?_)
  ·conv=>whnf
   refine Ask.o h fun p8 h=> ?_
   conv=>whnf
   refine Ask.o h fun p9 h=> ?_
   conv=>whnf
   cases h;exact ⟨rfl,rfl⟩
  conv=>whnf
  refine Cells.lit rfl rfl ?_
  conv=>whnf
  refine Ask.o h fun p10 h=> ?_
  conv=>whnf
  refine Len.map ?_
  conv=>whnf
  refine Ask.o h fun p11 h=> ?_
  conv=>whnf
  refine Elem.o (by first | omega | (simp [Ba] at * <;> omega)) ?_
  conv=>whnf
  refine Ask.o h fun p12 h=> ?_
  conv=>whnf
  refine Ask.o h fun p13 h=> ?_
  conv=>whnf
  refine Ask.o h fun p14 h=> ?_
  conv=>whnf
  cases h;exact ⟨rfl,rfl⟩
 conv=>whnf
 cases h;exact ⟨rfl,rfl⟩
noncomputable def Hi (a0:SAlgebra) (t0:(List Int)) (at0:Int):Option Int:=
 (Ay (B7 a0 t0) ((1:Int),at0)).bind fun t=>match t with
 | (.inl _)=>(some (-1:Int))
 | (.inr q15_2)=>(some q15_2)
theorem Agb {a0:SAlgebra} {t0:(List Int)} {at0:Int} {v:Int} (h:Hi a0 t0 at0=some v):Ret Try.prog Ra [(Ag false) a0,(slr false 1 Af) t0,Af at0] (Af v):=by
 refine Bp Ahw (Nat.le_of_ble_eq_true rfl) ?_
 unfold Hi at h
 conv=>whnf
 refine LoopQ.o [7,3,1,2] (L0 a0 t0) (R3 a0 t0) h (fun s o h=>Aaf s o h) (by first | rfl | simp [restrict,look,Aa,V.fz,fzL,V.up,upL,Ab,Ac,Ad,slr]) (by rintro (_ | _)<;>rfl) ?_
 rintro (⟨⟩ | q15_2) h
 ·try dsimp only at h
  conv=>whnf
  cases h;exact (by first | rfl | simp only [Ah,Aa,V.fz,fzL,V.up,upL,Ab,Ac,Ad,slr] | simp [Ah,Aa,V.fz,fzL,V.up,upL,Ab,Ac,Ad,slr])
 try dsimp only at h
 conv=>whnf
 cases h;exact (by first | rfl | simp only [Ah,Aa,V.fz,fzL,V.up,upL,Ab,Ac,Ad,slr] | simp [Ah,Aa,V.fz,fzL,V.up,upL,Ab,Ac,Ad,slr])
noncomputable def Dk (a0:SAlgebra) (_op0:Int) (args0:List Int):(Int×Int)→Option ((Int×Int) ⊕ Int):=fun (x8,x7)=>
 if x8<(↑args0.length:Int) then
 ask (InI (x7*a0.Size)) <|
 ask ((0:Int)≤x8∧x8<(↑args0.length:Int)) <|
 ask (InI (x7*a0.Size+nth args0 x8.toNat)) <|
 ask (InI (x8+(1:Int))) <|
 some (.inl (x8+(1:Int),x7*a0.Size+nth args0 x8.toNat))
 else
 some (.inr x7)
def Jb (a0:SAlgebra) (op0:Int) (args0:List Int):(Int×Int)→St:=fun s=>[(8,A.val (Af s.1)),(7,A.val (Af s.2)),(3,A.val ((rP true (Ag false)) (a0))),(1,A.val (Af (op0))),(2,A.val ((slr false 1 Af) (args0)))]
def Ol (a0:SAlgebra) (op0:Int) (_args0:List Int):Int→Tgt
 | s=>((Ex.exit 0),[7,3,1],[(7,A.val (Af s)),(3,A.val ((rP true (Ag false)) (a0))),(1,A.val (Af (op0)))])
theorem Xl {a0:SAlgebra} {op0:Int} {args0:List Int} (s:(Int×Int)) (o:(Int×Int) ⊕ Int) (h:Dk a0 op0 args0 s=some o):vc Try.prog Ny (Eu [8,7,3,1,2] (Jb a0 op0 args0) (Ol a0 op0 args0) o) (Jb a0 op0 args0 s):=by
 obtain ⟨x8,x7⟩:=s
 unfold Dk at h
 try dsimp only at h
 conv=>whnf
 refine Len.map ?_
 conv=>whnf
 refine Br.od h (fun p1 h=> ?_) (fun p1 h=> ?_)
 ·conv=>whnf
  refine Cells.lit rfl rfl ?_
  conv=>whnf
  refine Ask.o h fun p2 h=> ?_
  conv=>whnf
  refine Len.map ?_
  conv=>whnf
  refine Ask.o h fun p3 h=> ?_
  conv=>whnf
  refine Elem.o (by first | omega | (simp [Ba] at * <;> omega)) ?_
  conv=>whnf
  refine Ask.o h fun p4 h=> ?_
  conv=>whnf
  refine Ask.o h fun p5 h=> ?_
  conv=>whnf
  cases h;exact ⟨rfl,rfl⟩
 conv=>whnf
 cases h;exact ⟨rfl,rfl⟩
noncomputable def G9 (a0:SAlgebra) (op0:Int) (args0:(List Int)):Option Int:=
 (Ay (Dk a0 op0 args0) ((0:Int),(0:Int))).bind fun q6_7=>
 ask ((0:Int)≤op0∧op0<(↑a0.Ops.length:Int)) <|
 ask ((0:Int)≤q6_7∧q6_7<(↑(nth a0.Ops op0.toNat).Table.length:Int)) <|
 some (nth (nth a0.Ops op0.toNat).Table q6_7.toNat)
theorem Ace {a0:SAlgebra} {op0:Int} {args0:(List Int)} {v:Int} (h:G9 a0 op0 args0=some v):Ret Try.prog M3 [(Ag false) a0,Af op0,(slr false 1 Af) args0] (Af v):=by
 refine Bp Ac0 (Nat.le_of_ble_eq_true rfl) ?_
 unfold G9 at h
 conv=>whnf
 refine LoopQ.o [8,7,3,1,2] (Jb a0 op0 args0) (Ol a0 op0 args0) h (fun s o h=>Xl s o h) (by first | rfl | simp [restrict,look,Aa,V.fz,fzL,V.up,upL,Ab,Ac,Ad,slr]) (fun _=>rfl) ?_
 rintro q6_7 h
 try dsimp only at h
 conv=>whnf
 refine Cells.lit rfl rfl ?_
 conv=>whnf
 refine Len.map ?_
 conv=>whnf
 refine Ask.o h fun p7 h=> ?_
 conv=>whnf
 refine Elem.o (by first | omega | (simp [Ba] at * <;> omega)) ?_
 conv=>whnf
 refine Len.map ?_
 conv=>whnf
 refine Ask.o h fun p8 h=> ?_
 conv=>whnf
 refine Elem.o (by first | omega | (simp [Ba] at * <;> omega)) ?_
 conv=>whnf
 cases h;exact (by first | rfl | simp only [Ah,Aa,V.fz,fzL,V.up,upL,Ab,Ac,Ad,slr] | simp [Ah,Aa,V.fz,fzL,V.up,upL,Ab,Ac,Ad,slr])
noncomputable def Kp (f0:SOp) (g0:SOp):Option Bool:=
 if f0.Arity=g0.Arity then
 (F5 (f0.Table) (g0.Table)).bind fun r2=>
 some r2
 else
 some false
theorem Abq {f0:SOp} {g0:SOp} {v:Bool} (h:Kp f0 g0=some v):Ret Try.prog Q3 [(Bb false) f0,(Bb false) g0] (V.bool v):=by
 refine Bp Ak7 (Nat.le_of_ble_eq_true rfl) ?_
 unfold Kp at h
 conv=>whnf
 refine Cells.lit rfl rfl ?_
 conv=>whnf
 refine Cells.lit rfl rfl ?_
 conv=>whnf
 refine Br.oe h (fun p1 h=> ?_) (fun p1 h=> ?_)
 ·conv=>whnf
  refine Br.yes ?_
  conv=>whnf
  refine Cells.lit rfl rfl ?_
  conv=>whnf
  refine Br.yes ?_
  conv=>whnf
  refine Br.yes ?_
  conv=>whnf
  refine Cells.lit rfl rfl ?_
  conv=>whnf
  refine Br.yes ?_
  conv=>whnf
  refine CallQ.o V.bool (by first | rfl | simp only [Aa,V.fz,fzL,V.up,upL,Ab,Ac,Ad,slr,List.cons_append,List.nil_append] | simp [Aa,V.fz,fzL,V.up,upL,Ab,Ac,Ad,slr]) h (fun r h=>Wk h) (fun r2 h=> ?_)
  conv=>whnf
  refine Br.yes ?_
  conv=>whnf
  cases h;exact (by first | rfl | simp only [Ah,Aa,V.fz,fzL,V.up,upL,Ab,Ac,Ad,slr] | simp [Ah,Aa,V.fz,fzL,V.up,upL,Ab,Ac,Ad,slr])
 conv=>whnf
 refine Br.no ?_
 conv=>whnf
 refine Br.no ?_
 conv=>whnf
 refine Br.no ?_
 conv=>whnf
 refine Br.no ?_
 conv=>whnf
 refine Br.no ?_
 conv=>whnf
 cases h;exact (by first | rfl | simp only [Ah,Aa,V.fz,fzL,V.up,upL,Ab,Ac,Ad,slr] | simp [Ah,Aa,V.fz,fzL,V.up,upL,Ab,Ac,Ad,slr])
end Go.Proofs.Ytmcbocbcpijgeaa.Ax
