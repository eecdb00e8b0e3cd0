/-
 What the functions compute, as functions on plain data, and that the program does compute it; written by program.
-/
import Derived.Test.YtmkgjnphianalaaGreatCode
namespace Go.Proofs.YtmkgjnphianalaaGreat.Ax
open Go
set_option maxRecDepth 100000
set_option maxHeartbeats 4000000
noncomputable def Vp (code0:(List Int)):Option Bool:=
 some (decide ((↑code0.length:Int)>(65536:Int)))
theorem Axe {code0:(List Int)} {v:Bool} (h:Vp code0=some v):Ret Tryz.prog Ada [(slr false 1 (V.int IntKind.u8)) code0] (V.bool v):=by
 refine A6 Axi (Nat.le_of_ble_eq_true rfl) ?_
 unfold Vp at h
 refine Len.map ?_
 cases h;exact (by rfl)
noncomputable def F1 (a0:List Int) (b0:List Int):Int→Option (Int ⊕ (Unit ⊕ Unit)):=fun x5=>
 if x5<(↑a0.length:Int) then
 ask ((0:Int)≤x5∧x5<(↑a0.length:Int)) <|
 ask ((0:Int)≤x5∧x5<(↑b0.length:Int)) <|
 if nth a0 x5.toNat≠nth b0 x5.toNat then
 some (.inr (.inl ()))
 else
 ask (InI (x5+(1:Int))) <|
 some (.inl (x5+(1:Int)))
 else
 some (.inr (.inr ()))
def Sb (a0:List Int) (b0:List Int):Int→St:=fun s=>[(5,A.val (Ag s)),(0,A.val ((slr false 1 Ag) (a0))),(1,A.val ((slr false 1 Ag) (b0)))]
def Aae (_a0:List Int) (_b0:List Int):(Unit ⊕ Unit)→Tgt
 | (.inl _s)=>(Ex.ret,[4],[(4,A.val (V.bool (false)))])
 | (.inr _s)=>((Ex.exit 0),[],[])
theorem Aly {a0:List Int} {b0:List Int} (x5:Int) (o:Int ⊕ (Unit ⊕ Unit)) (h:F1 a0 b0 x5=some o):vc Tryz.prog Aaj (Cr [5,0,1] (Sb a0 b0) (Aae a0 b0) o) (Sb a0 b0 x5):=by
 unfold F1 at h
 try dsimp only at h
 refine Len.map<|Br.od h (fun p2 h=> ?_) (fun p2 h=> ?_)
 ·refine Len.map<|Ask.o h fun p3 h=>Elem.o (by first | omega | (simp [Aq] at * <;> omega))<|Len.map<|Ask.o h fun p4 h=>Elem.o (by first | omega | (simp [Aq] at * <;> omega))<|Br.on h (fun p5 h=> ?_) (fun p5 h=> ?_)
  ·cases h;exact ⟨rfl,rfl⟩
  refine Ask.o h fun p6 h=> ?_
  cases h;exact ⟨rfl,rfl⟩
 cases h;exact ⟨rfl,rfl⟩
noncomputable def Lk (a0:(List Int)) (b0:(List Int)):Option Bool:=
 if (↑a0.length:Int)≠(↑b0.length:Int) then
 some false
 else
 (Aj (F1 a0 b0) (0:Int)).bind fun t=>match t with
 | (.inl _)=>(some false)
 | (.inr _)=>(some true)
theorem Ahe {a0:(List Int)} {b0:(List Int)} {v:Bool} (h:Lk a0 b0=some v):Ret Tryz.prog S0 [(slr false 1 Ag) a0,(slr false 1 Ag) b0] (V.bool v):=by
 refine A6 Avr (Nat.le_of_ble_eq_true rfl) ?_
 unfold Lk at h
 refine Len.map<|Len.map<|Br.on h (fun p1 h=> ?_) (fun p1 h=> ?_)
 ·cases h;exact (by rfl)
 refine LoopQ.o [5,0,1] (Sb a0 b0) (Aae a0 b0) h (fun s o h=>Aly s o h) (by rfl) (by rintro (_ | _)<;>rfl) ?_
 rintro (⟨⟩ | ⟨⟩) h
 ·try dsimp only at h
  cases h;exact (by rfl)
 try dsimp only at h
 cases h;exact (by rfl)
noncomputable def Ls (_f0:(List Int)):Option Bool:=
 some true
theorem Aed {f0:(List Int)} {v:Bool} (h:Ls f0=some v):Ret Tryz.prog L5 [(slr false 1 Ag) f0] (V.bool v):=by
 refine A6 Ary (Nat.le_of_ble_eq_true rfl) ?_
 unfold Ls at h
 cases h;exact (by rfl)
noncomputable def Oz (a0:Int) (b0:Int):Option Int:=
 if a0<b0 then
 some a0
 else
 some b0
theorem Apx {a0:Int} {b0:Int} {v:Int} (h:Oz a0 b0=some v):Ret Tryz.prog Tx [Ag a0,Ag b0] (Ag v):=by
 refine A6 Apb (Nat.le_of_ble_eq_true rfl) ?_
 unfold Oz at h
 refine Br.od h (fun p1 h=> ?_) (fun p1 h=> ?_)
 ·cases h;exact (by rfl)
 cases h;exact (by rfl)
noncomputable def Ig (have0:List Bool):(Int×(List Int))→Option ((Int×(List Int)) ⊕ (List Int)):=fun (x9,x3)=>
 if x9<(↑have0.length:Int) then
 ask ((0:Int)≤x9∧x9<(↑have0.length:Int)) <|
 if (nth have0 x9.toNat)=true then
 ask ((x3).length+([x9]).length≤LIM) <|
 ask (InI (x9+(1:Int))) <|
 some (.inl (x9+(1:Int),x3++[x9]))
 else
 ask (InI (x9+(1:Int))) <|
 some (.inl (x9+(1:Int),x3))
 else
 some (.inr x3)
def Ps (have0:List Bool):(Int×(List Int))→St:=fun s=>[(9,A.val (Ag s.1)),(8,A.val (Ag ((↑have0.length:Int)))),(7,A.val ((slr false 1 V.bool) (have0))),(3,A.val ((slr true 1 Ag) s.2))]
def Xk (_have0:List Bool):(List Int)→Tgt
 | s=>((Ex.exit 0),[3],[(3,A.val ((slr true 1 Ag) s))])
theorem Aib {have0:List Bool} (s:(Int×(List Int))) (o:(Int×(List Int)) ⊕ (List Int)) (h:Ig have0 s=some o):vc Tryz.prog Yy (Cr [9,8,7,3] (Ps have0) (Xk have0) o) (Ps have0 s):=by
 obtain ⟨x9,x3⟩:=s
 unfold Ig at h
 try dsimp only at h
 refine Br.od h (fun p1 h=> ?_) (fun p1 h=> ?_)
 ·refine Len.map<|Ask.o h fun p2 h=>Elem.o (by first | omega | (simp [Aq] at * <;> omega))<|Br.ob h (fun p3 h=> ?_) (fun p3 h=> ?_)
  ·refine BslQ.o Ag [x9] (by exact fun _=>⟨rfl,rfl⟩) (by first | rfl | (simp only [Aa,V.fz,fzL,V.up,upL,Ab,Ac,Ad,slr,List.cons_append,List.nil_append];done) | simp [Aa,V.fz,fzL,V.up,upL,Ab,Ac,Ad,slr])<|NoOwn.o (fun _=>rfl)<|AppQ.o (m:=1) Ag (by exact fun _=>⟨rfl,rfl⟩) (x3) ([x9]) (by rfl) (by rfl) h fun h=>Ask.o h fun p4 h=> ?_
   cases h;exact ⟨rfl,rfl⟩
  refine Ask.o h fun p5 h=> ?_
  cases h;exact ⟨rfl,rfl⟩
 cases h;exact ⟨rfl,rfl⟩
noncomputable def Mb (have0:(List Bool)):Option (List Int):=
 (Aj (Ig have0) ((0:Int),Al Int)).bind fun q6_3=>
 some q6_3
theorem Aq3 {have0:(List Bool)} {v:(List Int)} (h:Mb have0=some v):Ret Tryz.prog Wz [(slr false 1 V.bool) have0] ((slr true 1 Ag) v):=by
 refine A6 Ars (Nat.le_of_ble_eq_true rfl) ?_
 unfold Mb at h
 refine BslQ.o Ag (Al Int) (by exact fun _=>⟨rfl,rfl⟩) (by first | rfl | (simp only [Aa,V.fz,fzL,V.up,upL,Ab,Ac,Ad,slr,List.cons_append,List.nil_append];done) | simp [Aa,V.fz,fzL,V.up,upL,Ab,Ac,Ad,slr])<|Len.map<|LoopQ.o [9,8,7,3] (Ps have0) (Xk have0) h (fun s o h=>Aib s o h) (by rfl) (fun _=>rfl) ?_
 rintro q6_3 h
 try dsimp only at h
 cases h;exact (by rfl)
noncomputable def Et (l0:List Int) (n0:Int):Int→Option (Int ⊕ Int):=fun x5=>
 if x5<(↑l0.length:Int) then
 ask ((0:Int)≤x5∧x5<(↑l0.length:Int)) <|
 if nth l0 x5.toNat<n0 then
 ask (InI (x5+(1:Int))) <|
 some (.inl (x5+(1:Int)))
 else
 some (.inr x5)
 else
 some (.inr x5)
def Sc (l0:List Int) (n0:Int):Int→St:=fun s=>[(5,A.val (Ag s)),(0,A.val ((slr false 1 Ag) (l0))),(1,A.val (Ag (n0)))]
def Aaf (l0:List Int) (n0:Int):Int→Tgt
 | s=>((Ex.exit 0),[5,0,1],[(5,A.val (Ag s)),(0,A.val ((slr false 1 Ag) (l0))),(1,A.val (Ag (n0)))])
theorem Alt {l0:List Int} {n0:Int} (x5:Int) (o:Int ⊕ Int) (h:Et l0 n0 x5=some o):vc Tryz.prog Aag (Cr [5,0,1] (Sc l0 n0) (Aaf l0 n0) o) (Sc l0 n0 x5):=by
 unfold Et at h
 try dsimp only at h
 refine Len.map<|Br.od h (fun p1 h=> ?_) (fun p1 h=> ?_)
 ·refine Br.yes<|Br.yes<|Len.map<|Ask.o h fun p2 h=>Elem.o (by first | omega | (simp [Aq] at * <;> omega))<|Br.yes<|Br.yes<|Br.yes<|Br.yes<|Br.od h (fun p3 h=> ?_) (fun p3 h=> ?_)
  ·refine Ask.o h fun p4 h=> ?_
   cases h;exact ⟨rfl,rfl⟩
  cases h;exact ⟨rfl,rfl⟩
 refine Br.no<|Br.no<|Br.no<|Br.no<|Br.no<|Br.no<|Br.no ?_
 cases h;exact ⟨rfl,rfl⟩
noncomputable def Oa (l0:(List Int)) (n0:Int):Option (List Int):=
 (Aj (Et l0 n0) (0:Int)).bind fun q5_5=>
 ((if q5_5<(↑l0.length:Int) then
 ask ((0:Int)≤q5_5∧q5_5<(↑l0.length:Int)) <|
 if nth l0 q5_5.toNat=n0 then
 some (.inl ())
 else
 some (.inr ())
 else
 some (.inr ()):Option (Unit ⊕ Unit))).bind fun t=>match t with
 | (.inl _)=>(some l0)
 | (.inr _)=>(ask (0≤(0:Int)∧(0:Int)≤q5_5∧q5_5≤((l0.length:Nat):Int)) <|
 ask ((Al Int).length+(List.take (q5_5.toNat-Int.toNat (0:Int)) (List.drop (Int.toNat (0:Int)) l0)).length≤LIM) <|
 ask ((Al Int++List.take (q5_5.toNat-Int.toNat (0:Int)) (List.drop (Int.toNat (0:Int)) l0)).length+([n0]).length≤LIM) <|
 ask (0≤q5_5∧q5_5≤(↑l0.length:Int)∧(↑l0.length:Int)≤((l0.length:Nat):Int)) <|
 ask ((Al Int++List.take (q5_5.toNat-Int.toNat (0:Int)) (List.drop (Int.toNat (0:Int)) l0)++[n0]).length+(List.take ((↑l0.length:Int).toNat-q5_5.toNat) (List.drop q5_5.toNat l0)).length≤LIM) <|
 some (Al Int++List.take (q5_5.toNat-Int.toNat (0:Int)) (List.drop (Int.toNat (0:Int)) l0)++[n0]++List.take ((↑l0.length:Int).toNat-q5_5.toNat) (List.drop q5_5.toNat l0)))
theorem Avv {l0:(List Int)} {n0:Int} {v:(List Int)} (h:Oa l0 n0=some v):Ret Tryz.prog Z1 [(slr false 1 Ag) l0,Ag n0] ((slr false 1 Ag) v):=by
 refine Ih Awh (Nat.le_of_ble_eq_true rfl) ?_
 unfold Oa at h
 conv=>whnf
 refine LoopQ.o [5,0,1] (Sc l0 n0) (Aaf l0 n0) h (fun s o h=>Alt s o h) (by rfl) (fun _=>rfl) ?_
 rintro q5_5 h
 try dsimp only at h
 conv=>whnf
 refine CutQ.o (fun t:(Unit ⊕ Unit)=>match t with | (.inl s)=>(Ex.ret,[4],[(4,A.val ((slr false 1 Ag) (l0)))]) | (.inr s)=>(Ex.normal,[5,0,1],[(5,A.val (Ag (q5_5))),(0,A.val ((slr false 1 Ag) (l0))),(1,A.val (Ag (n0)))])) h ?_ ?_
 ·intro t h
  conv=>whnf
  refine Len.map ?_
  conv=>whnf
  refine Br.od h (fun p6 h=> ?_) (fun p6 h=> ?_)
  ·conv=>whnf
   refine Br.yes ?_
   conv=>whnf
   refine Br.yes ?_
   conv=>whnf
   refine Len.map ?_
   conv=>whnf
   refine Ask.o h fun p7 h=> ?_
   conv=>whnf
   refine Elem.o (by first | omega | (simp [Aq] at * <;> omega)) ?_
   conv=>whnf
   refine Br.yes ?_
   conv=>whnf
   refine Br.yes ?_
   conv=>whnf
   refine Br.yes ?_
   conv=>whnf
   refine Br.yes ?_
   conv=>whnf
   refine Br.oe h (fun p8 h=> ?_) (fun p8 h=> ?_)
   ·conv=>whnf
    cases h;exact ⟨rfl,rfl⟩
   conv=>whnf
   cases h;exact ⟨rfl,rfl⟩
  conv=>whnf
  refine Br.no ?_
  conv=>whnf
  refine Br.no ?_
  conv=>whnf
  refine Br.no ?_
  conv=>whnf
  refine Br.no ?_
  conv=>whnf
  refine Br.no ?_
  conv=>whnf
  refine Br.no ?_
  conv=>whnf
  refine Br.no ?_
  conv=>whnf
  cases h;exact ⟨rfl,rfl⟩
 rintro (⟨⟩ | ⟨⟩) h
 ·try dsimp only at h
  conv=>whnf
  cases h;exact (by rfl)
 try dsimp only at h
 conv=>whnf
 refine BslQ.o Ag (Al Int) (by exact fun _=>⟨rfl,rfl⟩) (by first | rfl | (simp only [Aa,V.fz,fzL,V.up,upL,Ab,Ac,Ad,slr,List.cons_append,List.nil_append];done) | simp [Aa,V.fz,fzL,V.up,upL,Ab,Ac,Ad,slr]) ?_
 conv=>whnf
 refine SlcQ.o Ag h fun h=> ?_
 conv=>whnf
 refine AppQ.o (m:=1) Ag (by exact fun _=>⟨rfl,rfl⟩) (Al Int) (List.take (q5_5.toNat-Int.toNat (0:Int)) (List.drop (Int.toNat (0:Int)) l0)) (by rfl) (by rfl) h fun h=> ?_
 conv=>whnf
 refine BslQ.o Ag [n0] (by exact fun _=>⟨rfl,rfl⟩) (by first | rfl | (simp only [Aa,V.fz,fzL,V.up,upL,Ab,Ac,Ad,slr,List.cons_append,List.nil_append];done) | simp [Aa,V.fz,fzL,V.up,upL,Ab,Ac,Ad,slr]) ?_
 conv=>whnf
 refine NoOwn.o (fun _=>rfl) ?_
 conv=>whnf
 refine AppQ.o (m:=1) Ag (by exact fun _=>⟨rfl,rfl⟩) (Al Int++List.take (q5_5.toNat-Int.toNat (0:Int)) (List.drop (Int.toNat (0:Int)) l0)) ([n0]) (by rfl) (by rfl) h fun h=> ?_
 conv=>whnf
 refine Len.map ?_
 conv=>whnf
 refine SlcQ.o Ag h fun h=> ?_
 conv=>whnf
 refine AppQ.o (m:=1) Ag (by exact fun _=>⟨rfl,rfl⟩) (Al Int++List.take (q5_5.toNat-Int.toNat (0:Int)) (List.drop (Int.toNat (0:Int)) l0)++[n0]) (List.take ((↑l0.length:Int).toNat-q5_5.toNat) (List.drop q5_5.toNat l0)) (by rfl) (by rfl) h fun h=> ?_
 conv=>whnf
 cases h;exact (by first | rfl | simp only [Ah,Ac,slr] | simp [Ah,Aa,V.fz,fzL,V.up,upL,Ab,Ac,Ad,slr])
noncomputable def D3 (a0:List Int) (b0:List Int):Int→Option (Int ⊕ (Unit ⊕ Unit)):=fun x14=>
 if x14<(↑a0.length:Int) then
 ask ((0:Int)≤x14∧x14<(↑a0.length:Int)) <|
 ask ((0:Int)≤x14∧x14<(↑b0.length:Int)) <|
 if nth b0 x14.toNat≠nth a0 x14.toNat then
 some (.inr (.inl ()))
 else
 ask (InI (x14+(1:Int))) <|
 some (.inl (x14+(1:Int)))
 else
 some (.inr (.inr ()))
def Mm (a0:List Int) (b0:List Int):Int→St:=fun s=>[(14,A.val (Ag s)),(13,A.val (Ag ((↑a0.length:Int)))),(12,A.val ((slr false 1 Ag) (a0))),(1,A.val ((slr false 1 Ag) (b0)))]
def Tp (_a0:List Int) (_b0:List Int):(Unit ⊕ Unit)→Tgt
 | (.inl _s)=>(Ex.ret,[4],[(4,A.val (V.bool (false)))])
 | (.inr _s)=>((Ex.exit 0),[],[])
theorem Aep {a0:List Int} {b0:List Int} (x14:Int) (o:Int ⊕ (Unit ⊕ Unit)) (h:D3 a0 b0 x14=some o):vc Tryz.prog Tf (Cr [14,13,12,1] (Mm a0 b0) (Tp a0 b0) o) (Mm a0 b0 x14):=by
 unfold D3 at h
 try dsimp only at h
 refine Br.od h (fun p2 h=> ?_) (fun p2 h=> ?_)
 ·refine Len.map<|Ask.o h fun p3 h=>Elem.o (by first | omega | (simp [Aq] at * <;> omega))<|Len.map<|Ask.o h fun p4 h=>Elem.o (by first | omega | (simp [Aq] at * <;> omega))<|Br.on h (fun p5 h=> ?_) (fun p5 h=> ?_)
  ·cases h;exact ⟨rfl,rfl⟩
  refine Ask.o h fun p6 h=> ?_
  cases h;exact ⟨rfl,rfl⟩
 cases h;exact ⟨rfl,rfl⟩
noncomputable def Hc (a0:(List Int)) (b0:(List Int)):Option Bool:=
 if (↑a0.length:Int)≠(↑b0.length:Int) then
 some false
 else
 (Aj (D3 a0 b0) (0:Int)).bind fun t=>match t with
 | (.inl _)=>(some false)
 | (.inr _)=>(some true)
theorem Aap {a0:(List Int)} {b0:(List Int)} {v:Bool} (h:Hc a0 b0=some v):Ret Tryz.prog Mg [(slr false 1 Ag) a0,(slr false 1 Ag) b0] (V.bool v):=by
 refine A6 Amf (Nat.le_of_ble_eq_true rfl) ?_
 unfold Hc at h
 refine Len.map<|Len.map<|Br.on h (fun p1 h=> ?_) (fun p1 h=> ?_)
 ·cases h;exact (by rfl)
 refine Len.map<|LoopQ.o [14,13,12,1] (Mm a0 b0) (Tp a0 b0) h (fun s o h=>Aep s o h) (by rfl) (by rintro (_ | _)<;>rfl) ?_
 rintro (⟨⟩ | ⟨⟩) h
 ·try dsimp only at h
  cases h;exact (by rfl)
 try dsimp only at h
 cases h;exact (by rfl)
noncomputable def Ek (f0:List Int) (g0:List Int):(Int×(List Int))→Option ((Int×(List Int)) ⊕ (List Int)):=fun (x13,x5)=>
 if x13<(↑f0.length:Int) then
 ask ((0:Int)≤x13∧x13<(↑f0.length:Int)) <|
 ask ((0:Int)≤nth f0 x13.toNat∧nth f0 x13.toNat<(↑g0.length:Int)) <|
 ask ((0:Int)≤x13∧x13<(↑x5.length:Int)) <|
 ask (InI (x13+(1:Int))) <|
 some (.inl (x13+(1:Int),x5.set x13.toNat (nth g0 (nth f0 x13.toNat).toNat)))
 else
 some (.inr x5)
def N0 (f0:List Int) (g0:List Int):(Int×(List Int))→St:=fun s=>[(13,A.val (Ag s.1)),(12,A.val (Ag ((↑f0.length:Int)))),(11,A.val ((slr false 1 Ag) (f0))),(5,A.val ((slr true 1 Ag) s.2)),(1,A.val ((slr false 1 Ag) (g0)))]
def Vo (_f0:List Int) (_g0:List Int):(List Int)→Tgt
 | s=>((Ex.exit 0),[5],[(5,A.val ((slr true 1 Ag) s))])
theorem Agz {f0:List Int} {g0:List Int} (s:(Int×(List Int))) (o:(Int×(List Int)) ⊕ (List Int)) (h:Ek f0 g0 s=some o):vc Tryz.prog Wh (Cr [13,12,11,5,1] (N0 f0 g0) (Vo f0 g0) o) (N0 f0 g0 s):=by
 obtain ⟨x13,x5⟩:=s
 unfold Ek at h
 try dsimp only at h
 refine Br.od h (fun p2 h=> ?_) (fun p2 h=> ?_)
 ·refine Len.map<|Ask.o h fun p3 h=>Elem.o (by first | omega | (simp [Aq] at * <;> omega))<|Len.map<|Ask.o h fun p4 h=>Elem.o (by first | omega | (simp [Aq] at * <;> omega))<|Len.map<|Ask.o h fun p5 h=>SetKids.one (fun _=>⟨rfl,rfl⟩) (nth g0 (nth f0 x13.toNat).toNat) (by rfl) (by first | omega | (simp [Aq] at * <;> omega))<|Ask.o h fun p6 h=> ?_
  cases h;exact ⟨rfl,rfl⟩
 cases h;exact ⟨rfl,rfl⟩
noncomputable def K9 (f0:(List Int)) (g0:(List Int)):Option (List Int):=
 ask ((0:Int)≤(↑f0.length:Int)∧(↑f0.length:Int)≤(↑LIM:Int)) <|
 (Aj (Ek f0 g0) ((0:Int),List.replicate (↑f0.length:Int).toNat (0:Int))).bind fun q7_5=>
 some q7_5
theorem Anl {f0:(List Int)} {g0:(List Int)} {v:(List Int)} (h:K9 f0 g0=some v):Ret Tryz.prog Ty [(slr false 1 Ag) f0,(slr false 1 Ag) g0] ((slr true 1 Ag) v):=by
 refine A6 Ap2 (Nat.le_of_ble_eq_true rfl) ?_
 unfold K9 at h
 refine Len.map<|Ask.o h fun p1 h=>MkQ.o Ag ((0:Int)) rfl<|Len.map<|LoopQ.o [13,12,11,5,1] (N0 f0 g0) (Vo f0 g0) h (fun s o h=>Agz s o h) (by rfl) (fun _=>rfl) ?_
 rintro q7_5 h
 try dsimp only at h
 cases h;exact (by rfl)
noncomputable def Fa (a0:List Int) (b0:List Int):Int→Option (Int ⊕ (Unit ⊕ Unit)):=fun x5=>
 if x5<(↑a0.length:Int) then
 ask ((0:Int)≤x5∧x5<(↑a0.length:Int)) <|
 ask ((0:Int)≤x5∧x5<(↑b0.length:Int)) <|
 if nth a0 x5.toNat≠nth b0 x5.toNat then
 some (.inr (.inl ()))
 else
 ask (InI (x5+(1:Int))) <|
 some (.inl (x5+(1:Int)))
 else
 some (.inr (.inr ()))
def Qa (a0:List Int) (b0:List Int):Int→St:=fun s=>[(5,A.val (Ag s)),(0,A.val ((slr false 1 Ag) (a0))),(1,A.val ((slr false 1 Ag) (b0)))]
def Yb (_a0:List Int) (_b0:List Int):(Unit ⊕ Unit)→Tgt
 | (.inl _s)=>(Ex.ret,[4],[(4,A.val (V.bool (false)))])
 | (.inr _s)=>((Ex.exit 0),[],[])
theorem Ajn {a0:List Int} {b0:List Int} (x5:Int) (o:Int ⊕ (Unit ⊕ Unit)) (h:Fa a0 b0 x5=some o):vc Tryz.prog Yv (Cr [5,0,1] (Qa a0 b0) (Yb a0 b0) o) (Qa a0 b0 x5):=by
 unfold Fa at h
 try dsimp only at h
 refine Len.map<|Br.od h (fun p2 h=> ?_) (fun p2 h=> ?_)
 ·refine Len.map<|Ask.o h fun p3 h=>Elem.o (by first | omega | (simp [Aq] at * <;> omega))<|Len.map<|Ask.o h fun p4 h=>Elem.o (by first | omega | (simp [Aq] at * <;> omega))<|Br.on h (fun p5 h=> ?_) (fun p5 h=> ?_)
  ·cases h;exact ⟨rfl,rfl⟩
  refine Ask.o h fun p6 h=> ?_
  cases h;exact ⟨rfl,rfl⟩
 cases h;exact ⟨rfl,rfl⟩
noncomputable def Hy (a0:(List Int)) (b0:(List Int)):Option Bool:=
 if (↑a0.length:Int)≠(↑b0.length:Int) then
 some false
 else
 (Aj (Fa a0 b0) (0:Int)).bind fun t=>match t with
 | (.inl _)=>(some false)
 | (.inr _)=>(some true)
theorem Wu {a0:(List Int)} {b0:(List Int)} {v:Bool} (h:Hy a0 b0=some v):Ret Tryz.prog L6 [(slr false 1 Ag) a0,(slr false 1 Ag) b0] (V.bool v):=by
 refine A6 Asx (Nat.le_of_ble_eq_true rfl) ?_
 unfold Hy at h
 refine Len.map<|Len.map<|Br.on h (fun p1 h=> ?_) (fun p1 h=> ?_)
 ·cases h;exact (by rfl)
 refine LoopQ.o [5,0,1] (Qa a0 b0) (Yb a0 b0) h (fun s o h=>Ajn s o h) (by rfl) (by rintro (_ | _)<;>rfl) ?_
 rintro (⟨⟩ | ⟨⟩) h
 ·try dsimp only at h
  cases h;exact (by rfl)
 try dsimp only at h
 cases h;exact (by rfl)
noncomputable def Cd (f0:List Int) (args0:List Int):(Int×(List Int))→Option ((Int×(List Int)) ⊕ (List Int)):=fun (x6,x5)=>
 if x6<(↑args0.length:Int) then
 ask ((0:Int)≤x6∧x6<(↑args0.length:Int)) <|
 ask ((0:Int)≤nth args0 x6.toNat∧nth args0 x6.toNat<(↑f0.length:Int)) <|
 ask ((x5).length+([nth f0 (nth args0 x6.toNat).toNat]).length≤LIM) <|
 ask (InI (x6+(1:Int))) <|
 some (.inl (x6+(1:Int),x5++[nth f0 (nth args0 x6.toNat).toNat]))
 else
 some (.inr x5)
def M0 (f0:List Int) (args0:List Int):(Int×(List Int))→St:=fun s=>[(6,A.val (Ag s.1)),(5,A.val ((slr true 1 Ag) s.2)),(0,A.val ((slr false 1 Ag) (f0))),(1,A.val ((slr false 1 Ag) (args0)))]
def Tl (_f0:List Int) (_args0:List Int):(List Int)→Tgt
 | s=>((Ex.exit 0),[5],[(5,A.val ((slr true 1 Ag) s))])
theorem Aey {f0:List Int} {args0:List Int} (s:(Int×(List Int))) (o:(Int×(List Int)) ⊕ (List Int)) (h:Cd f0 args0 s=some o):vc Tryz.prog Ue (Cr [6,5,0,1] (M0 f0 args0) (Tl f0 args0) o) (M0 f0 args0 s):=by
 obtain ⟨x6,x5⟩:=s
 unfold Cd at h
 try dsimp only at h
 refine Len.map<|Br.od h (fun p1 h=> ?_) (fun p1 h=> ?_)
 ·refine Len.map<|Ask.o h fun p2 h=>Elem.o (by first | omega | (simp [Aq] at * <;> omega))<|Len.map<|Ask.o h fun p3 h=>Elem.o (by first | omega | (simp [Aq] at * <;> omega))<|BslQ.o Ag ([nth f0 (nth args0 x6.toNat).toNat]) (by exact fun _=>⟨rfl,rfl⟩) (by first | rfl | (simp only [Aa,V.fz,fzL,V.up,upL,Ab,Ac,Ad,slr,List.cons_append,List.nil_append];done) | simp [Aa,V.fz,fzL,V.up,upL,Ab,Ac,Ad,slr])<|NoOwn.o (fun _=>rfl)<|AppQ.o (m:=1) Ag (by exact fun _=>⟨rfl,rfl⟩) (x5) ([nth f0 (nth args0 x6.toNat).toNat]) (by rfl) (by rfl) h fun h=>Ask.o h fun p4 h=> ?_
  cases h;exact ⟨rfl,rfl⟩
 cases h;exact ⟨rfl,rfl⟩
noncomputable def Eo (f0:(List Int)) (args0:(List Int)):Option (List Int):=
 (Aj (Cd f0 args0) ((0:Int),Al Int)).bind fun q5_5=>
 some q5_5
theorem Aaw {f0:(List Int)} {args0:(List Int)} {v:(List Int)} (h:Eo f0 args0=some v):Ret Tryz.prog Mh [(slr false 1 Ag) f0,(slr false 1 Ag) args0] ((slr true 1 Ag) v):=by
 refine A6 Ali (Nat.le_of_ble_eq_true rfl) ?_
 unfold Eo at h
 refine BslQ.o Ag (Al Int) (by exact fun _=>⟨rfl,rfl⟩) (by first | rfl | (simp only [Aa,V.fz,fzL,V.up,upL,Ab,Ac,Ad,slr,List.cons_append,List.nil_append];done) | simp [Aa,V.fz,fzL,V.up,upL,Ab,Ac,Ad,slr])<|LoopQ.o [6,5,0,1] (M0 f0 args0) (Tl f0 args0) h (fun s o h=>Aey s o h) (by rfl) (fun _=>rfl) ?_
 rintro q5_5 h
 try dsimp only at h
 cases h;exact (by rfl)
noncomputable def Fj (list0:(List Int)):Option (List Int):=
 ask ((Al Int).length+(list0).length≤LIM) <|
 some (Al Int++list0)
theorem Om {list0:(List Int)} {v:(List Int)} (h:Fj list0=some v):Ret Tryz.prog Lc [(slr false 1 Ag) list0] ((slr true 1 Ag) v):=by
 refine A6 Avh (Nat.le_of_ble_eq_true rfl) ?_
 unfold Fj at h
 refine BslQ.o Ag (Al Int) (by exact fun _=>⟨rfl,rfl⟩) (by first | rfl | (simp only [Aa,V.fz,fzL,V.up,upL,Ab,Ac,Ad,slr,List.cons_append,List.nil_append];done) | simp [Aa,V.fz,fzL,V.up,upL,Ab,Ac,Ad,slr])<|AppQ.o (m:=1) Ag (by exact fun _=>⟨rfl,rfl⟩) (Al Int) (list0) (by rfl) (by rfl) h fun h=> ?_
 cases h;exact (by rfl)
noncomputable def Gb (n0:Int):(Int×Int)→Option ((Int×Int) ⊕ Int):=fun (x5,x1)=>
 if x1>(0:Int) then
 ask (InI (x5*n0)) <|
 ask (InI (x1-(1:Int))) <|
 some (.inl (x5*n0,x1-(1:Int)))
 else
 some (.inr x5)
def Sh (n0:Int):(Int×Int)→St:=fun s=>[(5,A.val (Ag s.1)),(0,A.val (Ag (n0))),(1,A.val (Ag s.2))]
def Aam (_n0:Int):Int→Tgt
 | s=>((Ex.exit 0),[5],[(5,A.val (Ag s))])
theorem Al3 {n0:Int} (s:(Int×Int)) (o:(Int×Int) ⊕ Int) (h:Gb n0 s=some o):vc Tryz.prog Aau (Cr [5,0,1] (Sh n0) (Aam n0) o) (Sh n0 s):=by
 obtain ⟨x5,x1⟩:=s
 unfold Gb at h
 try dsimp only at h
 refine Br.od h (fun p1 h=> ?_) (fun p1 h=> ?_)
 ·refine Ask.o h fun p2 h=>Ask.o h fun p3 h=> ?_
  cases h;exact ⟨rfl,rfl⟩
 cases h;exact ⟨rfl,rfl⟩
noncomputable def Hh (n0:Int) (k0:Int):Option Int:=
 (Aj (Gb n0) ((1:Int),k0)).bind fun q4_5=>
 some q4_5
theorem Zo {n0:Int} {k0:Int} {v:Int} (h:Hh n0 k0=some v):Ret Tryz.prog Nr [Ag n0,Ag k0] (Ag v):=by
 refine A6 Au1 (Nat.le_of_ble_eq_true rfl) ?_
 unfold Hh at h
 refine LoopQ.o [5,0,1] (Sh n0) (Aam n0) h (fun s o h=>Al3 s o h) (by rfl) (fun _=>rfl) ?_
 rintro q4_5 h
 try dsimp only at h
 cases h;exact (by rfl)
noncomputable def Ff (list0:List Int) (n0:Int):Int→Option (Int ⊕ (Unit ⊕ Unit)):=fun x9=>
 if x9<(↑list0.length:Int) then
 ask ((0:Int)≤x9∧x9<(↑list0.length:Int)) <|
 if nth list0 x9.toNat<(0:Int) then
 some (.inr (.inl ()))
 else
 if nth list0 x9.toNat≥n0 then
 some (.inr (.inl ()))
 else
 ask (InI (x9+(1:Int))) <|
 some (.inl (x9+(1:Int)))
 else
 some (.inr (.inr ()))
def P4 (list0:List Int) (n0:Int):Int→St:=fun s=>[(9,A.val (Ag s)),(8,A.val (Ag ((↑list0.length:Int)))),(7,A.val ((slr false 1 Ag) (list0))),(1,A.val (Ag (n0)))]
def Ym (_list0:List Int) (_n0:Int):(Unit ⊕ Unit)→Tgt
 | (.inl _s)=>(Ex.ret,[4],[(4,A.val (V.bool (false)))])
 | (.inr _s)=>((Ex.exit 0),[],[])
theorem Ah5 {list0:List Int} {n0:Int} (x9:Int) (o:Int ⊕ (Unit ⊕ Unit)) (h:Ff list0 n0 x9=some o):vc Tryz.prog Yg (Cr [9,8,7,1] (P4 list0 n0) (Ym list0 n0) o) (P4 list0 n0 x9):=by
 unfold Ff at h
 try dsimp only at h
 refine Br.od h (fun p1 h=> ?_) (fun p1 h=> ?_)
 ·refine Len.map<|Ask.o h fun p2 h=>Elem.o (by first | omega | (simp [Aq] at * <;> omega))<|Br.od h (fun p3 h=> ?_) (fun p3 h=> ?_)
  ·refine Br.yes<|Br.yes<|Br.yes<|Br.yes ?_
   cases h;exact ⟨rfl,rfl⟩
  refine Br.no<|Br.no<|Br.no<|Br.od h (fun p4 h=> ?_) (fun p4 h=> ?_)
  ·cases h;exact ⟨rfl,rfl⟩
  refine Ask.o h fun p5 h=> ?_
  cases h;exact ⟨rfl,rfl⟩
 cases h;exact ⟨rfl,rfl⟩
noncomputable def Hw (list0:(List Int)) (n0:Int):Option Bool:=
 (Aj (Ff list0 n0) (0:Int)).bind fun t=>match t with
 | (.inl _)=>(some false)
 | (.inr _)=>(some true)
theorem W7 {list0:(List Int)} {n0:Int} {v:Bool} (h:Hw list0 n0=some v):Ret Tryz.prog Ly [(slr false 1 Ag) list0,Ag n0] (V.bool v):=by
 refine A6 Ash (Nat.le_of_ble_eq_true rfl) ?_
 unfold Hw at h
 refine Len.map<|LoopQ.o [9,8,7,1] (P4 list0 n0) (Ym list0 n0) h (fun s o h=>Ah5 s o h) (by rfl) (by rintro (_ | _)<;>rfl) ?_
 rintro (⟨⟩ | ⟨⟩) h
 ·try dsimp only at h
  cases h;exact (by rfl)
 try dsimp only at h
 cases h;exact (by rfl)
noncomputable def Pk (n0:Int):(Int×(List Int)×Int)→Option ((Int×(List Int)×Int) ⊕ (List Int)):=fun (x8,x7,x0)=>
 if x8≥(0:Int) then
 ask (n0≠(0:Int)) <|
 ask ((0:Int)≤x8∧x8<(↑x7.length:Int)) <|
 ask (n0≠(0:Int)∧InI (x0.tdiv n0)) <|
 ask (InI (x8-(1:Int))) <|
 some (.inl (x8-(1:Int),x7.set x8.toNat (x0.tmod n0),x0.tdiv n0))
 else
 some (.inr x7)
def P2 (n0:Int):(Int×(List Int)×Int)→St:=fun s=>[(8,A.val (Ag s.1)),(7,A.val ((slr true 1 Ag) s.2.1)),(0,A.val (Ag s.2.2)),(2,A.val (Ag (n0)))]
def Xc (_n0:Int):(List Int)→Tgt
 | s=>((Ex.exit 0),[7],[(7,A.val ((slr true 1 Ag) s))])
theorem Ai3 {n0:Int} (s:(Int×(List Int)×Int)) (o:(Int×(List Int)×Int) ⊕ (List Int)) (h:Pk n0 s=some o):vc Tryz.prog Xb (Cr [8,7,0,2] (P2 n0) (Xc n0) o) (P2 n0 s):=by
 obtain ⟨x8,x7,x0⟩:=s
 unfold Pk at h
 try dsimp only at h
 refine Br.od h (fun p3 h=> ?_) (fun p3 h=> ?_)
 ·refine Ask.o h fun p4 h=>Len.map<|Ask.o h fun p5 h=>SetKids.one (fun _=>⟨rfl,rfl⟩) (x0.tmod n0) (by rfl) (by first | omega | (simp [Aq] at * <;> omega))<|Ask.o h fun p6 h=>Ask.o h fun p7 h=> ?_
  cases h;exact ⟨rfl,rfl⟩
 cases h;exact ⟨rfl,rfl⟩
noncomputable def L9 (i0:Int) (k0:Int) (n0:Int):Option (List Int):=
 ask ((0:Int)≤k0∧k0≤(↑LIM:Int)) <|
 ask (InI (k0-(1:Int))) <|
 (Aj (Pk n0) (k0-(1:Int),List.replicate k0.toNat (0:Int),i0)).bind fun q8_7=>
 some q8_7
theorem Aq5 {i0:Int} {k0:Int} {n0:Int} {v:(List Int)} (h:L9 i0 k0 n0=some v):Ret Tryz.prog W0 [Ag i0,Ag k0,Ag n0] ((slr true 1 Ag) v):=by
 refine A6 Asn (Nat.le_of_ble_eq_true rfl) ?_
 unfold L9 at h
 refine Ask.o h fun p1 h=>MkQ.o Ag ((0:Int)) rfl<|Ask.o h fun p2 h=>LoopQ.o [8,7,0,2] (P2 n0) (Xc n0) h (fun s o h=>Ai3 s o h) (by rfl) (fun _=>rfl) ?_
 rintro q8_7 h
 try dsimp only at h
 cases h;exact (by rfl)
end Go.Proofs.YtmkgjnphianalaaGreat.Ax
