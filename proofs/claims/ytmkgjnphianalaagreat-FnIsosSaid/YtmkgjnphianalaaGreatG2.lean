/-
 What the functions compute, as functions on plain data, and that the program does compute it; written by program.
-/
import Derived.Test.YtmkgjnphianalaaGreatCode
namespace Go.Proofs.YtmkgjnphianalaaGreat.Ax
open Go
set_option maxRecDepth 100000
set_option maxHeartbeats 4000000
noncomputable def El (args0:List Int) (n0:Int):(Int×Int)→Option ((Int×Int) ⊕ Int):=fun (x10,x5)=>
 if x10<(↑args0.length:Int) then
 ask ((0:Int)≤x10∧x10<(↑args0.length:Int)) <|
 ask (InI (x5*n0)) <|
 ask (InI (x5*n0+nth args0 x10.toNat)) <|
 ask (InI (x10+(1:Int))) <|
 some (.inl (x10+(1:Int),x5*n0+nth args0 x10.toNat))
 else
 some (.inr x5)
def Od (args0:List Int) (n0:Int):(Int×Int)→St:=fun s=>[(10,A.val (Ag s.1)),(9,A.val (Ag ((↑args0.length:Int)))),(8,A.val ((slr false 1 Ag) (args0))),(5,A.val (Ag s.2)),(1,A.val (Ag (n0)))]
def Vy (_args0:List Int) (_n0:Int):Int→Tgt
 | s=>((Ex.exit 0),[5],[(5,A.val (Ag s))])
theorem Af3 {args0:List Int} {n0:Int} (s:(Int×Int)) (o:(Int×Int) ⊕ Int) (h:El args0 n0 s=some o):vc Tryz.prog Vn (Cr [10,9,8,5,1] (Od args0 n0) (Vy args0 n0) o) (Od args0 n0 s):=by
 obtain ⟨x10,x5⟩:=s
 unfold El at h
 try dsimp only at h
 refine Br.od h (fun p1 h=> ?_) (fun p1 h=> ?_)
 ·refine Len.map<|Ask.o h fun p2 h=>Elem.o (by first | omega | (simp [Aq] at * <;> omega))<|Ask.o h fun p3 h=>Ask.o h fun p4 h=>Ask.o h fun p5 h=> ?_
  cases h;exact ⟨rfl,rfl⟩
 cases h;exact ⟨rfl,rfl⟩
noncomputable def Ks (args0:(List Int)) (n0:Int):Option Int:=
 (Aj (El args0 n0) ((0:Int),(0:Int))).bind fun q6_5=>
 some q6_5
theorem Anh {args0:(List Int)} {n0:Int} {v:Int} (h:Ks args0 n0=some v):Ret Tryz.prog Ua [(slr false 1 Ag) args0,Ag n0] (Ag v):=by
 refine A6 Aoy (Nat.le_of_ble_eq_true rfl) ?_
 unfold Ks at h
 refine Len.map<|LoopQ.o [10,9,8,5,1] (Od args0 n0) (Vy args0 n0) h (fun s o h=>Af3 s o h) (by rfl) (fun _=>rfl) ?_
 rintro q6_5 h
 try dsimp only at h
 cases h;exact (by rfl)
noncomputable def Ht (x0:Int) (a0:Int) (b0:Int):Option Bool:=
 if x0≥a0 then
 some (decide (x0≤b0))
 else
 some false
theorem Ro {x0:Int} {a0:Int} {b0:Int} {v:Bool} (h:Ht x0 a0 b0=some v):Ret Tryz.prog Kz [Ag x0,Ag a0,Ag b0] (V.bool v):=by
 refine A6 Ayi (Nat.le_of_ble_eq_true rfl) ?_
 unfold Ht at h
 refine Br.od h (fun p1 h=> ?_) (fun p1 h=> ?_)
 ·refine Br.yes<|Br.yes<|Br.yes ?_
  cases h;exact (by rfl)
 refine Br.no<|Br.no<|Br.no ?_
 cases h;exact (by rfl)
noncomputable def Iz (l0:(List Int)):Option (List Int):=
 ask ((Al Int).length+(l0).length≤LIM) <|
 some (Al Int++l0)
theorem Ze {l0:(List Int)} {v:(List Int)} (h:Iz l0=some v):Ret Tryz.prog Oe [(slr false 1 Ag) l0] ((slr true 1 Ag) v):=by
 refine A6 At8 (Nat.le_of_ble_eq_true rfl) ?_
 unfold Iz at h
 refine BslQ.o Ag (Al Int) (by exact fun _=>⟨rfl,rfl⟩) (by first | rfl | (simp only [Aa,V.fz,fzL,V.up,upL,Ab,Ac,Ad,slr,List.cons_append,List.nil_append];done) | simp [Aa,V.fz,fzL,V.up,upL,Ab,Ac,Ad,slr])<|AppQ.o (m:=1) Ag (by exact fun _=>⟨rfl,rfl⟩) (Al Int) (l0) (by rfl) (by rfl) h fun h=> ?_
 cases h;exact (by rfl)
noncomputable def F3 (n0:Int):(Int×Int)→Option ((Int×Int) ⊕ Int):=fun (x5,x1)=>
 if x1>(0:Int) then
 ask (InI (x5*n0)) <|
 ask (InI (x1-(1:Int))) <|
 some (.inl (x5*n0,x1-(1:Int)))
 else
 some (.inr x5)
def Ru (n0:Int):(Int×Int)→St:=fun s=>[(5,A.val (Ag s.1)),(0,A.val (Ag (n0))),(1,A.val (Ag s.2))]
def Aav (_n0:Int):Int→Tgt
 | s=>((Ex.exit 0),[5],[(5,A.val (Ag s))])
theorem Alk {n0:Int} (s:(Int×Int)) (o:(Int×Int) ⊕ Int) (h:F3 n0 s=some o):vc Tryz.prog Z6 (Cr [5,0,1] (Ru n0) (Aav n0) o) (Ru n0 s):=by
 obtain ⟨x5,x1⟩:=s
 unfold F3 at h
 try dsimp only at h
 refine Br.od h (fun p1 h=> ?_) (fun p1 h=> ?_)
 ·refine Ask.o h fun p2 h=>Ask.o h fun p3 h=> ?_
  cases h;exact ⟨rfl,rfl⟩
 cases h;exact ⟨rfl,rfl⟩
noncomputable def Ld (n0:Int) (k0:Int):Option Int:=
 (Aj (F3 n0) ((1:Int),k0)).bind fun q4_5=>
 some q4_5
theorem Awi {n0:Int} {k0:Int} {v:Int} (h:Ld n0 k0=some v):Ret Tryz.prog Zi [Ag n0,Ag k0] (Ag v):=by
 refine A6 Awr (Nat.le_of_ble_eq_true rfl) ?_
 unfold Ld at h
 refine LoopQ.o [5,0,1] (Ru n0) (Aav n0) h (fun s o h=>Alk s o h) (by rfl) (fun _=>rfl) ?_
 rintro q4_5 h
 try dsimp only at h
 cases h;exact (by rfl)
noncomputable def Ez (a0:SAlgebra):(Int×(List Int))→Option ((Int×(List Int)) ⊕ (List Int)):=fun (x4,x3)=>
 if x4<(↑a0.Ops.length:Int) then
 ask ((0:Int)≤x4∧x4<(↑a0.Ops.length:Int)) <|
 ask ((x3).length+([(nth a0.Ops x4.toNat).Arity]).length≤LIM) <|
 ask (InI (x4+(1:Int))) <|
 some (.inl (x4+(1:Int),x3++[(nth a0.Ops x4.toNat).Arity]))
 else
 some (.inr x3)
def Qe (a0:SAlgebra):(Int×(List Int))→St:=fun s=>[(4,A.val (Ag s.1)),(3,A.val ((slr true 1 Ag) s.2)),(1,A.val ((rP true (Ae false)) (a0)))]
def X8 (_a0:SAlgebra):(List Int)→Tgt
 | s=>((Ex.exit 0),[3],[(3,A.val ((slr true 1 Ag) s))])
theorem Ajz {a0:SAlgebra} (s:(Int×(List Int))) (o:(Int×(List Int)) ⊕ (List Int)) (h:Ez a0 s=some o):vc Tryz.prog Xw (Cr [4,3,1] (Qe a0) (X8 a0) o) (Qe a0 s):=by
 obtain ⟨x4,x3⟩:=s
 unfold Ez at h
 try dsimp only at h
 refine Cells.lit rfl rfl<|Len.map<|Br.od h (fun p1 h=> ?_) (fun p1 h=> ?_)
 ·refine Cells.lit rfl rfl<|Len.map<|Ask.o h fun p2 h=>Elem.o (by first | omega | (simp [Aq] at * <;> omega))<|BslQ.o Ag ([(nth a0.Ops x4.toNat).Arity]) (by exact fun _=>⟨rfl,rfl⟩) (by first | rfl | (simp only [Aa,V.fz,fzL,V.up,upL,Ab,Ac,Ad,slr,List.cons_append,List.nil_append];done) | simp [Aa,V.fz,fzL,V.up,upL,Ab,Ac,Ad,slr])<|NoOwn.o (fun _=>rfl)<|AppQ.o (m:=1) Ag (by exact fun _=>⟨rfl,rfl⟩) (x3) ([(nth a0.Ops x4.toNat).Arity]) (by rfl) (by rfl) h fun h=>Ask.o h fun p3 h=> ?_
  cases h;exact ⟨rfl,rfl⟩
 cases h;exact ⟨rfl,rfl⟩
noncomputable def Jr (a0:SAlgebra):Option (List Int):=
 (Aj (Ez a0) ((0:Int),Al Int)).bind fun q4_3=>
 some q4_3
theorem Ad8 {a0:SAlgebra} {v:(List Int)} (h:Jr a0=some v):Ret Tryz.prog Qu [(Ae false) a0] ((slr true 1 Ag) v):=by
 refine A6 Aq7 (Nat.le_of_ble_eq_true rfl) ?_
 unfold Jr at h
 refine BslQ.o Ag (Al Int) (by exact fun _=>⟨rfl,rfl⟩) (by first | rfl | (simp only [Aa,V.fz,fzL,V.up,upL,Ab,Ac,Ad,slr,List.cons_append,List.nil_append];done) | simp [Aa,V.fz,fzL,V.up,upL,Ab,Ac,Ad,slr])<|LoopQ.o [4,3,1] (Qe a0) (X8 a0) h (fun s o h=>Ajz s o h) (by rfl) (fun _=>rfl) ?_
 rintro q4_3 h
 try dsimp only at h
 cases h;exact (by rfl)
noncomputable def E6 (n0:Int):(Int×(List Int)×Int)→Option ((Int×(List Int)×Int) ⊕ (List Int)):=fun (x8,x7,x2)=>
 if x8≥(0:Int) then
 ask (n0≠(0:Int)) <|
 ask ((0:Int)≤x8∧x8<(↑x7.length:Int)) <|
 ask (n0≠(0:Int)∧InI (x2.tdiv n0)) <|
 ask (InI (x8-(1:Int))) <|
 some (.inl (x8-(1:Int),x7.set x8.toNat (x2.tmod n0),x2.tdiv n0))
 else
 some (.inr x7)
def P3 (n0:Int):(Int×(List Int)×Int)→St:=fun s=>[(8,A.val (Ag s.1)),(7,A.val ((slr true 1 Ag) s.2.1)),(0,A.val (Ag (n0))),(2,A.val (Ag s.2.2))]
def Xl (_n0:Int):(List Int)→Tgt
 | s=>((Ex.exit 0),[7],[(7,A.val ((slr true 1 Ag) s))])
theorem Aii {n0:Int} (s:(Int×(List Int)×Int)) (o:(Int×(List Int)×Int) ⊕ (List Int)) (h:E6 n0 s=some o):vc Tryz.prog Xv (Cr [8,7,0,2] (P3 n0) (Xl n0) o) (P3 n0 s):=by
 obtain ⟨x8,x7,x2⟩:=s
 unfold E6 at h
 try dsimp only at h
 refine Br.od h (fun p3 h=> ?_) (fun p3 h=> ?_)
 ·refine Ask.o h fun p4 h=>Len.map<|Ask.o h fun p5 h=>SetKids.one (fun _=>⟨rfl,rfl⟩) (x2.tmod n0) (by rfl) (by first | omega | (simp [Aq] at * <;> omega))<|Ask.o h fun p6 h=>Ask.o h fun p7 h=> ?_
  cases h;exact ⟨rfl,rfl⟩
 cases h;exact ⟨rfl,rfl⟩
noncomputable def Fi (n0:Int) (arity0:Int) (at0:Int):Option (List Int):=
 ask ((0:Int)≤arity0∧arity0≤(↑LIM:Int)) <|
 ask (InI (arity0-(1:Int))) <|
 (Aj (E6 n0) (arity0-(1:Int),List.replicate arity0.toNat (0:Int),at0)).bind fun q8_7=>
 some q8_7
theorem Qo {n0:Int} {arity0:Int} {at0:Int} {v:(List Int)} (h:Fi n0 arity0 at0=some v):Ret Tryz.prog Jy [Ag n0,Ag arity0,Ag at0] ((slr true 1 Ag) v):=by
 refine A6 Arv (Nat.le_of_ble_eq_true rfl) ?_
 unfold Fi at h
 refine Ask.o h fun p1 h=>MkQ.o Ag ((0:Int)) rfl<|Ask.o h fun p2 h=>LoopQ.o [8,7,0,2] (P3 n0) (Xl n0) h (fun s o h=>Aii s o h) (by rfl) (fun _=>rfl) ?_
 rintro q8_7 h
 try dsimp only at h
 cases h;exact (by rfl)
noncomputable def F8 (l0:List Int) (n0:Int):Int→Option (Int ⊕ (Unit ⊕ Unit)):=fun x5=>
 if x5<(↑l0.length:Int) then
 ask ((0:Int)≤x5∧x5<(↑l0.length:Int)) <|
 if nth l0 x5.toNat=n0 then
 some (.inr (.inl ()))
 else
 ask (InI (x5+(1:Int))) <|
 some (.inl (x5+(1:Int)))
 else
 some (.inr (.inr ()))
def R6 (l0:List Int) (n0:Int):Int→St:=fun s=>[(5,A.val (Ag s)),(0,A.val ((slr false 1 Ag) (l0))),(1,A.val (Ag (n0)))]
def Aas (_l0:List Int) (_n0:Int):(Unit ⊕ Unit)→Tgt
 | (.inl _s)=>(Ex.ret,[4],[(4,A.val (V.bool (true)))])
 | (.inr _s)=>((Ex.exit 0),[],[])
theorem Amn {l0:List Int} {n0:Int} (x5:Int) (o:Int ⊕ (Unit ⊕ Unit)) (h:F8 l0 n0 x5=some o):vc Tryz.prog Aab (Cr [5,0,1] (R6 l0 n0) (Aas l0 n0) o) (R6 l0 n0 x5):=by
 unfold F8 at h
 try dsimp only at h
 refine Len.map<|Br.od h (fun p1 h=> ?_) (fun p1 h=> ?_)
 ·refine Len.map<|Ask.o h fun p2 h=>Elem.o (by first | omega | (simp [Aq] at * <;> omega))<|Br.oe h (fun p3 h=> ?_) (fun p3 h=> ?_)
  ·cases h;exact ⟨rfl,rfl⟩
  refine Ask.o h fun p4 h=> ?_
  cases h;exact ⟨rfl,rfl⟩
 cases h;exact ⟨rfl,rfl⟩
noncomputable def I2 (l0:(List Int)) (n0:Int):Option Bool:=
 (Aj (F8 l0 n0) (0:Int)).bind fun t=>match t with
 | (.inl _)=>(some true)
 | (.inr _)=>(some false)
theorem Zw {l0:(List Int)} {n0:Int} {v:Bool} (h:I2 l0 n0=some v):Ret Tryz.prog Oy [(slr false 1 Ag) l0,Ag n0] (V.bool v):=by
 refine A6 Aw4 (Nat.le_of_ble_eq_true rfl) ?_
 unfold I2 at h
 refine LoopQ.o [5,0,1] (R6 l0 n0) (Aas l0 n0) h (fun s o h=>Amn s o h) (by rfl) (by rintro (_ | _)<;>rfl) ?_
 rintro (⟨⟩ | ⟨⟩) h
 ·try dsimp only at h
  cases h;exact (by rfl)
 try dsimp only at h
 cases h;exact (by rfl)
noncomputable def Ej (a0:SAlgebra) (_op0:Int) (args0:List Int):(Int×Int)→Option ((Int×Int) ⊕ Int):=fun (x8,x7)=>
 if x8<(↑args0.length:Int) then
 ask (InI (x7*a0.Size)) <|
 ask ((0:Int)≤x8∧x8<(↑args0.length:Int)) <|
 ask (InI (x7*a0.Size+nth args0 x8.toNat)) <|
 ask (InI (x8+(1:Int))) <|
 some (.inl (x8+(1:Int),x7*a0.Size+nth args0 x8.toNat))
 else
 some (.inr x7)
def N9 (a0:SAlgebra) (op0:Int) (args0:List Int):(Int×Int)→St:=fun s=>[(8,A.val (Ag s.1)),(7,A.val (Ag s.2)),(3,A.val ((rP true (Ae false)) (a0))),(1,A.val (Ag (op0))),(2,A.val ((slr false 1 Ag) (args0)))]
def Wa (a0:SAlgebra) (op0:Int) (_args0:List Int):Int→Tgt
 | s=>((Ex.exit 0),[7,3,1],[(7,A.val (Ag s)),(3,A.val ((rP true (Ae false)) (a0))),(1,A.val (Ag (op0)))])
theorem Agq {a0:SAlgebra} {op0:Int} {args0:List Int} (s:(Int×Int)) (o:(Int×Int) ⊕ Int) (h:Ej a0 op0 args0 s=some o):vc Tryz.prog V1 (Cr [8,7,3,1,2] (N9 a0 op0 args0) (Wa a0 op0 args0) o) (N9 a0 op0 args0 s):=by
 obtain ⟨x8,x7⟩:=s
 unfold Ej at h
 try dsimp only at h
 refine Len.map<|Br.od h (fun p1 h=> ?_) (fun p1 h=> ?_)
 ·refine Cells.lit rfl rfl<|Ask.o h fun p2 h=>Len.map<|Ask.o h fun p3 h=>Elem.o (by first | omega | (simp [Aq] at * <;> omega))<|Ask.o h fun p4 h=>Ask.o h fun p5 h=> ?_
  cases h;exact ⟨rfl,rfl⟩
 cases h;exact ⟨rfl,rfl⟩
noncomputable def Gu (a0:SAlgebra) (op0:Int) (args0:(List Int)):Option Int:=
 (Aj (Ej a0 op0 args0) ((0:Int),(0:Int))).bind fun q6_7=>
 ask ((0:Int)≤op0∧op0<(↑a0.Ops.length:Int)) <|
 ask ((0:Int)≤q6_7∧q6_7<(↑(nth a0.Ops op0.toNat).Table.length:Int)) <|
 some (nth (nth a0.Ops op0.toNat).Table q6_7.toNat)
theorem Ac0 {a0:SAlgebra} {op0:Int} {args0:(List Int)} {v:Int} (h:Gu a0 op0 args0=some v):Ret Tryz.prog Ny [(Ae false) a0,Ag op0,(slr false 1 Ag) args0] (Ag v):=by
 refine A6 And (Nat.le_of_ble_eq_true rfl) ?_
 unfold Gu at h
 refine LoopQ.o [8,7,3,1,2] (N9 a0 op0 args0) (Wa a0 op0 args0) h (fun s o h=>Agq s o h) (by rfl) (fun _=>rfl) ?_
 rintro q6_7 h
 try dsimp only at h
 refine Cells.lit rfl rfl<|Len.map<|Ask.o h fun p7 h=>Elem.o (by first | omega | (simp [Aq] at * <;> omega))<|Len.map<|Ask.o h fun p8 h=>Elem.o (by first | omega | (simp [Aq] at * <;> omega)) ?_
 cases h;exact (by rfl)
noncomputable def Gr (s0:ByteArray):(Int×SOp)→Option ((Int×SOp) ⊕ SOp):=fun (x4,x3)=>
 if x4<(↑s0.size:Int) then
 ask ((0:Int)≤x4∧x4<(↑s0.size:Int)) <|
 ask ((x3.Table).length+([IntKind.i64.wrap (IntKind.u8.wrap (Akb s0 x4-(48:Int)))]).length≤LIM) <|
 ask (InI (x4+(1:Int))) <|
 some (.inl (x4+(1:Int),{ Arity:=x3.Arity,Table:=x3.Table++[IntKind.i64.wrap (IntKind.u8.wrap (Akb s0 x4-(48:Int)))] }))
 else
 some (.inr x3)
def Mn (s0:ByteArray):(Int×SOp)→St:=fun s=>[(4,A.val (Ag s.1)),(3,A.val ((rP true (Aw true)) s.2)),(2,A.val ((rP true (Aw true)) ({ Arity:=(0:Int),Table:=Al Int }))),(0,A.val (V.str (s0)))]
def Uq (_s0:ByteArray):SOp→Tgt
 | s=>((Ex.exit 0),[3,2],[(3,A.val ((rP true (Aw true)) s)),(2,A.val ((rP true (Aw true)) ({ Arity:=(0:Int),Table:=Al Int })))])
theorem Aes {s0:ByteArray} (s:(Int×SOp)) (o:(Int×SOp) ⊕ SOp) (h:Gr s0 s=some o):vc Tryz.prog Tr (Cr [4,3,2,0] (Mn s0) (Uq s0) o) (Mn s0 s):=by
 obtain ⟨x4,x3⟩:=s
 unfold Gr at h
 try dsimp only at h
 refine Br.od h (fun p1 h=> ?_) (fun p1 h=> ?_)
 ·refine Cells.lit rfl rfl<|Ask.o h fun p2 h=>BslQ.o Ag ([IntKind.i64.wrap (IntKind.u8.wrap (Akb s0 x4-(48:Int)))]) (by exact fun _=>⟨rfl,rfl⟩) (by first | rfl | (simp only [Aa,V.fz,fzL,V.up,upL,Ab,Ac,Ad,slr,List.cons_append,List.nil_append];done) | simp [Aa,V.fz,fzL,V.up,upL,Ab,Ac,Ad,slr])<|NoOwn.o (fun _=>rfl)<|Kid.lit rfl rfl<|Kid.lit rfl rfl<|SetKids.lit rfl<|AppQ.o (m:=1) Ag (by exact fun _=>⟨rfl,rfl⟩) (x3.Table) ([IntKind.i64.wrap (IntKind.u8.wrap (Akb s0 x4-(48:Int)))]) (by rfl) (by rfl) h fun h=>SetKids.lit rfl<|Ask.o h fun p3 h=> ?_
  cases h;exact ⟨rfl,rfl⟩
 cases h;exact ⟨rfl,rfl⟩
noncomputable def Bg (s0:ByteArray):Option SOp:=
 (Aj (Gr s0) ((0:Int),{ Arity:=(2:Int),Table:=Al Int })).bind fun q4_3=>
 some q4_3
theorem Bw {s0:ByteArray} {v:SOp} (h:Bg s0=some v):Ret Tryz.prog Bo [V.str s0] ((Aw true) v):=by
 refine A6 Aky (Nat.le_of_ble_eq_true rfl) ?_
 unfold Bg at h
 refine SetKids.lit rfl<|LoopQ.o [4,3,2,0] (Mn s0) (Uq s0) h (fun s o h=>Aes s o h) (by rfl) (fun _=>rfl) ?_
 rintro q4_3 h
 try dsimp only at h
 refine Cells.lit rfl rfl<|SetKids.lit rfl ?_
 cases h;exact (by rfl)
noncomputable def Gz (n0:Int):(Int×SOp)→Option ((Int×SOp) ⊕ SOp):=fun (x4,x3)=>
 ask (InI (n0*n0)) <|
 ask (InI (n0*n0*n0)) <|
 if x4<n0*n0*n0 then
 ask (InI (n0*n0)) <|
 ask (n0*n0≠(0:Int)∧InI (x4.tdiv (n0*n0))) <|
 ask (InI (x4.tdiv (n0*n0)+n0)) <|
 ask (n0≠(0:Int)∧InI (x4.tdiv n0)) <|
 ask (n0≠(0:Int)) <|
 ask (InI (x4.tdiv (n0*n0)+n0-(x4.tdiv n0).tmod n0)) <|
 ask (n0≠(0:Int)) <|
 ask (InI (x4.tdiv (n0*n0)+n0-(x4.tdiv n0).tmod n0+x4.tmod n0)) <|
 ask (n0≠(0:Int)) <|
 ask ((x3.Table).length+([(x4.tdiv (n0*n0)+n0-(x4.tdiv n0).tmod n0+x4.tmod n0).tmod n0]).length≤LIM) <|
 ask (InI (x4+(1:Int))) <|
 some (.inl (x4+(1:Int),{ Arity:=x3.Arity,Table:=x3.Table++[(x4.tdiv (n0*n0)+n0-(x4.tdiv n0).tmod n0+x4.tmod n0).tmod n0] }))
 else
 some (.inr x3)
def My (n0:Int):(Int×SOp)→St:=fun s=>[(4,A.val (Ag s.1)),(3,A.val ((rP true (Aw true)) s.2)),(2,A.val ((rP true (Aw true)) ({ Arity:=(0:Int),Table:=Al Int }))),(0,A.val (Ag (n0)))]
def Ui (_n0:Int):SOp→Tgt
 | s=>((Ex.exit 0),[3,2],[(3,A.val ((rP true (Aw true)) s)),(2,A.val ((rP true (Aw true)) ({ Arity:=(0:Int),Table:=Al Int })))])
theorem Aeo {n0:Int} (s:(Int×SOp)) (o:(Int×SOp) ⊕ SOp) (h:Gz n0 s=some o):vc Tryz.prog Tz (Cr [4,3,2,0] (My n0) (Ui n0) o) (My n0 s):=by
 obtain ⟨x4,x3⟩:=s
 unfold Gz at h
 try dsimp only at h
 refine Ask.o h fun p1 h=>Ask.o h fun p2 h=>Br.od h (fun p3 h=> ?_) (fun p3 h=> ?_)
 ·refine Cells.lit rfl rfl<|Ask.o h fun p4 h=>Ask.o h fun p5 h=>Ask.o h fun p6 h=>Ask.o h fun p7 h=>Ask.o h fun p8 h=>Ask.o h fun p9 h=>Ask.o h fun p10 h=>Ask.o h fun p11 h=>Ask.o h fun p12 h=>BslQ.o Ag ([(x4.tdiv (n0*n0)+n0-(x4.tdiv n0).tmod n0+x4.tmod n0).tmod n0]) (by exact fun _=>⟨rfl,rfl⟩) (by first | rfl | (simp only [Aa,V.fz,fzL,V.up,upL,Ab,Ac,Ad,slr,List.cons_append,List.nil_append];done) | simp [Aa,V.fz,fzL,V.up,upL,Ab,Ac,Ad,slr])<|NoOwn.o (fun _=>rfl)<|Kid.lit rfl rfl<|Kid.lit rfl rfl<|SetKids.lit rfl<|AppQ.o (m:=1) Ag (by exact fun _=>⟨rfl,rfl⟩) (x3.Table) ([(x4.tdiv (n0*n0)+n0-(x4.tdiv n0).tmod n0+x4.tmod n0).tmod n0]) (by rfl) (by rfl) h fun h=>SetKids.lit rfl<|Ask.o h fun p13 h=> ?_
  cases h;exact ⟨rfl,rfl⟩
 cases h;exact ⟨rfl,rfl⟩
noncomputable def Hf (n0:Int):Option SOp:=
 (Aj (Gz n0) ((0:Int),{ Arity:=(3:Int),Table:=Al Int })).bind fun q14_3=>
 some q14_3
theorem Aac {n0:Int} {v:SOp} (h:Hf n0=some v):Ret Tryz.prog Md [Ag n0] ((Aw true) v):=by
 refine A6 Ak8 (Nat.le_of_ble_eq_true rfl) ?_
 unfold Hf at h
 refine SetKids.lit rfl<|LoopQ.o [4,3,2,0] (My n0) (Ui n0) h (fun s o h=>Aeo s o h) (by rfl) (fun _=>rfl) ?_
 rintro q14_3 h
 try dsimp only at h
 refine Cells.lit rfl rfl<|SetKids.lit rfl ?_
 cases h;exact (by rfl)
noncomputable def Fv (c0:Sl1Cur):Option (Int×Sl1Cur):=
 ((if c0.at_<(↑c0.code.length:Int) then
 ask ((0:Int)≤c0.at_∧c0.at_<(↑c0.code.length:Int)) <|
 some (IntKind.i64.wrap (nth c0.code c0.at_.toNat))
 else
 some (0:Int):Option Int)).bind fun q3_3=>
 ask (InI (c0.at_+(1:Int))) <|
 if c0.at_+(1:Int)≤(↑c0.code.length:Int) then
 some (q3_3,{ code:=c0.code,at_:=c0.at_+(1:Int),seed:=IntKind.u64.wrap (IntKind.u64.wrap (IntKind.u64.wrap (c0.seed*(6364136223846793005:Int))+IntKind.u64.wrap q3_3)+(550289:Int)) })
 else
 some (IntKind.i64.wrap (IntKind.u64.wrap (↑(BitVec.ofInt IntKind.u64.bits ((IntKind.u64.wrap (IntKind.u64.wrap (IntKind.u64.wrap (c0.seed*(6364136223846793005:Int))+IntKind.u64.wrap q3_3)+(550289:Int))).fdiv ((2:Int)^min (Int.toNat (40:Int)) IntKind.u64.bits)) &&& BitVec.ofInt IntKind.u64.bits (255:Int)).toNat:Int)),{ code:=c0.code,at_:=c0.at_+(1:Int),seed:=IntKind.u64.wrap (IntKind.u64.wrap (IntKind.u64.wrap (c0.seed*(6364136223846793005:Int))+IntKind.u64.wrap q3_3)+(550289:Int)) })
theorem Vz {c0:Sl1Cur} {v:(Int×Sl1Cur)} (h:Fv c0=some v):I9 Tryz.prog Kb [(rP true (Am false)) c0] (Ag v.1) 0 ((rP true (Am false)) v.2):=by
 refine Lg Ag9 (Nat.le_of_ble_eq_true rfl) ?_
 unfold Fv at h
 refine CutQ.o (fun t:Int=>match t with | s=>(Ex.normal,[3,0,62],[(3,A.val (Ag s)),(0,A.ref 62 []),(62,A.val ((rP true (Am false)) (c0)))])) h ?_ ?_
 ·intro t h
  refine Cells.lit rfl rfl<|Cells.lit rfl rfl<|Len.map<|Br.od h (fun p1 h=> ?_) (fun p1 h=> ?_)
  ·refine Cells.lit rfl rfl<|Cells.lit rfl rfl<|Len.map<|Ask.o h fun p2 h=>Elem.o (by first | omega | (simp [Aq] at * <;> omega)) ?_
   cases h;exact ⟨rfl,rfl⟩
  cases h;exact ⟨rfl,rfl⟩
 rintro q3_3 h
 try dsimp only at h
 refine Cells.lit rfl rfl<|Ask.o h fun p4 h=>SetKids.lit rfl<|Cells.lit rfl rfl<|SetKids.lit rfl<|Cells.lit rfl rfl<|Cells.lit rfl rfl<|Len.map<|Br.od h (fun p5 h=> ?_) (fun p5 h=> ?_)
 ·cases h;exact ⟨(by rfl),(by rfl)⟩
 refine Cells.lit rfl rfl ?_
 cases h;exact ⟨(by rfl),(by rfl)⟩
noncomputable def Bj (arity0:Int) (a0:SAlgebra) (b0:SAlgebra) (f0:List Int):(Int×Int×Int×Int)→Option ((Int×Int×Int×Int) ⊕ Int):=fun (x13,x12,x11,x0)=>
 if x13<arity0 then
 ask (a0.Size≠(0:Int)) <|
 ask ((0:Int)≤x0.tmod a0.Size∧x0.tmod a0.Size<(↑f0.length:Int)) <|
 ask (InI (nth f0 (x0.tmod a0.Size).toNat*x12)) <|
 ask (InI (x11+nth f0 (x0.tmod a0.Size).toNat*x12)) <|
 ask (a0.Size≠(0:Int)∧InI (x0.tdiv a0.Size)) <|
 ask (InI (x12*b0.Size)) <|
 ask (InI (x13+(1:Int))) <|
 some (.inl (x13+(1:Int),x12*b0.Size,x11+nth f0 (x0.tmod a0.Size).toNat*x12,x0.tdiv a0.Size))
 else
 some (.inr x11)
def K5 (arity0:Int) (a0:SAlgebra) (b0:SAlgebra) (f0:List Int):(Int×Int×Int×Int)→St:=fun s=>[(13,A.val (Ag s.1)),(12,A.val (Ag s.2.1)),(11,A.val (Ag s.2.2.1)),(8,A.val ((rP true (Ae false)) (b0))),(7,A.val ((rP true (Ae false)) (a0))),(0,A.val (Ag s.2.2.2)),(1,A.val (Ag (arity0))),(4,A.val ((slr false 1 Ag) (f0)))]
def Q5 (_arity0:Int) (_a0:SAlgebra) (_b0:SAlgebra) (_f0:List Int):Int→Tgt
 | s=>((Ex.exit 0),[11],[(11,A.val (Ag s))])
theorem Abh {arity0:Int} {a0:SAlgebra} {b0:SAlgebra} {f0:List Int} (s:(Int×Int×Int×Int)) (o:(Int×Int×Int×Int) ⊕ Int) (h:Bj arity0 a0 b0 f0 s=some o):vc Tryz.prog Rp (Cr [13,12,11,8,7,0,1,4] (K5 arity0 a0 b0 f0) (Q5 arity0 a0 b0 f0) o) (K5 arity0 a0 b0 f0 s):=by
 obtain ⟨x13,x12,x11,x0⟩:=s
 unfold Bj at h
 try dsimp only at h
 refine Br.od h (fun p1 h=> ?_) (fun p1 h=> ?_)
 ·refine Cells.lit rfl rfl<|Ask.o h fun p2 h=>Len.map<|Ask.o h fun p3 h=>Elem.o (by first | omega | (simp [Aq] at * <;> omega))<|Ask.o h fun p4 h=>Ask.o h fun p5 h=>Cells.lit rfl rfl<|Ask.o h fun p6 h=>Cells.lit rfl rfl<|Ask.o h fun p7 h=>Ask.o h fun p8 h=> ?_
  cases h;exact ⟨rfl,rfl⟩
 cases h;exact ⟨rfl,rfl⟩
noncomputable def Do (i0:Int) (arity0:Int) (a0:SAlgebra) (b0:SAlgebra) (f0:(List Int)):Option Int:=
 (Aj (Bj arity0 a0 b0 f0) ((0:Int),(1:Int),(0:Int),i0)).bind fun q9_11=>
 some q9_11
theorem Wl {i0:Int} {arity0:Int} {a0:SAlgebra} {b0:SAlgebra} {f0:(List Int)} {v:Int} (h:Do i0 arity0 a0 b0 f0=some v):Ret Tryz.prog Ke [Ag i0,Ag arity0,(Ae false) a0,(Ae false) b0,(slr false 1 Ag) f0] (Ag v):=by
 refine A6 Ahf (Nat.le_of_ble_eq_true rfl) ?_
 unfold Do at h
 refine LoopQ.o [13,12,11,8,7,0,1,4] (K5 arity0 a0 b0 f0) (Q5 arity0 a0 b0 f0) h (fun s o h=>Abh s o h) (by rfl) (fun _=>rfl) ?_
 rintro q9_11 h
 try dsimp only at h
 cases h;exact (by rfl)
noncomputable def Gn (bits0:Int):(Int×(List Int))→Option ((Int×(List Int)) ⊕ (List Int)):=fun (x4,x3)=>
 ask ((0:Int)≤x4) <|
 if A0h bits0 x4>(0:Int) then
 ask ((0:Int)≤x4) <|
 if A5d (A0h bits0 x4) (1:Int)=(1:Int) then
 ask ((x3).length+([x4]).length≤LIM) <|
 ask (InI (x4+(1:Int))) <|
 some (.inl (x4+(1:Int),x3++[x4]))
 else
 ask (InI (x4+(1:Int))) <|
 some (.inl (x4+(1:Int),x3))
 else
 some (.inr x3)
def Pp (bits0:Int):(Int×(List Int))→St:=fun s=>[(4,A.val (Ag s.1)),(3,A.val ((slr true 1 Ag) s.2)),(0,A.val (Ag (bits0)))]
def Za (_bits0:Int):(List Int)→Tgt
 | s=>((Ex.exit 0),[3],[(3,A.val ((slr true 1 Ag) s))])
theorem Aiq {bits0:Int} (s:(Int×(List Int))) (o:(Int×(List Int)) ⊕ (List Int)) (h:Gn bits0 s=some o):vc Tryz.prog Xy (Cr [4,3,0] (Pp bits0) (Za bits0) o) (Pp bits0 s):=by
 obtain ⟨x4,x3⟩:=s
 unfold Gn at h
 try dsimp only at h
 refine Ask.o h fun p1 h=>Br.od h (fun p2 h=> ?_) (fun p2 h=> ?_)
 ·refine Ask.o h fun p3 h=>Br.oe h (fun p4 h=> ?_) (fun p4 h=> ?_)
  ·refine BslQ.o Ag [x4] (by exact fun _=>⟨rfl,rfl⟩) (by first | rfl | (simp only [Aa,V.fz,fzL,V.up,upL,Ab,Ac,Ad,slr,List.cons_append,List.nil_append];done) | simp [Aa,V.fz,fzL,V.up,upL,Ab,Ac,Ad,slr])<|NoOwn.o (fun _=>rfl)<|AppQ.o (m:=1) Ag (by exact fun _=>⟨rfl,rfl⟩) (x3) ([x4]) (by rfl) (by rfl) h fun h=>Ask.o h fun p5 h=> ?_
   cases h;exact ⟨rfl,rfl⟩
  refine Ask.o h fun p6 h=> ?_
  cases h;exact ⟨rfl,rfl⟩
 cases h;exact ⟨rfl,rfl⟩
noncomputable def Lv (bits0:Int):Option (List Int):=
 (Aj (Gn bits0) ((0:Int),Al Int)).bind fun q7_3=>
 some q7_3
theorem Aqo {bits0:Int} {v:(List Int)} (h:Lv bits0=some v):Ret Tryz.prog W1 [Ag bits0] ((slr true 1 Ag) v):=by
 refine A6 Aqn (Nat.le_of_ble_eq_true rfl) ?_
 unfold Lv at h
 refine BslQ.o Ag (Al Int) (by exact fun _=>⟨rfl,rfl⟩) (by first | rfl | (simp only [Aa,V.fz,fzL,V.up,upL,Ab,Ac,Ad,slr,List.cons_append,List.nil_append];done) | simp [Aa,V.fz,fzL,V.up,upL,Ab,Ac,Ad,slr])<|LoopQ.o [4,3,0] (Pp bits0) (Za bits0) h (fun s o h=>Aiq s o h) (by rfl) (fun _=>rfl) ?_
 rintro q7_3 h
 try dsimp only at h
 cases h;exact (by rfl)
noncomputable def Ia (some0:List Int):(Int×(List Bool))→Option ((Int×(List Bool)) ⊕ (List Bool)):=fun (x6,x5)=>
 if x6<(↑some0.length:Int) then
 ask ((0:Int)≤x6∧x6<(↑some0.length:Int)) <|
 ask ((0:Int)≤nth some0 x6.toNat∧nth some0 x6.toNat<(↑x5.length:Int)) <|
 ask (InI (x6+(1:Int))) <|
 some (.inl (x6+(1:Int),x5.set (nth some0 x6.toNat).toNat true))
 else
 some (.inr x5)
def Ug (some0:List Int):(Int×(List Bool))→St:=fun s=>[(6,A.val (Ag s.1)),(5,A.val ((slr true 1 V.bool) s.2)),(1,A.val ((slr false 1 Ag) (some0)))]
def Abg (_some0:List Int):(List Bool)→Tgt
 | s=>((Ex.exit 0),[5],[(5,A.val ((slr true 1 V.bool) s))])
theorem Ao1 {some0:List Int} (s:(Int×(List Bool))) (o:(Int×(List Bool)) ⊕ (List Bool)) (h:Ia some0 s=some o):vc Tryz.prog Abs (Cr [6,5,1] (Ug some0) (Abg some0) o) (Ug some0 s):=by
 obtain ⟨x6,x5⟩:=s
 unfold Ia at h
 try dsimp only at h
 refine Len.map<|Br.od h (fun p2 h=> ?_) (fun p2 h=> ?_)
 ·refine Len.map<|Ask.o h fun p3 h=>Elem.o (by first | omega | (simp [Aq] at * <;> omega))<|Len.map<|Ask.o h fun p4 h=>SetKids.one (fun _=>⟨rfl,rfl⟩) (true) (by rfl) (by first | omega | (simp [Aq] at * <;> omega))<|Ask.o h fun p5 h=> ?_
  cases h;exact ⟨rfl,rfl⟩
 cases h;exact ⟨rfl,rfl⟩
noncomputable def Qw (n0:Int) (some0:(List Int)):Option (List Bool):=
 ask ((0:Int)≤n0∧n0≤(↑LIM:Int)) <|
 (Aj (Ia some0) ((0:Int),List.replicate n0.toNat false)).bind fun q6_5=>
 some q6_5
theorem Azt {n0:Int} {some0:(List Int)} {v:(List Bool)} (h:Qw n0 some0=some v):Ret Tryz.prog Ach [Ag n0,(slr false 1 Ag) some0] ((slr true 1 V.bool) v):=by
 refine A6 Ayc (Nat.le_of_ble_eq_true rfl) ?_
 unfold Qw at h
 refine Ask.o h fun p1 h=>MkQ.o V.bool (false) rfl<|LoopQ.o [6,5,1] (Ug some0) (Abg some0) h (fun s o h=>Ao1 s o h) (by rfl) (fun _=>rfl) ?_
 rintro q6_5 h
 try dsimp only at h
 cases h;exact (by rfl)
end Go.Proofs.YtmkgjnphianalaaGreat.Ax
