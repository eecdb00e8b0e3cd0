/-
 What the functions compute, as functions on plain data, and that the program does compute it; written by program.
-/
import Derived.Test.YtmmcfdfdacpjgaaCode
namespace Go.Proofs.Ytmmcfdfdacpjgaa.Ax
open Go
set_option maxRecDepth 100000
set_option maxHeartbeats 4000000
noncomputable def Fc (a0:SAlgebra) (_op0:Int) (tuples0:List (List Int)) (_k0:Int) (x10:Int) (_x9:List Int):(Int×Int)→Option ((Int×Int) ⊕ Int):=fun (x12,x11)=>
 if x12<(↑tuples0.length:Int) then
 ask (InI (x11*a0.Size)) <|
 ask ((0:Int)≤x12∧x12<(↑tuples0.length:Int)) <|
 ask ((0:Int)≤x10∧x10<(↑(nth tuples0 x12.toNat).length:Int)) <|
 ask (InI (x11*a0.Size+nth (nth tuples0 x12.toNat) x10.toNat)) <|
 ask (InI (x12+(1:Int))) <|
 some (.inl (x12+(1:Int),x11*a0.Size+nth (nth tuples0 x12.toNat) x10.toNat))
 else
 some (.inr x11)
def Mi (a0:SAlgebra) (op0:Int) (tuples0:List (List Int)) (k0:Int) (x10:Int) (x9:List Int):(Int×Int)→St:=fun s=>[(12,A.val (Ae s.1)),(11,A.val (Ae s.2)),(10,A.val (Ae x10)),(9,A.val (slr true 1 Ae x9)),(4,A.val (rP true (Af false) a0)),(1,A.val (Ae op0)),(2,A.val (slr false 1 (slr false 1 Ae) tuples0)),(3,A.val (Ae k0))]
def T6 (a0:SAlgebra) (op0:Int) (tuples0:List (List Int)) (k0:Int) (x10:Int) (x9:List Int):Int→Tgt
 | s=>((Ex.exit 2),[11,10,9,4,1,2,3],[(11,A.val (Ae s)),(10,A.val (Ae x10)),(9,A.val (slr true 1 Ae x9)),(4,A.val (rP true (Af false) a0)),(1,A.val (Ae op0)),(2,A.val (slr false 1 (slr false 1 Ae) tuples0)),(3,A.val (Ae k0))])
theorem Adq {a0} {op0} {tuples0} {k0} {x10} {x9} (s) o (h:Fc a0 op0 tuples0 k0 x10 x9 s=some o):vc Try.prog Th (Co [12,11,10,9,4,1,2,3] (Mi a0 op0 tuples0 k0 x10 x9) (T6 a0 op0 tuples0 k0 x10 x9) o) (Mi a0 op0 tuples0 k0 x10 x9 s):=by
 obtain ⟨x12,x11⟩:=s
 unfold Fc at h
 try dsimp only at h
 conv=>whnf
 refine Len.map ?_
 conv=>whnf
 refine Br.od h (fun p2 h=> ?_) (fun p2 h=> ?_)
 ·conv=>whnf
  refine Cells.lit rfl rfl ?_
  conv=>whnf
  refine Ask.o h fun p3 h=> ?_
  conv=>whnf
  refine Len.map ?_
  conv=>whnf
  refine Ask.o h fun p4 h=> ?_
  conv=>whnf
  refine Elem.o (by first | omega | (simp [At] at * <;> omega)) ?_
  conv=>whnf
  refine Len.map ?_
  conv=>whnf
  refine Ask.o h fun p5 h=> ?_
  conv=>whnf
  refine Elem.o (by first | omega | (simp [At] at * <;> omega)) ?_
  conv=>whnf
  refine Ask.o h fun p6 h=> ?_
  conv=>whnf
  refine Ask.o h fun p7 h=> ?_
  conv=>whnf
  cases h;exact ⟨rfl,rfl⟩
 conv=>whnf
 cases h;exact ⟨rfl,rfl⟩
noncomputable def D9 (a0:SAlgebra) (op0:Int) (tuples0:List (List Int)) (k0:Int):(Int×(List Int))→Option ((Int×(List Int)) ⊕ (List Int)):=fun (x10,x9)=>
 if x10<k0 then
 (Am (Fc a0 op0 tuples0 k0 x10 x9) ((0:Int),(0:Int))).bind fun q8_11=>
 ask ((0:Int)≤op0∧op0<(↑a0.Ops.length:Int)) <|
 ask ((0:Int)≤q8_11∧q8_11<(↑(nth a0.Ops op0.toNat).Table.length:Int)) <|
 ask ((x9).length+([nth (nth a0.Ops op0.toNat).Table q8_11.toNat]).length≤LIM) <|
 ask (InI (x10+(1:Int))) <|
 some (.inl (x10+(1:Int),x9++[nth (nth a0.Ops op0.toNat).Table q8_11.toNat]))
 else
 some (.inr x9)
def Mm (a0:SAlgebra) (op0:Int) (tuples0:List (List Int)) (k0:Int):(Int×(List Int))→St:=fun s=>[(10,A.val (Ae s.1)),(9,A.val (slr true 1 Ae s.2)),(4,A.val (rP true (Af false) a0)),(1,A.val (Ae op0)),(2,A.val (slr false 1 (slr false 1 Ae) tuples0)),(3,A.val (Ae k0))]
def Ts (_a0:SAlgebra) (_op0:Int) (_tuples0:List (List Int)) (_k0:Int):(List Int)→Tgt
 | s=>((Ex.exit 0),[9],[(9,A.val (slr true 1 Ae s))])
theorem Adt {a0} {op0} {tuples0} {k0} (s) o (h:D9 a0 op0 tuples0 k0 s=some o):vc Try.prog Te (Co [10,9,4,1,2,3] (Mm a0 op0 tuples0 k0) (Ts a0 op0 tuples0 k0) o) (Mm a0 op0 tuples0 k0 s):=by
 obtain ⟨x10,x9⟩:=s
 unfold D9 at h
 try dsimp only at h
 conv=>whnf
 refine Br.od h (fun p1 h=> ?_) (fun p1 h=> ?_)
 ·conv=>whnf
  refine LoopQ.o [12,11,10,9,4,1,2,3] (Mi a0 op0 tuples0 k0 x10 x9) (T6 a0 op0 tuples0 k0 x10 x9) h (fun s o h=>Adq s o h) (by rfl) (fun _=>rfl) ?_
  rintro q8_11 h
  try dsimp only at h
  conv=>whnf
  refine Cells.lit rfl rfl ?_
  conv=>whnf
  refine Len.map ?_
  conv=>whnf
  refine Ask.o h fun p9 h=> ?_
  conv=>whnf
  refine Elem.o (by first | omega | (simp [At] at * <;> omega)) ?_
  conv=>whnf
  refine Len.map ?_
  conv=>whnf
  refine Ask.o h fun p10 h=> ?_
  conv=>whnf
  refine Elem.o (by first | omega | (simp [At] at * <;> omega)) ?_
  conv=>whnf
  refine BslQ.o Ae ([nth (nth a0.Ops op0.toNat).Table q8_11.toNat]) (by exact fun _=>⟨rfl,rfl⟩) (by rfl) ?_
  conv=>whnf
  refine NoOwn.o (fun _=>rfl) ?_
  conv=>whnf
  refine AppQ.o (m:=1) Ae (by exact fun _=>⟨rfl,rfl⟩) (x9) ([nth (nth a0.Ops op0.toNat).Table q8_11.toNat]) (by rfl) (by rfl) h fun h=> ?_
  conv=>whnf
  refine Ask.o h fun p11 h=> ?_
  conv=>whnf
  cases h;exact ⟨rfl,rfl⟩
 conv=>whnf
 cases h;exact ⟨rfl,rfl⟩
noncomputable def D5 (a0:SAlgebra) (op0:Int) (tuples0:(List (List Int))) (k0:Int):Option (List Int):=
 (Am (D9 a0 op0 tuples0 k0) ((0:Int),Ar Int)).bind fun q12_9=>
 some q12_9
theorem Ka {a0} {op0} {tuples0} {k0} {v} (h:D5 a0 op0 tuples0 k0=some v):Ret Try.prog Gi [(Af false) a0,Ae op0,(slr false 1 (slr false 1 Ae)) tuples0,Ae k0] (slr true 1 Ae v):=by
 refine Ba Ake (Nat.le_of_ble_eq_true rfl) ?_
 unfold D5 at h
 conv=>whnf
 refine BslQ.o Ae (Ar Int) (by exact fun _=>⟨rfl,rfl⟩) (by rfl) ?_
 conv=>whnf
 refine LoopQ.o [10,9,4,1,2,3] (Mm a0 op0 tuples0 k0) (Ts a0 op0 tuples0 k0) h (fun s o h=>Adt s o h) (by rfl) (fun _=>rfl) ?_
 rintro q12_9 h
 try dsimp only at h
 conv=>whnf
 cases h;exact (by rfl)
noncomputable def Eu (list0:List Int) (n0:Int):Int→Option (Int ⊕ (Unit ⊕ Unit)):=fun x9=>
 if x9<(↑list0.length:Int) then
 ask ((0:Int)≤x9∧x9<(↑list0.length:Int)) <|
 if nth list0 x9.toNat<(0:Int) then
 some (.inr (.inl ()))
 else
 if nth list0 x9.toNat≥n0 then
 some (.inr (.inl ()))
 else
 ask (InI (x9+(1:Int))) <|
 some (.inl (x9+(1:Int)))
 else
 some (.inr (.inr ()))
def Ol (list0:List Int) (n0:Int):Int→St:=fun s=>[(9,A.val (Ae s)),(8,A.val (Ae ((↑list0.length:Int)))),(7,A.val (slr false 1 Ae list0)),(1,A.val (Ae n0))]
def U8 (_list0:List Int) (_n0:Int):(Unit ⊕ Unit)→Tgt
 | (.inl _s)=>(Ex.ret,[4],[(4,A.val (V.bool false))])
 | (.inr _s)=>((Ex.exit 0),[],[])
theorem Af0 {list0} {n0} (x9) o (h:Eu list0 n0 x9=some o):vc Try.prog V3 (Co [9,8,7,1] (Ol list0 n0) (U8 list0 n0) o) (Ol list0 n0 x9):=by
 unfold Eu at h
 try dsimp only at h
 conv=>whnf
 refine Br.od h (fun p1 h=> ?_) (fun p1 h=> ?_)
 ·conv=>whnf
  refine Len.map ?_
  conv=>whnf
  refine Ask.o h fun p2 h=> ?_
  conv=>whnf
  refine Elem.o (by first | omega | (simp [At] at * <;> omega)) ?_
  conv=>whnf
  refine Br.od h (fun p3 h=> ?_) (fun p3 h=> ?_)
  ·conv=>whnf
   refine Br.yes ?_
   conv=>whnf
   refine Br.yes ?_
   conv=>whnf
   refine Br.yes ?_
   conv=>whnf
   refine Br.yes ?_
   conv=>whnf
   cases h;exact ⟨rfl,rfl⟩
  conv=>whnf
  refine Br.no ?_
  conv=>whnf
  refine Br.no ?_
  conv=>whnf
  refine Br.no ?_
  conv=>whnf
  refine Br.od h (fun p4 h=> ?_) (fun p4 h=> ?_)
  ·conv=>whnf
   cases h;exact ⟨rfl,rfl⟩
  conv=>whnf
  refine Ask.o h fun p5 h=> ?_
  conv=>whnf
  cases h;exact ⟨rfl,rfl⟩
 conv=>whnf
 cases h;exact ⟨rfl,rfl⟩
noncomputable def F9 (list0:(List Int)) (n0:Int):Option Bool:=
 (Am (Eu list0 n0) (0:Int)).bind fun t=>match t with
 | (.inl _)=>(some false)
 | (.inr _)=>(some true)
theorem Pg {list0} {n0} {v} (h:F9 list0 n0=some v):Ret Try.prog I7 [(slr false 1 Ae) list0,Ae n0] (V.bool v):=by
 refine Ba Amy (Nat.le_of_ble_eq_true rfl) ?_
 unfold F9 at h
 conv=>whnf
 refine Len.map ?_
 conv=>whnf
 refine LoopQ.o [9,8,7,1] (Ol list0 n0) (U8 list0 n0) h (fun s o h=>Af0 s o h) (by rfl) (by rintro (_ | _)<;>rfl) ?_
 rintro (⟨⟩ | ⟨⟩) h
 ·try dsimp only at h
  conv=>whnf
  cases h;exact (by rfl)
 try dsimp only at h
 conv=>whnf
 cases h;exact (by rfl)
noncomputable def D4 (args0:List Int) (n0:Int):(Int×Int)→Option ((Int×Int) ⊕ Int):=fun (x10,x5)=>
 if x10<(↑args0.length:Int) then
 ask ((0:Int)≤x10∧x10<(↑args0.length:Int)) <|
 ask (InI (x5*n0)) <|
 ask (InI (x5*n0+nth args0 x10.toNat)) <|
 ask (InI (x10+(1:Int))) <|
 some (.inl (x10+(1:Int),x5*n0+nth args0 x10.toNat))
 else
 some (.inr x5)
def Md (args0:List Int) (n0:Int):(Int×Int)→St:=fun s=>[(10,A.val (Ae s.1)),(9,A.val (Ae ((↑args0.length:Int)))),(8,A.val (slr false 1 Ae args0)),(5,A.val (Ae s.2)),(1,A.val (Ae n0))]
def Tp (_args0:List Int) (_n0:Int):Int→Tgt
 | s=>((Ex.exit 0),[5],[(5,A.val (Ae s))])
theorem Acn {args0} {n0} (s) o (h:D4 args0 n0 s=some o):vc Try.prog Td (Co [10,9,8,5,1] (Md args0 n0) (Tp args0 n0) o) (Md args0 n0 s):=by
 obtain ⟨x10,x5⟩:=s
 unfold D4 at h
 try dsimp only at h
 conv=>whnf
 refine Br.od h (fun p1 h=> ?_) (fun p1 h=> ?_)
 ·conv=>whnf
  refine Len.map ?_
  conv=>whnf
  refine Ask.o h fun p2 h=> ?_
  conv=>whnf
  refine Elem.o (by first | omega | (simp [At] at * <;> omega)) ?_
  conv=>whnf
  refine Ask.o h fun p3 h=> ?_
  conv=>whnf
  refine Ask.o h fun p4 h=> ?_
  conv=>whnf
  refine Ask.o h fun p5 h=> ?_
  conv=>whnf
  cases h;exact ⟨rfl,rfl⟩
 conv=>whnf
 cases h;exact ⟨rfl,rfl⟩
noncomputable def Kb (args0:(List Int)) (n0:Int):Option Int:=
 (Am (D4 args0 n0) ((0:Int),(0:Int))).bind fun q6_5=>
 some q6_5
theorem Ajy {args0} {n0} {v} (h:Kb args0 n0=some v):Ret Try.prog Ry [(slr false 1 Ae) args0,Ae n0] (Ae v):=by
 refine Ba Akk (Nat.le_of_ble_eq_true rfl) ?_
 unfold Kb at h
 conv=>whnf
 refine Len.map ?_
 conv=>whnf
 refine LoopQ.o [10,9,8,5,1] (Md args0 n0) (Tp args0 n0) h (fun s o h=>Acn s o h) (by rfl) (fun _=>rfl) ?_
 rintro q6_5 h
 try dsimp only at h
 conv=>whnf
 cases h;exact (by rfl)
noncomputable def Fk (n0:Int):(Int×Int)→Option ((Int×Int) ⊕ Int):=fun (x5,x1)=>
 if x1>(0:Int) then
 ask (InI (x5*n0)) <|
 ask (InI (x1-(1:Int))) <|
 some (.inl (x5*n0,x1-(1:Int)))
 else
 some (.inr x5)
def P0 (n0:Int):(Int×Int)→St:=fun s=>[(5,A.val (Ae s.1)),(0,A.val (Ae n0)),(1,A.val (Ae s.2))]
def Xc (_n0:Int):Int→Tgt
 | s=>((Ex.exit 0),[5],[(5,A.val (Ae s))])
theorem Aie {n0} (s) o (h:Fk n0 s=some o):vc Try.prog Xu (Co [5,0,1] (P0 n0) (Xc n0) o) (P0 n0 s):=by
 obtain ⟨x5,x1⟩:=s
 unfold Fk at h
 try dsimp only at h
 conv=>whnf
 refine Br.od h (fun p1 h=> ?_) (fun p1 h=> ?_)
 ·conv=>whnf
  refine Ask.o h fun p2 h=> ?_
  conv=>whnf
  refine Ask.o h fun p3 h=> ?_
  conv=>whnf
  cases h;exact ⟨rfl,rfl⟩
 conv=>whnf
 cases h;exact ⟨rfl,rfl⟩
noncomputable def F1 (n0:Int) (k0:Int):Option Int:=
 (Am (Fk n0) ((1:Int),k0)).bind fun q4_5=>
 some q4_5
theorem Wp {n0} {k0} {v} (h:F1 n0 k0=some v):Ret Try.prog M5 [Ae n0,Ae k0] (Ae v):=by
 refine Ba Apu (Nat.le_of_ble_eq_true rfl) ?_
 unfold F1 at h
 conv=>whnf
 refine LoopQ.o [5,0,1] (P0 n0) (Xc n0) h (fun s o h=>Aie s o h) (by rfl) (fun _=>rfl) ?_
 rintro q4_5 h
 try dsimp only at h
 conv=>whnf
 cases h;exact (by rfl)
noncomputable def Dl (line0:List (List Int)) (numbers0:List Int):(Int×(List (List Int)))→Option ((Int×(List (List Int))) ⊕ (List (List Int))):=fun (x6,x5)=>
 if x6<(↑numbers0.length:Int) then
 ask ((0:Int)≤x6∧x6<(↑numbers0.length:Int)) <|
 ask ((0:Int)≤nth numbers0 x6.toNat∧nth numbers0 x6.toNat<(↑line0.length:Int)) <|
 ask ((x5).length+([nth line0 (nth numbers0 x6.toNat).toNat]).length≤LIM) <|
 ask (InI (x6+(1:Int))) <|
 some (.inl (x6+(1:Int),x5++[nth line0 (nth numbers0 x6.toNat).toNat]))
 else
 some (.inr x5)
def Lt (line0:List (List Int)) (numbers0:List Int):(Int×(List (List Int)))→St:=fun s=>[(6,A.val (Ae s.1)),(5,A.val (slr true 1 (slr false 1 Ae) s.2)),(0,A.val (slr false 1 (slr false 1 Ae) line0)),(1,A.val (slr false 1 Ae numbers0))]
def Si (_line0:List (List Int)) (_numbers0:List Int):(List (List Int))→Tgt
 | s=>((Ex.exit 0),[5],[(5,A.val (slr true 1 (slr false 1 Ae) s))])
theorem Ab6 {line0} {numbers0} (s) o (h:Dl line0 numbers0 s=some o):vc Try.prog Lm (Co [6,5,0,1] (Lt line0 numbers0) (Si line0 numbers0) o) (Lt line0 numbers0 s):=by
 obtain ⟨x6,x5⟩:=s
 unfold Dl at h
 try dsimp only at h
 conv=>whnf
 refine Len.map ?_
 conv=>whnf
 refine Br.od h (fun p1 h=> ?_) (fun p1 h=> ?_)
 ·conv=>whnf
  refine Len.map ?_
  conv=>whnf
  refine Ask.o h fun p2 h=> ?_
  conv=>whnf
  refine Elem.o (by first | omega | (simp [At] at * <;> omega)) ?_
  conv=>whnf
  refine Len.map ?_
  conv=>whnf
  refine Ask.o h fun p3 h=> ?_
  conv=>whnf
  refine Elem.o (by first | omega | (simp [At] at * <;> omega)) ?_
  conv=>whnf
  refine BslQ.o (slr false 1 Ae) ([nth line0 (nth numbers0 x6.toNat).toNat]) (by exact fun _=>⟨rfl,rfl⟩) (by rfl) ?_
  conv=>whnf
  refine NoOwn.o (fun _=>rfl) ?_
  conv=>whnf
  refine AppQ.o (m:=1) (slr false 1 Ae) (by exact fun _=>⟨rfl,rfl⟩) (x5) ([nth line0 (nth numbers0 x6.toNat).toNat]) (by rfl) (by rfl) h fun h=> ?_
  conv=>whnf
  refine Ask.o h fun p4 h=> ?_
  conv=>whnf
  cases h;exact ⟨rfl,rfl⟩
 conv=>whnf
 cases h;exact ⟨rfl,rfl⟩
noncomputable def G1 (line0:(List (List Int))) (numbers0:(List Int)):Option (List (List Int)):=
 (Am (Dl line0 numbers0) ((0:Int),Ar (List Int))).bind fun q5_5=>
 some q5_5
theorem Xv {line0} {numbers0} {v} (h:G1 line0 numbers0=some v):Ret Try.prog G4 [(slr false 1 (slr false 1 Ae)) line0,(slr false 1 Ae) numbers0] (slr true 1 (slr false 1 Ae) v):=by
 refine Ba Xn (Nat.le_of_ble_eq_true rfl) ?_
 unfold G1 at h
 conv=>whnf
 refine BslQ.o (slr true 1 Ae) (Ar (List Int)) (by exact fun _=>⟨rfl,rfl⟩) (by rfl) ?_
 conv=>whnf
 refine LoopQ.o [6,5,0,1] (Lt line0 numbers0) (Si line0 numbers0) h (fun s o h=>Ab6 s o h) (by rfl) (fun _=>rfl) ?_
 rintro q5_5 h
 try dsimp only at h
 conv=>whnf
 cases h;exact (by rfl)
noncomputable def Ep (n0:Int):(Int×(List Int)×Int)→Option ((Int×(List Int)×Int) ⊕ (List Int)):=fun (x8,x7,x2)=>
 if x8≥(0:Int) then
 ask (n0≠(0:Int)) <|
 ask ((0:Int)≤x8∧x8<(↑x7.length:Int)) <|
 ask (n0≠(0:Int)∧InI (x2.tdiv n0)) <|
 ask (InI (x8-(1:Int))) <|
 some (.inl (x8-(1:Int),x7.set x8.toNat (x2.tmod n0),x2.tdiv n0))
 else
 some (.inr x7)
def Oq (n0:Int):(Int×(List Int)×Int)→St:=fun s=>[(8,A.val (Ae s.1)),(7,A.val (slr true 1 Ae s.2.1)),(0,A.val (Ae n0)),(2,A.val (Ae s.2.2))]
def U9 (_n0:Int):(List Int)→Tgt
 | s=>((Ex.exit 0),[7],[(7,A.val (slr true 1 Ae s))])
theorem Aft {n0} (s) o (h:Ep n0 s=some o):vc Try.prog Vn (Co [8,7,0,2] (Oq n0) (U9 n0) o) (Oq n0 s):=by
 obtain ⟨x8,x7,x2⟩:=s
 unfold Ep at h
 try dsimp only at h
 conv=>whnf
 refine Br.od h (fun p3 h=> ?_) (fun p3 h=> ?_)
 ·conv=>whnf
  refine Ask.o h fun p4 h=> ?_
  conv=>whnf
  refine Len.map ?_
  conv=>whnf
  refine Ask.o h fun p5 h=> ?_
  conv=>whnf
  refine SetKids.one (fun _=>⟨rfl,rfl⟩) (x2.tmod n0) (by rfl) (by first | omega | (simp [At] at * <;> omega)) ?_
  conv=>whnf
  refine Ask.o h fun p6 h=> ?_
  conv=>whnf
  refine Ask.o h fun p7 h=> ?_
  conv=>whnf
  cases h;exact ⟨rfl,rfl⟩
 conv=>whnf
 cases h;exact ⟨rfl,rfl⟩
noncomputable def I4 (n0:Int) (arity0:Int) (at0:Int):Option (List Int):=
 ask ((0:Int)≤arity0∧arity0≤(↑LIM:Int)) <|
 ask (InI (arity0-(1:Int))) <|
 (Am (Ep n0) (arity0-(1:Int),List.replicate arity0.toNat (0:Int),at0)).bind fun q8_7=>
 some q8_7
theorem Ali {n0} {arity0} {at0} {v} (h:I4 n0 arity0 at0=some v):Ret Try.prog Up [Ae n0,Ae arity0,Ae at0] (slr true 1 Ae v):=by
 refine Ba Alt (Nat.le_of_ble_eq_true rfl) ?_
 unfold I4 at h
 conv=>whnf
 refine Ask.o h fun p1 h=> ?_
 conv=>whnf
 refine MkQ.o Ae ((0:Int)) rfl ?_
 conv=>whnf
 refine Ask.o h fun p2 h=> ?_
 conv=>whnf
 refine LoopQ.o [8,7,0,2] (Oq n0) (U9 n0) h (fun s o h=>Aft s o h) (by rfl) (fun _=>rfl) ?_
 rintro q8_7 h
 try dsimp only at h
 conv=>whnf
 cases h;exact (by rfl)
noncomputable def I2 (a0:Int) (b0:Int):Option Int:=
 if a0>b0 then
 some a0
 else
 some b0
theorem Aar {a0} {b0} {v} (h:I2 a0 b0=some v):Ret Try.prog Ph [Ae a0,Ae b0] (Ae v):=by
 refine Ba Alz (Nat.le_of_ble_eq_true rfl) ?_
 unfold I2 at h
 conv=>whnf
 refine Br.od h (fun p1 h=> ?_) (fun p1 h=> ?_)
 ·conv=>whnf
  cases h;exact (by rfl)
 conv=>whnf
 cases h;exact (by rfl)
noncomputable def E1 (a0:Int) (b0:Int):Option Int:=
 if a0<b0 then
 some a0
 else
 some b0
theorem Yx {a0} {b0} {v} (h:E1 a0 b0=some v):Ret Try.prog Mn [Ae a0,Ae b0] (Ae v):=by
 refine Ba Ald (Nat.le_of_ble_eq_true rfl) ?_
 unfold E1 at h
 conv=>whnf
 refine Br.od h (fun p1 h=> ?_) (fun p1 h=> ?_)
 ·conv=>whnf
  cases h;exact (by rfl)
 conv=>whnf
 cases h;exact (by rfl)
noncomputable def Cz (a0:SAlgebra):(Int×Int)→Option ((Int×Int) ⊕ Int):=fun (x9,x3)=>
 if x9<(↑a0.Ops.length:Int) then
 ask ((0:Int)≤x9∧x9<(↑a0.Ops.length:Int)) <|
 ask (InI (x9+(1:Int))) <|
 some (.inl (x9+(1:Int),if (nth a0.Ops x9.toNat).Arity>x3 then (nth a0.Ops x9.toNat).Arity else x3))
 else
 some (.inr x3)
def J3 (a0:SAlgebra):(Int×Int)→St:=fun s=>[(9,A.val (Ae s.1)),(8,A.val (Ae ((↑a0.Ops.length:Int)))),(7,A.val (slr false 2 (Aw false) a0.Ops)),(3,A.val (Ae s.2))]
def Pj (_a0:SAlgebra):Int→Tgt
 | s=>((Ex.exit 0),[3],[(3,A.val (Ae s))])
theorem Y2 {a0} (s) o (h:Cz a0 s=some o):vc Try.prog Po (Co [9,8,7,3] (J3 a0) (Pj a0) o) (J3 a0 s):=by
 obtain ⟨x9,x3⟩:=s
 unfold Cz at h
 try dsimp only at h
 conv=>whnf
 refine Br.od h (fun p1 h=> ?_) (fun p1 h=> ?_)
 ·conv=>whnf
  refine Len.map ?_
  conv=>whnf
  refine Ask.o h fun p2 h=> ?_
  conv=>whnf
  refine Elem.o (by first | omega | (simp [At] at * <;> omega)) ?_
  conv=>whnf
  refine SetKids.lit rfl ?_
  conv=>whnf
  refine Cells.lit rfl rfl ?_
  conv=>whnf
  refine Ask.o h fun p3 h=> ?_
  conv=>whnf
  cases h;exact ⟨rfl,rfl⟩
 conv=>whnf
 cases h;exact ⟨rfl,rfl⟩
noncomputable def Db (a0:SAlgebra):Option Int:=
 (Am (Cz a0) ((0:Int),(0:Int))).bind fun q4_3=>
 if q4_3=(3:Int) then
 some (40:Int)
 else
 if q4_3=(2:Int) then
 some (200:Int)
 else
 some (300:Int)
theorem M2 {a0} {v} (h:Db a0=some v):Ret Try.prog Hh [(Af false) a0] (Ae v):=by
 refine Ba Aef (Nat.le_of_ble_eq_true rfl) ?_
 unfold Db at h
 conv=>whnf
 refine Cells.lit rfl rfl ?_
 conv=>whnf
 refine Len.map ?_
 conv=>whnf
 refine LoopQ.o [9,8,7,3] (J3 a0) (Pj a0) h (fun s o h=>Y2 s o h) (by rfl) (fun _=>rfl) ?_
 rintro q4_3 h
 try dsimp only at h
 conv=>whnf
 refine Br.oe h (fun p5 h=> ?_) (fun p5 h=> ?_)
 ·conv=>whnf
  cases h;exact (by rfl)
 conv=>whnf
 refine Br.oe h (fun p6 h=> ?_) (fun p6 h=> ?_)
 ·conv=>whnf
  cases h;exact (by rfl)
 conv=>whnf
 cases h;exact (by rfl)
noncomputable def Ck (s0:List Int) (t0:List Int):Int→Option (Int ⊕ (Int ⊕ Unit)):=fun x5=>
 ((if x5<(↑s0.length:Int) then
 if x5<(↑t0.length:Int) then
 some (.inl ())
 else
 some (.inr ())
 else
 some (.inr ()):Option (Unit ⊕ Unit))).bind fun t=>match t with
 | (.inl _)=>(ask ((0:Int)≤x5∧x5<(↑s0.length:Int)) <|
 ask ((0:Int)≤x5∧x5<(↑t0.length:Int)) <|
 if nth s0 x5.toNat≠nth t0 x5.toNat then
 ask ((0:Int)≤x5∧x5<(↑s0.length:Int)) <|
 ask ((0:Int)≤x5∧x5<(↑t0.length:Int)) <|
 if nth s0 x5.toNat<nth t0 x5.toNat then
 some (.inr (.inl (-1:Int)))
 else
 some (.inr (.inl (1:Int)))
 else
 ask (InI (x5+(1:Int))) <|
 some (.inl (x5+(1:Int))))
 | (.inr _)=>(some (.inr (.inr ())))
def Ii (s0:List Int) (t0:List Int):Int→St:=fun s=>[(5,A.val (Ae s)),(0,A.val (slr false 1 Ae s0)),(1,A.val (slr false 1 Ae t0))]
def Na (s0:List Int) (t0:List Int):(Int ⊕ Unit)→Tgt
 | (.inl s)=>(Ex.ret,[4],[(4,A.val (Ae s))])
 | (.inr _s)=>((Ex.exit 0),[0,1],[(0,A.val (slr false 1 Ae s0)),(1,A.val (slr false 1 Ae t0))])
theorem Ww {s0} {t0} (x5) o (h:Ck s0 t0 x5=some o):vc Try.prog Nc (Co [5,0,1] (Ii s0 t0) (Na s0 t0) o) (Ii s0 t0 x5):=by
 unfold Ck at h
 try dsimp only at h
 conv=>whnf
 refine CutQ.o (fun t:(Unit ⊕ Unit)=>match t with | (.inl s)=>(Ex.normal,[5,0,1],[(5,A.val (Ae (x5))),(0,A.val ((slr false 1 Ae) (s0))),(1,A.val ((slr false 1 Ae) (t0)))]) | (.inr s)=>((Ex.exit 0),[0,1],[(0,A.val ((slr false 1 Ae) (s0))),(1,A.val ((slr false 1 Ae) (t0)))])) h ?_ ?_
 ·intro t h
  conv=>whnf
  refine Len.map ?_
  conv=>whnf
  refine Br.od h (fun p1 h=> ?_) (fun p1 h=> ?_)
  ·conv=>whnf
   refine Br.yes ?_
   conv=>whnf
   refine Br.yes ?_
   conv=>whnf
   refine Len.map ?_
   conv=>whnf
   refine Br.yes ?_
   conv=>whnf
   refine Br.yes ?_
   conv=>whnf
   refine Br.od h (fun p2 h=> ?_) (fun p2 h=> ?_)
   ·conv=>whnf
    cases h;exact ⟨rfl,rfl⟩
   conv=>whnf
   cases h;exact ⟨rfl,rfl⟩
  conv=>whnf
  refine Br.no ?_
  conv=>whnf
  refine Br.no ?_
  conv=>whnf
  refine Br.no ?_
  conv=>whnf
  refine Br.no ?_
  conv=>whnf
  refine Br.no ?_
  conv=>whnf
  cases h;exact ⟨rfl,rfl⟩
 rintro (⟨⟩ | ⟨⟩) h
 ·try dsimp only at h
  conv=>whnf
  refine Len.map ?_
  conv=>whnf
  refine Ask.o h fun p4 h=> ?_
  conv=>whnf
  refine Elem.o (by first | omega | (simp [At] at * <;> omega)) ?_
  conv=>whnf
  refine Len.map ?_
  conv=>whnf
  refine Ask.o h fun p5 h=> ?_
  conv=>whnf
  refine Elem.o (by first | omega | (simp [At] at * <;> omega)) ?_
  conv=>whnf
  refine Br.on h (fun p6 h=> ?_) (fun p6 h=> ?_)
  ·conv=>whnf
   refine Len.map ?_
   conv=>whnf
   refine Ask.o h fun p7 h=> ?_
   conv=>whnf
   refine Elem.o (by first | omega | (simp [At] at * <;> omega)) ?_
   conv=>whnf
   refine Len.map ?_
   conv=>whnf
   refine Ask.o h fun p8 h=> ?_
   conv=>whnf
   refine Elem.o (by first | omega | (simp [At] at * <;> omega)) ?_
   conv=>whnf
   refine Br.od h (fun p9 h=> ?_) (fun p9 h=> ?_)
   ·conv=>whnf
    cases h;exact ⟨rfl,rfl⟩
   conv=>whnf
   cases h;exact ⟨rfl,rfl⟩
  conv=>whnf
  refine Ask.o h fun p10 h=> ?_
  conv=>whnf
  cases h;exact ⟨rfl,rfl⟩
 try dsimp only at h
 conv=>whnf
 cases h;exact ⟨rfl,rfl⟩
noncomputable def Fu (s0:(List Int)) (t0:(List Int)):Option Int:=
 (Am (Ck s0 t0) (0:Int)).bind fun t=>match t with
 | (.inl q11_4)=>(some q11_4)
 | (.inr _)=>(if (↑s0.length:Int)<(↑t0.length:Int) then
 some (-1:Int)
 else
 if (↑s0.length:Int)>(↑t0.length:Int) then
 some (1:Int)
 else
 some (0:Int))
theorem Aao {s0} {t0} {v} (h:Fu s0 t0=some v):Ret Try.prog Kx [(slr false 1 Ae) s0,(slr false 1 Ae) t0] (Ae v):=by
 refine Ba Aaf (Nat.le_of_ble_eq_true rfl) ?_
 unfold Fu at h
 conv=>whnf
 refine LoopQ.o [5,0,1] (Ii s0 t0) (Na s0 t0) h (fun s o h=>Ww s o h) (by rfl) (by rintro (_ | _)<;>rfl) ?_
 rintro (q11_4 | ⟨⟩) h
 ·try dsimp only at h
  conv=>whnf
  cases h;exact (by rfl)
 try dsimp only at h
 conv=>whnf
 refine Len.map ?_
 conv=>whnf
 refine Len.map ?_
 conv=>whnf
 refine Br.od h (fun p12 h=> ?_) (fun p12 h=> ?_)
 ·conv=>whnf
  cases h;exact (by rfl)
 conv=>whnf
 refine Len.map ?_
 conv=>whnf
 refine Len.map ?_
 conv=>whnf
 refine Br.od h (fun p13 h=> ?_) (fun p13 h=> ?_)
 ·conv=>whnf
  cases h;exact (by rfl)
 conv=>whnf
 cases h;exact (by rfl)
noncomputable def Er (a0:List Int) (b0:List Int):Int→Option (Int ⊕ (Bool ⊕ Unit)):=fun x5=>
 if x5<(↑a0.length:Int) then
 ask ((0:Int)≤x5∧x5<(↑a0.length:Int)) <|
 ask ((0:Int)≤x5∧x5<(↑b0.length:Int)) <|
 if nth a0 x5.toNat≠nth b0 x5.toNat then
 ask ((0:Int)≤x5∧x5<(↑a0.length:Int)) <|
 ask ((0:Int)≤x5∧x5<(↑b0.length:Int)) <|
 some (.inr (.inl (decide (nth a0 x5.toNat<nth b0 x5.toNat))))
 else
 ask (InI (x5+(1:Int))) <|
 some (.inl (x5+(1:Int)))
 else
 some (.inr (.inr ()))
def N8 (a0:List Int) (b0:List Int):Int→St:=fun s=>[(5,A.val (Ae s)),(0,A.val (slr false 1 Ae a0)),(1,A.val (slr false 1 Ae b0))]
def Vi (_a0:List Int) (_b0:List Int):(Bool ⊕ Unit)→Tgt
 | (.inl s)=>(Ex.ret,[4],[(4,A.val (V.bool s))])
 | (.inr _s)=>((Ex.exit 0),[],[])
theorem Afk {a0} {b0} (x5) o (h:Er a0 b0 x5=some o):vc Try.prog Vv (Co [5,0,1] (N8 a0 b0) (Vi a0 b0) o) (N8 a0 b0 x5):=by
 unfold Er at h
 try dsimp only at h
 conv=>whnf
 refine Len.map ?_
 conv=>whnf
 refine Br.od h (fun p1 h=> ?_) (fun p1 h=> ?_)
 ·conv=>whnf
  refine Len.map ?_
  conv=>whnf
  refine Ask.o h fun p2 h=> ?_
  conv=>whnf
  refine Elem.o (by first | omega | (simp [At] at * <;> omega)) ?_
  conv=>whnf
  refine Len.map ?_
  conv=>whnf
  refine Ask.o h fun p3 h=> ?_
  conv=>whnf
  refine Elem.o (by first | omega | (simp [At] at * <;> omega)) ?_
  conv=>whnf
  refine Br.on h (fun p4 h=> ?_) (fun p4 h=> ?_)
  ·conv=>whnf
   refine Len.map ?_
   conv=>whnf
   refine Ask.o h fun p5 h=> ?_
   conv=>whnf
   refine Elem.o (by first | omega | (simp [At] at * <;> omega)) ?_
   conv=>whnf
   refine Len.map ?_
   conv=>whnf
   refine Ask.o h fun p6 h=> ?_
   conv=>whnf
   refine Elem.o (by first | omega | (simp [At] at * <;> omega)) ?_
   conv=>whnf
   cases h;exact ⟨rfl,rfl⟩
  conv=>whnf
  refine Ask.o h fun p7 h=> ?_
  conv=>whnf
  cases h;exact ⟨rfl,rfl⟩
 conv=>whnf
 cases h;exact ⟨rfl,rfl⟩
noncomputable def I3 (a0:(List Int)) (b0:(List Int)):Option Bool:=
 (Am (Er a0 b0) (0:Int)).bind fun t=>match t with
 | (.inl q8_4)=>(some q8_4)
 | (.inr _)=>(some false)
theorem Aav {a0} {b0} {v} (h:I3 a0 b0=some v):Ret Try.prog O6 [(slr false 1 Ae) a0,(slr false 1 Ae) b0] (V.bool v):=by
 refine Ba Amx (Nat.le_of_ble_eq_true rfl) ?_
 unfold I3 at h
 conv=>whnf
 refine LoopQ.o [5,0,1] (N8 a0 b0) (Vi a0 b0) h (fun s o h=>Afk s o h) (by rfl) (by rintro (_ | _)<;>rfl) ?_
 rintro (q8_4 | ⟨⟩) h
 ·try dsimp only at h
  conv=>whnf
  cases h;exact (by rfl)
 try dsimp only at h
 conv=>whnf
 cases h;exact (by rfl)
noncomputable def Ez (a0:List Int) (b0:List Int):Int→Option (Int ⊕ (Unit ⊕ Unit)):=fun x5=>
 if x5<(↑a0.length:Int) then
 ask ((0:Int)≤x5∧x5<(↑a0.length:Int)) <|
 ask ((0:Int)≤x5∧x5<(↑b0.length:Int)) <|
 if nth a0 x5.toNat≠nth b0 x5.toNat then
 some (.inr (.inl ()))
 else
 ask (InI (x5+(1:Int))) <|
 some (.inl (x5+(1:Int)))
 else
 some (.inr (.inr ()))
def Ow (a0:List Int) (b0:List Int):Int→St:=fun s=>[(5,A.val (Ae s)),(0,A.val (slr false 1 Ae a0)),(1,A.val (slr false 1 Ae b0))]
def U3 (_a0:List Int) (_b0:List Int):(Unit ⊕ Unit)→Tgt
 | (.inl _s)=>(Ex.ret,[4],[(4,A.val (V.bool false))])
 | (.inr _s)=>((Ex.exit 0),[],[])
theorem Agh {a0} {b0} (x5) o (h:Ez a0 b0 x5=some o):vc Try.prog Vt (Co [5,0,1] (Ow a0 b0) (U3 a0 b0) o) (Ow a0 b0 x5):=by
 unfold Ez at h
 try dsimp only at h
 conv=>whnf
 refine Len.map ?_
 conv=>whnf
 refine Br.od h (fun p2 h=> ?_) (fun p2 h=> ?_)
 ·conv=>whnf
  refine Len.map ?_
  conv=>whnf
  refine Ask.o h fun p3 h=> ?_
  conv=>whnf
  refine Elem.o (by first | omega | (simp [At] at * <;> omega)) ?_
  conv=>whnf
  refine Len.map ?_
  conv=>whnf
  refine Ask.o h fun p4 h=> ?_
  conv=>whnf
  refine Elem.o (by first | omega | (simp [At] at * <;> omega)) ?_
  conv=>whnf
  refine Br.on h (fun p5 h=> ?_) (fun p5 h=> ?_)
  ·conv=>whnf
   cases h;exact ⟨rfl,rfl⟩
  conv=>whnf
  refine Ask.o h fun p6 h=> ?_
  conv=>whnf
  cases h;exact ⟨rfl,rfl⟩
 conv=>whnf
 cases h;exact ⟨rfl,rfl⟩
noncomputable def K9 (a0:(List Int)) (b0:(List Int)):Option Bool:=
 if (↑a0.length:Int)≠(↑b0.length:Int) then
 some false
 else
 (Am (Ez a0 b0) (0:Int)).bind fun t=>match t with
 | (.inl _)=>(some false)
 | (.inr _)=>(some true)
theorem Amm {a0} {b0} {v} (h:K9 a0 b0=some v):Ret Try.prog Uf [(slr false 1 Ae) a0,(slr false 1 Ae) b0] (V.bool v):=by
 refine Ba Al2 (Nat.le_of_ble_eq_true rfl) ?_
 unfold K9 at h
 conv=>whnf
 refine Len.map ?_
 conv=>whnf
 refine Len.map ?_
 conv=>whnf
 refine Br.on h (fun p1 h=> ?_) (fun p1 h=> ?_)
 ·conv=>whnf
  cases h;exact (by rfl)
 conv=>whnf
 refine LoopQ.o [5,0,1] (Ow a0 b0) (U3 a0 b0) h (fun s o h=>Agh s o h) (by rfl) (by rintro (_ | _)<;>rfl) ?_
 rintro (⟨⟩ | ⟨⟩) h
 ·try dsimp only at h
  conv=>whnf
  cases h;exact (by rfl)
 try dsimp only at h
 conv=>whnf
 cases h;exact (by rfl)
end Go.Proofs.Ytmmcfdfdacpjgaa.Ax
