/-
 What the functions compute, as functions on plain data, and that the program does compute it; written by program.
-/
import Derived.Test.YtmmcfdfdacpjgaaCode
namespace Go.Proofs.Ytmmcfdfdacpjgaa.Ax
open Go
set_option maxRecDepth 100000
set_option maxHeartbeats 4000000
noncomputable def S4 (code0:(List Int)):Option Bool:=
 some (decide ((↑code0.length:Int)>(65536:Int)))
theorem Arx {code0} {v} (h:S4 code0=some v):Ret Try.prog Zg [(slr false 1 (V.int IntKind.u8)) code0] (V.bool v):=by
 refine Ba Arv (Nat.le_of_ble_eq_true rfl) ?_
 unfold S4 at h
 conv=>whnf
 refine Len.map ?_
 conv=>whnf
 cases h;exact (by rfl)
noncomputable def Gn (l0:List Int) (x0:Int):Int→Option (Int ⊕ (Unit ⊕ Unit)):=fun x5=>
 if x5<(↑l0.length:Int) then
 ask ((0:Int)≤x5∧x5<(↑l0.length:Int)) <|
 if nth l0 x5.toNat=x0 then
 some (.inr (.inl ()))
 else
 ask (InI (x5+(1:Int))) <|
 some (.inl (x5+(1:Int)))
 else
 some (.inr (.inr ()))
def Rr (l0:List Int) (x0:Int):Int→St:=fun s=>[(5,A.val (Ae s)),(0,A.val (slr false 1 Ae l0)),(1,A.val (Ae x0))]
def Ze (_l0:List Int) (_x0:Int):(Unit ⊕ Unit)→Tgt
 | (.inl _s)=>(Ex.ret,[4],[(4,A.val (V.bool true))])
 | (.inr _s)=>((Ex.exit 0),[],[])
theorem Aja {l0} {x0} (x5) o (h:Gn l0 x0 x5=some o):vc Try.prog Za (Co [5,0,1] (Rr l0 x0) (Ze l0 x0) o) (Rr l0 x0 x5):=by
 unfold Gn at h
 try dsimp only at h
 conv=>whnf
 refine Len.map ?_
 conv=>whnf
 refine Br.od h (fun p1 h=> ?_) (fun p1 h=> ?_)
 ·conv=>whnf
  refine Len.map ?_
  conv=>whnf
  refine Ask.o h fun p2 h=> ?_
  conv=>whnf
  refine Elem.o (by first | omega | (simp [At] at * <;> omega)) ?_
  conv=>whnf
  refine Br.oe h (fun p3 h=> ?_) (fun p3 h=> ?_)
  ·conv=>whnf
   cases h;exact ⟨rfl,rfl⟩
  conv=>whnf
  refine Ask.o h fun p4 h=> ?_
  conv=>whnf
  cases h;exact ⟨rfl,rfl⟩
 conv=>whnf
 cases h;exact ⟨rfl,rfl⟩
noncomputable def Ps (l0:(List Int)) (x0:Int):Option Bool:=
 (Am (Gn l0 x0) (0:Int)).bind fun t=>match t with
 | (.inl _)=>(some true)
 | (.inr _)=>(some false)
theorem Asv {l0} {x0} {v} (h:Ps l0 x0=some v):Ret Try.prog Yq [(slr false 1 Ae) l0,Ae x0] (V.bool v):=by
 refine Ba Asu (Nat.le_of_ble_eq_true rfl) ?_
 unfold Ps at h
 conv=>whnf
 refine LoopQ.o [5,0,1] (Rr l0 x0) (Ze l0 x0) h (fun s o h=>Aja s o h) (by rfl) (by rintro (_ | _)<;>rfl) ?_
 rintro (⟨⟩ | ⟨⟩) h
 ·try dsimp only at h
  conv=>whnf
  cases h;exact (by rfl)
 try dsimp only at h
 conv=>whnf
 cases h;exact (by rfl)
noncomputable def Fn (a0:List Int) (b0:List Int):Int→Option (Int ⊕ (Unit ⊕ Unit)):=fun x5=>
 if x5<(↑a0.length:Int) then
 ask ((0:Int)≤x5∧x5<(↑a0.length:Int)) <|
 ask ((0:Int)≤x5∧x5<(↑b0.length:Int)) <|
 if nth a0 x5.toNat≠nth b0 x5.toNat then
 some (.inr (.inl ()))
 else
 ask (InI (x5+(1:Int))) <|
 some (.inl (x5+(1:Int)))
 else
 some (.inr (.inr ()))
def P8 (a0:List Int) (b0:List Int):Int→St:=fun s=>[(5,A.val (Ae s)),(0,A.val (slr false 1 Ae a0)),(1,A.val (slr false 1 Ae b0))]
def Xw (_a0:List Int) (_b0:List Int):(Unit ⊕ Unit)→Tgt
 | (.inl _s)=>(Ex.ret,[4],[(4,A.val (V.bool false))])
 | (.inr _s)=>((Ex.exit 0),[],[])
theorem Ahh {a0} {b0} (x5) o (h:Fn a0 b0 x5=some o):vc Try.prog Xm (Co [5,0,1] (P8 a0 b0) (Xw a0 b0) o) (P8 a0 b0 x5):=by
 unfold Fn at h
 try dsimp only at h
 conv=>whnf
 refine Len.map ?_
 conv=>whnf
 refine Br.od h (fun p2 h=> ?_) (fun p2 h=> ?_)
 ·conv=>whnf
  refine Len.map ?_
  conv=>whnf
  refine Ask.o h fun p3 h=> ?_
  conv=>whnf
  refine Elem.o (by first | omega | (simp [At] at * <;> omega)) ?_
  conv=>whnf
  refine Len.map ?_
  conv=>whnf
  refine Ask.o h fun p4 h=> ?_
  conv=>whnf
  refine Elem.o (by first | omega | (simp [At] at * <;> omega)) ?_
  conv=>whnf
  refine Br.on h (fun p5 h=> ?_) (fun p5 h=> ?_)
  ·conv=>whnf
   cases h;exact ⟨rfl,rfl⟩
  conv=>whnf
  refine Ask.o h fun p6 h=> ?_
  conv=>whnf
  cases h;exact ⟨rfl,rfl⟩
 conv=>whnf
 cases h;exact ⟨rfl,rfl⟩
noncomputable def Ki (a0:(List Int)) (b0:(List Int)):Option Bool:=
 if (↑a0.length:Int)≠(↑b0.length:Int) then
 some false
 else
 (Am (Fn a0 b0) (0:Int)).bind fun t=>match t with
 | (.inl _)=>(some false)
 | (.inr _)=>(some true)
theorem Aed {a0} {b0} {v} (h:Ki a0 b0=some v):Ret Try.prog Q7 [(slr false 1 Ae) a0,(slr false 1 Ae) b0] (V.bool v):=by
 refine Ba Ao6 (Nat.le_of_ble_eq_true rfl) ?_
 unfold Ki at h
 conv=>whnf
 refine Len.map ?_
 conv=>whnf
 refine Len.map ?_
 conv=>whnf
 refine Br.on h (fun p1 h=> ?_) (fun p1 h=> ?_)
 ·conv=>whnf
  cases h;exact (by rfl)
 conv=>whnf
 refine LoopQ.o [5,0,1] (P8 a0 b0) (Xw a0 b0) h (fun s o h=>Ahh s o h) (by rfl) (by rintro (_ | _)<;>rfl) ?_
 rintro (⟨⟩ | ⟨⟩) h
 ·try dsimp only at h
  conv=>whnf
  cases h;exact (by rfl)
 try dsimp only at h
 conv=>whnf
 cases h;exact (by rfl)
noncomputable def Fp (list0:List Int):(Int×(List Int))→Option ((Int×(List Int)) ⊕ (List Int)):=fun (x12,x3)=>
 if x12<(↑list0.length:Int) then
 ask ((0:Int)≤x12∧x12<(↑list0.length:Int)) <|
 ask ((x3).length+([IntKind.u8.wrap ((nth list0 x12.toNat).fdiv ((2:Int)^min (Int.toNat (8:Int)) IntKind.i64.bits)),IntKind.u8.wrap (nth list0 x12.toNat)]).length≤LIM) <|
 ask (InI (x12+(1:Int))) <|
 some (.inl (x12+(1:Int),x3++[IntKind.u8.wrap ((nth list0 x12.toNat).fdiv ((2:Int)^min (Int.toNat (8:Int)) IntKind.i64.bits)),IntKind.u8.wrap (nth list0 x12.toNat)]))
 else
 some (.inr x3)
def Qc (list0:List Int):(Int×(List Int))→St:=fun s=>[(12,A.val (Ae s.1)),(11,A.val (Ae ((↑list0.length:Int)))),(10,A.val (slr false 1 Ae list0)),(3,A.val (slr true 1 (V.int IntKind.u8) s.2))]
def Xd (_list0:List Int):(List Int)→Tgt
 | s=>((Ex.exit 0),[3],[(3,A.val (slr true 1 (V.int IntKind.u8) s))])
theorem Aho {list0} (s) o (h:Fp list0 s=some o):vc Try.prog Xk (Co [12,11,10,3] (Qc list0) (Xd list0) o) (Qc list0 s):=by
 obtain ⟨x12,x3⟩:=s
 unfold Fp at h
 try dsimp only at h
 conv=>whnf
 refine Br.od h (fun p3 h=> ?_) (fun p3 h=> ?_)
 ·conv=>whnf
  refine Len.map ?_
  conv=>whnf
  refine Ask.o h fun p4 h=> ?_
  conv=>whnf
  refine Elem.o (by first | omega | (simp [At] at * <;> omega)) ?_
  conv=>whnf
  refine BslQ.o (V.int IntKind.u8) ([IntKind.u8.wrap ((nth list0 x12.toNat).fdiv ((2:Int)^min (Int.toNat (8:Int)) IntKind.i64.bits)),IntKind.u8.wrap (nth list0 x12.toNat)]) (by exact fun _=>⟨rfl,rfl⟩) (by rfl) ?_
  conv=>whnf
  refine NoOwn.o (fun _=>rfl) ?_
  conv=>whnf
  refine AppQ.o (m:=1) (V.int IntKind.u8) (by exact fun _=>⟨rfl,rfl⟩) (x3) ([IntKind.u8.wrap ((nth list0 x12.toNat).fdiv ((2:Int)^min (Int.toNat (8:Int)) IntKind.i64.bits)),IntKind.u8.wrap (nth list0 x12.toNat)]) (by rfl) (by rfl) h fun h=> ?_
  conv=>whnf
  refine Ask.o h fun p5 h=> ?_
  conv=>whnf
  cases h;exact ⟨rfl,rfl⟩
 conv=>whnf
 cases h;exact ⟨rfl,rfl⟩
noncomputable def Hi (list0:(List Int)):Option ByteArray:=
 ask (InI ((2:Int)*(↑list0.length:Int))) <|
 ask ((0:Int)≤(2:Int)*(↑list0.length:Int)∧(2:Int)*(↑list0.length:Int)≤(↑LIM:Int)) <|
 (Am (Fp list0) ((0:Int),Ar Int)).bind fun q6_3=>
 some (Xp q6_3)
theorem Rg {list0} {v} (h:Hi list0=some v):Ret Try.prog Kl [(slr false 1 Ae) list0] (V.str v):=by
 refine Ba Aol (Nat.le_of_ble_eq_true rfl) ?_
 unfold Hi at h
 conv=>whnf
 refine Len.map ?_
 conv=>whnf
 refine Ask.o h fun p1 h=> ?_
 conv=>whnf
 refine Ask.o h fun p2 h=> ?_
 conv=>whnf
 refine Len.map ?_
 conv=>whnf
 refine LoopQ.o [12,11,10,3] (Qc list0) (Xd list0) h (fun s o h=>Aho s o h) (by rfl) (fun _=>rfl) ?_
 rintro q6_3 h
 try dsimp only at h
 conv=>whnf
 refine BsQ.o q6_3 (by rfl) ?_
 conv=>whnf
 cases h;exact (by rfl)
noncomputable def Fi (n0:Int):(Int×Int)→Option ((Int×Int) ⊕ Int):=fun (x5,x1)=>
 if x1>(0:Int) then
 ask (InI (x5*n0)) <|
 ask (InI (x1-(1:Int))) <|
 some (.inl (x5*n0,x1-(1:Int)))
 else
 some (.inr x5)
def P1 (n0:Int):(Int×Int)→St:=fun s=>[(5,A.val (Ae s.1)),(0,A.val (Ae n0)),(1,A.val (Ae s.2))]
def Xo (_n0:Int):Int→Tgt
 | s=>((Ex.exit 0),[5],[(5,A.val (Ae s))])
theorem Ahc {n0} (s) o (h:Fi n0 s=some o):vc Try.prog Xb (Co [5,0,1] (P1 n0) (Xo n0) o) (P1 n0 s):=by
 obtain ⟨x5,x1⟩:=s
 unfold Fi at h
 try dsimp only at h
 conv=>whnf
 refine Br.od h (fun p1 h=> ?_) (fun p1 h=> ?_)
 ·conv=>whnf
  refine Ask.o h fun p2 h=> ?_
  conv=>whnf
  refine Ask.o h fun p3 h=> ?_
  conv=>whnf
  cases h;exact ⟨rfl,rfl⟩
 conv=>whnf
 cases h;exact ⟨rfl,rfl⟩
noncomputable def G7 (n0:Int) (k0:Int):Option Int:=
 (Am (Fi n0) ((1:Int),k0)).bind fun q4_5=>
 some q4_5
theorem Aeo {n0} {k0} {v} (h:G7 n0 k0=some v):Ret Try.prog Q3 [Ae n0,Ae k0] (Ae v):=by
 refine Ba Aqn (Nat.le_of_ble_eq_true rfl) ?_
 unfold G7 at h
 conv=>whnf
 refine LoopQ.o [5,0,1] (P1 n0) (Xo n0) h (fun s o h=>Ahc s o h) (by rfl) (fun _=>rfl) ?_
 rintro q4_5 h
 try dsimp only at h
 conv=>whnf
 cases h;exact (by rfl)
noncomputable def O4 (n0:Int):(Int×(List Int)×Int)→Option ((Int×(List Int)×Int) ⊕ (List Int)):=fun (x8,x7,x0)=>
 if x8≥(0:Int) then
 ask (n0≠(0:Int)) <|
 ask ((0:Int)≤x8∧x8<(↑x7.length:Int)) <|
 ask (n0≠(0:Int)∧InI (x0.tdiv n0)) <|
 ask (InI (x8-(1:Int))) <|
 some (.inl (x8-(1:Int),x7.set x8.toNat (x0.tmod n0),x0.tdiv n0))
 else
 some (.inr x7)
def Ov (n0:Int):(Int×(List Int)×Int)→St:=fun s=>[(8,A.val (Ae s.1)),(7,A.val (slr true 1 Ae s.2.1)),(0,A.val (Ae s.2.2)),(2,A.val (Ae n0))]
def Uz (_n0:Int):(List Int)→Tgt
 | s=>((Ex.exit 0),[7],[(7,A.val (slr true 1 Ae s))])
theorem Ae5 {n0} (s) o (h:O4 n0 s=some o):vc Try.prog Vo (Co [8,7,0,2] (Ov n0) (Uz n0) o) (Ov n0 s):=by
 obtain ⟨x8,x7,x0⟩:=s
 unfold O4 at h
 try dsimp only at h
 conv=>whnf
 refine Br.od h (fun p3 h=> ?_) (fun p3 h=> ?_)
 ·conv=>whnf
  refine Ask.o h fun p4 h=> ?_
  conv=>whnf
  refine Len.map ?_
  conv=>whnf
  refine Ask.o h fun p5 h=> ?_
  conv=>whnf
  refine SetKids.one (fun _=>⟨rfl,rfl⟩) (x0.tmod n0) (by rfl) (by first | omega | (simp [At] at * <;> omega)) ?_
  conv=>whnf
  refine Ask.o h fun p6 h=> ?_
  conv=>whnf
  refine Ask.o h fun p7 h=> ?_
  conv=>whnf
  cases h;exact ⟨rfl,rfl⟩
 conv=>whnf
 cases h;exact ⟨rfl,rfl⟩
noncomputable def K8 (i0:Int) (k0:Int) (n0:Int):Option (List Int):=
 ask ((0:Int)≤k0∧k0≤(↑LIM:Int)) <|
 ask (InI (k0-(1:Int))) <|
 (Am (O4 n0) (k0-(1:Int),List.replicate k0.toNat (0:Int),i0)).bind fun q8_7=>
 some q8_7
theorem Amc {i0} {k0} {n0} {v} (h:K8 i0 k0 n0=some v):Ret Try.prog Ub [Ae i0,Ae k0,Ae n0] (slr true 1 Ae v):=by
 refine Ba Am4 (Nat.le_of_ble_eq_true rfl) ?_
 unfold K8 at h
 conv=>whnf
 refine Ask.o h fun p1 h=> ?_
 conv=>whnf
 refine MkQ.o Ae ((0:Int)) rfl ?_
 conv=>whnf
 refine Ask.o h fun p2 h=> ?_
 conv=>whnf
 refine LoopQ.o [8,7,0,2] (Ov n0) (Uz n0) h (fun s o h=>Ae5 s o h) (by rfl) (fun _=>rfl) ?_
 rintro q8_7 h
 try dsimp only at h
 conv=>whnf
 cases h;exact (by rfl)
noncomputable def Df (a0:SAlgebra) (_f0:SOp) (_k0:Int) (tuples0:List (List Int)) (x18:Int) (_x9:List Int):(Int×Int)→Option ((Int×Int) ⊕ Int):=fun (x23,x11)=>
 if x23<(↑tuples0.length:Int) then
 ask ((0:Int)≤x23∧x23<(↑tuples0.length:Int)) <|
 ask (InI (x11*a0.Size)) <|
 ask ((0:Int)≤x18∧x18<(↑(nth tuples0 x23.toNat).length:Int)) <|
 ask (InI (x11*a0.Size+nth (nth tuples0 x23.toNat) x18.toNat)) <|
 ask (InI (x23+(1:Int))) <|
 some (.inl (x23+(1:Int),x11*a0.Size+nth (nth tuples0 x23.toNat) x18.toNat))
 else
 some (.inr x11)
def Ji (a0:SAlgebra) (f0:SOp) (k0:Int) (tuples0:List (List Int)) (x18:Int) (x9:List Int):(Int×Int)→St:=fun s=>[(23,A.val (Ae s.1)),(22,A.val (Ae ((↑tuples0.length:Int)))),(21,A.val (slr false 1 (slr false 1 Ae) tuples0)),(11,A.val (Ae s.2)),(10,A.val (Ae x18)),(18,A.val (Ae x18)),(17,A.val (Ae ((↑k0.toNat:Int)))),(9,A.val (slr true 1 Ae x9)),(5,A.val (rP true (Aw false) f0)),(4,A.val (rP true (Af false) a0)),(3,A.val (slr false 1 (slr false 1 Ae) tuples0))]
def Nu (a0:SAlgebra) (f0:SOp) (k0:Int) (tuples0:List (List Int)) (x18:Int) (x9:List Int):Int→Tgt
 | s=>((Ex.exit 2),[11,10,18,17,9,5,4,3],[(11,A.val (Ae s)),(10,A.val (Ae x18)),(18,A.val (Ae x18)),(17,A.val (Ae ((↑k0.toNat:Int)))),(9,A.val (slr true 1 Ae x9)),(5,A.val (rP true (Aw false) f0)),(4,A.val (rP true (Af false) a0)),(3,A.val (slr false 1 (slr false 1 Ae) tuples0))])
theorem Xy {a0} {f0} {k0} {tuples0} {x18} {x9} (s) o (h:Df a0 f0 k0 tuples0 x18 x9 s=some o):vc Try.prog Nn (Co [23,22,21,11,10,18,17,9,5,4,3] (Ji a0 f0 k0 tuples0 x18 x9) (Nu a0 f0 k0 tuples0 x18 x9) o) (Ji a0 f0 k0 tuples0 x18 x9 s):=by
 obtain ⟨x23,x11⟩:=s
 unfold Df at h
 try dsimp only at h
 conv=>whnf
 refine Br.od h (fun p3 h=> ?_) (fun p3 h=> ?_)
 ·conv=>whnf
  refine Len.map ?_
  conv=>whnf
  refine Ask.o h fun p4 h=> ?_
  conv=>whnf
  refine Elem.o (by first | omega | (simp [At] at * <;> omega)) ?_
  conv=>whnf
  refine Cells.lit rfl rfl ?_
  conv=>whnf
  refine Ask.o h fun p5 h=> ?_
  conv=>whnf
  refine Len.map ?_
  conv=>whnf
  refine Ask.o h fun p6 h=> ?_
  conv=>whnf
  refine Elem.o (by first | omega | (simp [At] at * <;> omega)) ?_
  conv=>whnf
  refine Ask.o h fun p7 h=> ?_
  conv=>whnf
  refine Ask.o h fun p8 h=> ?_
  conv=>whnf
  cases h;exact ⟨rfl,rfl⟩
 conv=>whnf
 cases h;exact ⟨rfl,rfl⟩
noncomputable def Cq (a0:SAlgebra) (f0:SOp) (k0:Int) (tuples0:List (List Int)):(Int×(List Int))→Option ((Int×(List Int)) ⊕ (List Int)):=fun (x18,x9)=>
 if x18<(↑k0.toNat:Int) then
 (Am (Df a0 f0 k0 tuples0 x18 x9) ((0:Int),(0:Int))).bind fun q9_11=>
 ask ((0:Int)≤q9_11∧q9_11<(↑f0.Table.length:Int)) <|
 ask ((0:Int)≤x18∧x18<(↑x9.length:Int)) <|
 ask (InI (x18+(1:Int))) <|
 some (.inl (x18+(1:Int),x9.set x18.toNat (nth f0.Table q9_11.toNat)))
 else
 some (.inr x9)
def Jl (a0:SAlgebra) (f0:SOp) (k0:Int) (tuples0:List (List Int)):(Int×(List Int))→St:=fun s=>[(18,A.val (Ae s.1)),(17,A.val (Ae ((↑k0.toNat:Int)))),(9,A.val (slr true 1 Ae s.2)),(5,A.val (rP true (Aw false) f0)),(4,A.val (rP true (Af false) a0)),(3,A.val (slr false 1 (slr false 1 Ae) tuples0))]
def N2 (_a0:SAlgebra) (_f0:SOp) (_k0:Int) (_tuples0:List (List Int)):(List Int)→Tgt
 | s=>((Ex.exit 0),[9],[(9,A.val (slr true 1 Ae s))])
theorem X0 {a0} {f0} {k0} {tuples0} (s) o (h:Cq a0 f0 k0 tuples0 s=some o):vc Try.prog Nz (Co [18,17,9,5,4,3] (Jl a0 f0 k0 tuples0) (N2 a0 f0 k0 tuples0) o) (Jl a0 f0 k0 tuples0 s):=by
 obtain ⟨x18,x9⟩:=s
 unfold Cq at h
 try dsimp only at h
 conv=>whnf
 refine Br.od h (fun p2 h=> ?_) (fun p2 h=> ?_)
 ·conv=>whnf
  refine Len.map ?_
  conv=>whnf
  refine LoopQ.o [23,22,21,11,10,18,17,9,5,4,3] (Ji a0 f0 k0 tuples0 x18 x9) (Nu a0 f0 k0 tuples0 x18 x9) h (fun s o h=>Xy s o h) (by rfl) (fun _=>rfl) ?_
  rintro q9_11 h
  try dsimp only at h
  conv=>whnf
  refine Cells.lit rfl rfl ?_
  conv=>whnf
  refine Len.map ?_
  conv=>whnf
  refine Ask.o h fun p10 h=> ?_
  conv=>whnf
  refine Elem.o (by first | omega | (simp [At] at * <;> omega)) ?_
  conv=>whnf
  refine Len.map ?_
  conv=>whnf
  refine Ask.o h fun p11 h=> ?_
  conv=>whnf
  refine SetKids.one (fun _=>⟨rfl,rfl⟩) (nth f0.Table q9_11.toNat) (by rfl) (by first | omega | (simp [At] at * <;> omega)) ?_
  conv=>whnf
  refine Ask.o h fun p12 h=> ?_
  conv=>whnf
  cases h;exact ⟨rfl,rfl⟩
 conv=>whnf
 cases h;exact ⟨rfl,rfl⟩
noncomputable def Cx (a0:SAlgebra) (f0:SOp) (k0:Int) (tuples0:(List (List Int))):Option (List Int):=
 ask ((0:Int)≤k0∧k0≤(↑LIM:Int)) <|
 (Am (Cq a0 f0 k0 tuples0) ((0:Int),List.replicate k0.toNat (0:Int))).bind fun q13_9=>
 some q13_9
theorem Ll {a0} {f0} {k0} {tuples0} {v} (h:Cx a0 f0 k0 tuples0=some v):Ret Try.prog Gm [(Af false) a0,(Aw false) f0,Ae k0,(slr false 1 (slr false 1 Ae)) tuples0] (slr true 1 Ae v):=by
 refine Ba Acj (Nat.le_of_ble_eq_true rfl) ?_
 unfold Cx at h
 conv=>whnf
 refine Ask.o h fun p1 h=> ?_
 conv=>whnf
 refine MkQ.o Ae ((0:Int)) rfl ?_
 conv=>whnf
 refine Len.mrep ?_
 conv=>whnf
 refine LoopQ.o [18,17,9,5,4,3] (Jl a0 f0 k0 tuples0) (N2 a0 f0 k0 tuples0) h (fun s o h=>X0 s o h) (by rfl) (fun _=>rfl) ?_
 rintro q13_9 h
 try dsimp only at h
 conv=>whnf
 cases h;exact (by rfl)
noncomputable def Ec (x0:Int) (a0:Int) (b0:Int):Option Bool:=
 if x0≥a0 then
 some (decide (x0≤b0))
 else
 some false
theorem Ib {x0} {a0} {b0} {v} (h:Ec x0 a0 b0=some v):Ret Try.prog F6 [Ae x0,Ae a0,Ae b0] (V.bool v):=by
 refine Ba Ar5 (Nat.le_of_ble_eq_true rfl) ?_
 unfold Ec at h
 conv=>whnf
 refine Br.od h (fun p1 h=> ?_) (fun p1 h=> ?_)
 ·conv=>whnf
  refine Br.yes ?_
  conv=>whnf
  refine Br.yes ?_
  conv=>whnf
  refine Br.yes ?_
  conv=>whnf
  cases h;exact (by rfl)
 conv=>whnf
 refine Br.no ?_
 conv=>whnf
 refine Br.no ?_
 conv=>whnf
 refine Br.no ?_
 conv=>whnf
 cases h;exact (by rfl)
noncomputable def Hy (have0:List Bool):(Int×(List Int))→Option ((Int×(List Int)) ⊕ (List Int)):=fun (x9,x3)=>
 if x9<(↑have0.length:Int) then
 ask ((0:Int)≤x9∧x9<(↑have0.length:Int)) <|
 if (nth have0 x9.toNat)=true then
 ask ((x3).length+([x9]).length≤LIM) <|
 ask (InI (x9+(1:Int))) <|
 some (.inl (x9+(1:Int),x3++[x9]))
 else
 ask (InI (x9+(1:Int))) <|
 some (.inl (x9+(1:Int),x3))
 else
 some (.inr x3)
def Oi (have0:List Bool):(Int×(List Int))→St:=fun s=>[(9,A.val (Ae s.1)),(8,A.val (Ae ((↑have0.length:Int)))),(7,A.val (slr false 1 V.bool have0)),(3,A.val (slr true 1 Ae s.2))]
def U6 (_have0:List Bool):(List Int)→Tgt
 | s=>((Ex.exit 0),[3],[(3,A.val (slr true 1 Ae s))])
theorem Ae4 {have0} (s) o (h:Hy have0 s=some o):vc Try.prog V6 (Co [9,8,7,3] (Oi have0) (U6 have0) o) (Oi have0 s):=by
 obtain ⟨x9,x3⟩:=s
 unfold Hy at h
 try dsimp only at h
 conv=>whnf
 refine Br.od h (fun p1 h=> ?_) (fun p1 h=> ?_)
 ·conv=>whnf
  refine Len.map ?_
  conv=>whnf
  refine Ask.o h fun p2 h=> ?_
  conv=>whnf
  refine Elem.o (by first | omega | (simp [At] at * <;> omega)) ?_
  conv=>whnf
  refine Br.ob h (fun p3 h=> ?_) (fun p3 h=> ?_)
  ·conv=>whnf
   refine BslQ.o Ae [x9] (by exact fun _=>⟨rfl,rfl⟩) (by rfl) ?_
   conv=>whnf
   refine NoOwn.o (fun _=>rfl) ?_
   conv=>whnf
   refine AppQ.o (m:=1) Ae (by exact fun _=>⟨rfl,rfl⟩) (x3) ([x9]) (by rfl) (by rfl) h fun h=> ?_
   conv=>whnf
   refine Ask.o h fun p4 h=> ?_
   conv=>whnf
   cases h;exact ⟨rfl,rfl⟩
  conv=>whnf
  refine Ask.o h fun p5 h=> ?_
  conv=>whnf
  cases h;exact ⟨rfl,rfl⟩
 conv=>whnf
 cases h;exact ⟨rfl,rfl⟩
noncomputable def K7 (have0:(List Bool)):Option (List Int):=
 (Am (Hy have0) ((0:Int),Ar Int)).bind fun q6_3=>
 some q6_3
theorem Amv {have0} {v} (h:K7 have0=some v):Ret Try.prog Uw [(slr false 1 V.bool) have0] (slr true 1 Ae v):=by
 refine Ba Amw (Nat.le_of_ble_eq_true rfl) ?_
 unfold K7 at h
 conv=>whnf
 refine BslQ.o Ae (Ar Int) (by exact fun _=>⟨rfl,rfl⟩) (by rfl) ?_
 conv=>whnf
 refine Len.map ?_
 conv=>whnf
 refine LoopQ.o [9,8,7,3] (Oi have0) (U6 have0) h (fun s o h=>Ae4 s o h) (by rfl) (fun _=>rfl) ?_
 rintro q6_3 h
 try dsimp only at h
 conv=>whnf
 cases h;exact (by rfl)
noncomputable def Eb (l0:List Int) (n0:Int):Int→Option (Int ⊕ Int):=fun x5=>
 if x5<(↑l0.length:Int) then
 ask ((0:Int)≤x5∧x5<(↑l0.length:Int)) <|
 if nth l0 x5.toNat<n0 then
 ask (InI (x5+(1:Int))) <|
 some (.inl (x5+(1:Int)))
 else
 some (.inr x5)
 else
 some (.inr x5)
def Qp (l0:List Int) (n0:Int):Int→St:=fun s=>[(5,A.val (Ae s)),(0,A.val (slr false 1 Ae l0)),(1,A.val (Ae n0))]
def Xh (l0:List Int) (n0:Int):Int→Tgt
 | s=>((Ex.exit 0),[5,0,1],[(5,A.val (Ae s)),(0,A.val (slr false 1 Ae l0)),(1,A.val (Ae n0))])
theorem Ahs {l0} {n0} (x5) o (h:Eb l0 n0 x5=some o):vc Try.prog Xe (Co [5,0,1] (Qp l0 n0) (Xh l0 n0) o) (Qp l0 n0 x5):=by
 unfold Eb at h
 try dsimp only at h
 conv=>whnf
 refine Len.map ?_
 conv=>whnf
 refine Br.od h (fun p1 h=> ?_) (fun p1 h=> ?_)
 ·conv=>whnf
  refine Br.yes ?_
  conv=>whnf
  refine Br.yes ?_
  conv=>whnf
  refine Len.map ?_
  conv=>whnf
  refine Ask.o h fun p2 h=> ?_
  conv=>whnf
  refine Elem.o (by first | omega | (simp [At] at * <;> omega)) ?_
  conv=>whnf
  refine Br.yes ?_
  conv=>whnf
  refine Br.yes ?_
  conv=>whnf
  refine Br.yes ?_
  conv=>whnf
  refine Br.yes ?_
  conv=>whnf
  refine Br.od h (fun p3 h=> ?_) (fun p3 h=> ?_)
  ·conv=>whnf
   refine Ask.o h fun p4 h=> ?_
   conv=>whnf
   cases h;exact ⟨rfl,rfl⟩
  conv=>whnf
  cases h;exact ⟨rfl,rfl⟩
 conv=>whnf
 refine Br.no ?_
 conv=>whnf
 refine Br.no ?_
 conv=>whnf
 refine Br.no ?_
 conv=>whnf
 refine Br.no ?_
 conv=>whnf
 refine Br.no ?_
 conv=>whnf
 refine Br.no ?_
 conv=>whnf
 refine Br.no ?_
 conv=>whnf
 cases h;exact ⟨rfl,rfl⟩
noncomputable def Mr (l0:(List Int)) (n0:Int):Option (List Int):=
 (Am (Eb l0 n0) (0:Int)).bind fun q5_5=>
 ((if q5_5<(↑l0.length:Int) then
 ask ((0:Int)≤q5_5∧q5_5<(↑l0.length:Int)) <|
 if nth l0 q5_5.toNat=n0 then
 some (.inl ())
 else
 some (.inr ())
 else
 some (.inr ()):Option (Unit ⊕ Unit))).bind fun t=>match t with
 | (.inl _)=>(some l0)
 | (.inr _)=>(ask (0≤(0:Int)∧(0:Int)≤q5_5∧q5_5≤((l0.length:Nat):Int)) <|
 ask ((Ar Int).length+(List.take (q5_5.toNat-Int.toNat (0:Int)) (List.drop (Int.toNat (0:Int)) l0)).length≤LIM) <|
 ask ((Ar Int++List.take (q5_5.toNat-Int.toNat (0:Int)) (List.drop (Int.toNat (0:Int)) l0)).length+([n0]).length≤LIM) <|
 ask (0≤q5_5∧q5_5≤(↑l0.length:Int)∧(↑l0.length:Int)≤((l0.length:Nat):Int)) <|
 ask ((Ar Int++List.take (q5_5.toNat-Int.toNat (0:Int)) (List.drop (Int.toNat (0:Int)) l0)++[n0]).length+(List.take ((↑l0.length:Int).toNat-q5_5.toNat) (List.drop q5_5.toNat l0)).length≤LIM) <|
 some (Ar Int++List.take (q5_5.toNat-Int.toNat (0:Int)) (List.drop (Int.toNat (0:Int)) l0)++[n0]++List.take ((↑l0.length:Int).toNat-q5_5.toNat) (List.drop q5_5.toNat l0)))
theorem Ap7 {l0} {n0} {v} (h:Mr l0 n0=some v):Ret Try.prog Wh [(slr false 1 Ae) l0,Ae n0] (slr false 1 Ae v):=by
 refine Akz Ao0 (Nat.le_of_ble_eq_true rfl) ?_
 unfold Mr at h
 conv=>whnf
 refine LoopQ.o [5,0,1] (Qp l0 n0) (Xh l0 n0) h (fun s o h=>Ahs s o h) (by rfl) (fun _=>rfl) ?_
 rintro q5_5 h
 try dsimp only at h
 conv=>whnf
 refine CutQ.o (fun t:(Unit ⊕ Unit)=>match t with | (.inl s)=>(Ex.ret,[4],[(4,A.val ((slr false 1 Ae) (l0)))]) | (.inr s)=>(Ex.normal,[5,0,1],[(5,A.val (Ae (q5_5))),(0,A.val ((slr false 1 Ae) (l0))),(1,A.val (Ae (n0)))])) h ?_ ?_
 ·intro t h
  conv=>whnf
  refine Len.map ?_
  conv=>whnf
  refine Br.od h (fun p6 h=> ?_) (fun p6 h=> ?_)
  ·conv=>whnf
   refine Br.yes ?_
   conv=>whnf
   refine Br.yes ?_
   conv=>whnf
   refine Len.map ?_
   conv=>whnf
   refine Ask.o h fun p7 h=> ?_
   conv=>whnf
   refine Elem.o (by first | omega | (simp [At] at * <;> omega)) ?_
   conv=>whnf
   refine Br.yes ?_
   conv=>whnf
   refine Br.yes ?_
   conv=>whnf
   refine Br.yes ?_
   conv=>whnf
   refine Br.yes ?_
   conv=>whnf
   refine Br.oe h (fun p8 h=> ?_) (fun p8 h=> ?_)
   ·conv=>whnf
    cases h;exact ⟨rfl,rfl⟩
   conv=>whnf
   cases h;exact ⟨rfl,rfl⟩
  conv=>whnf
  refine Br.no ?_
  conv=>whnf
  refine Br.no ?_
  conv=>whnf
  refine Br.no ?_
  conv=>whnf
  refine Br.no ?_
  conv=>whnf
  refine Br.no ?_
  conv=>whnf
  refine Br.no ?_
  conv=>whnf
  refine Br.no ?_
  conv=>whnf
  cases h;exact ⟨rfl,rfl⟩
 rintro (⟨⟩ | ⟨⟩) h
 ·try dsimp only at h
  conv=>whnf
  cases h;exact (by rfl)
 try dsimp only at h
 conv=>whnf
 refine BslQ.o Ae (Ar Int) (by exact fun _=>⟨rfl,rfl⟩) (by rfl) ?_
 conv=>whnf
 refine SlcQ.o Ae h fun h=> ?_
 conv=>whnf
 refine AppQ.o (m:=1) Ae (by exact fun _=>⟨rfl,rfl⟩) (Ar Int) (List.take (q5_5.toNat-Int.toNat (0:Int)) (List.drop (Int.toNat (0:Int)) l0)) (by rfl) (by rfl) h fun h=> ?_
 conv=>whnf
 refine BslQ.o Ae [n0] (by exact fun _=>⟨rfl,rfl⟩) (by rfl) ?_
 conv=>whnf
 refine NoOwn.o (fun _=>rfl) ?_
 conv=>whnf
 refine AppQ.o (m:=1) Ae (by exact fun _=>⟨rfl,rfl⟩) (Ar Int++List.take (q5_5.toNat-Int.toNat (0:Int)) (List.drop (Int.toNat (0:Int)) l0)) ([n0]) (by rfl) (by rfl) h fun h=> ?_
 conv=>whnf
 refine Len.map ?_
 conv=>whnf
 refine SlcQ.o Ae h fun h=> ?_
 conv=>whnf
 refine AppQ.o (m:=1) Ae (by exact fun _=>⟨rfl,rfl⟩) (Ar Int++List.take (q5_5.toNat-Int.toNat (0:Int)) (List.drop (Int.toNat (0:Int)) l0)++[n0]) (List.take ((↑l0.length:Int).toNat-q5_5.toNat) (List.drop q5_5.toNat l0)) (by rfl) (by rfl) h fun h=> ?_
 conv=>whnf
 cases h;exact (by first | rfl | simp only [Ah,Ac,slr] | simp [Ah,Aa,V.fz,fzL,V.up,upL,Ab,Ac,Ad,slr])
noncomputable def G0 (k0:Int):Option Bool:=
 if k0≥(1:Int) then
 some (decide (k0≤(64:Int)))
 else
 some false
theorem Xl {k0} {v} (h:G0 k0=some v):Ret Try.prog Lb [Ae k0] (V.bool v):=by
 refine Ba Ahv (Nat.le_of_ble_eq_true rfl) ?_
 unfold G0 at h
 conv=>whnf
 refine Br.od h (fun p1 h=> ?_) (fun p1 h=> ?_)
 ·conv=>whnf
  refine Br.yes ?_
  conv=>whnf
  refine Br.yes ?_
  conv=>whnf
  cases h;exact (by rfl)
 conv=>whnf
 refine Br.no ?_
 conv=>whnf
 refine Br.no ?_
 conv=>whnf
 cases h;exact (by rfl)
end Go.Proofs.Ytmmcfdfdacpjgaa.Ax
