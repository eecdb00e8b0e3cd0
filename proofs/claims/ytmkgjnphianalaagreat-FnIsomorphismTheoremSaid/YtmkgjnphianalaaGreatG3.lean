/-
 What the functions compute, as functions on plain data, and that the program does compute it; written by program.
-/
import Derived.Test.YtmkgjnphianalaaGreatCode
namespace Go.Proofs.YtmkgjnphianalaaGreat.Ax
open Go
set_option maxRecDepth 100000
set_option maxHeartbeats 4000000
noncomputable def El (a0:SAlgebra) (_op0:Int) (args0:List Int):(Int×Int)->Option ((Int×Int) ⊕ Int):=λ(x8,x7)=>
 if x8<(↑args0.length:Int) then
 ask (InI (x7*a0.Size)) <|
 ask ((0:Int)<=x8/\x8<(↑args0.length:Int)) <|
 ask (InI (x7*a0.Size+nth args0 x8.toNat)) <|
 ask (InI (x8+(1:Int))) <|
 some (.inl (x8+(1:Int),x7*a0.Size+nth args0 x8.toNat))
 else
 some (.inr x7)
def Pn (a0:SAlgebra) (op0:Int) (args0:List Int):(Int×Int)->St:=λs=>[(8,A.val (Af s.1)),(7,A.val (Af s.2)),(3,A.val ((rP true (Ag false)) (a0))),(1,A.val (Af (op0))),(2,A.val ((slr false 1 Af) (args0)))]
def X1 (a0:SAlgebra) (op0:Int) (_args0:List Int):Int->Tgt
 | s=>((Ex.exit 0),[7,3,1],[(7,A.val (Af s)),(3,A.val ((rP true (Ag false)) (a0))),(1,A.val (Af (op0)))])
theorem Aji {a0:SAlgebra} {op0:Int} {args0:List Int} (s:(Int×Int)) (o:(Int×Int) ⊕ Int) (h:El a0 op0 args0 s=some o):vc Tryz.prog Xp (Cd [8,7,3,1,2] (Pn a0 op0 args0) (X1 a0 op0 args0) o) (Pn a0 op0 args0 s):=by
 obtain ⟨x8,x7⟩:=s;unfold El at h;try dsimp only at h
 refine Len.map<|Br.od h (λp1 h=> ?_) (λp1 h=> ?_)
 ·refine Cells.lit rfl rfl<|Ask.o h λp2 h=>Len.map<|Ask.o h λp3 h=>Elem.o (by first | omega | (simp [Ap] at * <;> omega))<|Ask.o h λp4 h=>Ask.o h λp5 h=> ?_
  cases h;exact ⟨rfl,rfl⟩
 cases h;exact ⟨rfl,rfl⟩
noncomputable def Kx (a0:SAlgebra) (op0:Int) (args0:(List Int)):Option Int:=
 (Ak (El a0 op0 args0) ((0:Int),(0:Int))).bind λq6_7=>
 ask ((0:Int)<=op0/\op0<(↑a0.Ops.length:Int)) <|
 ask ((0:Int)<=q6_7/\q6_7<(↑(nth a0.Ops op0.toNat).Table.length:Int)) <|
 some (nth (nth a0.Ops op0.toNat).Table q6_7.toNat)
theorem Ar5 {a0:SAlgebra} {op0:Int} {args0:(List Int)} {v:Int} (h:Kx a0 op0 args0=some v):Ret Tryz.prog Wr [(Ag false) a0,Af op0,(slr false 1 Af) args0] (Af v):=by
 refine A4 Ary (Nat.le_of_ble_eq_true rfl) ?_;unfold Kx at h;refine LoopQ.o [8,7,3,1,2] (Pn a0 op0 args0) (X1 a0 op0 args0) h (λs o h=>Aji s o h) (by rfl) (λ_=>rfl) ?_;rintro q6_7 h;try dsimp only at h
 refine Cells.lit rfl rfl<|Len.map<|Ask.o h λp7 h=>Elem.o (by first | omega | (simp [Ap] at * <;> omega))<|Len.map<|Ask.o h λp8 h=>Elem.o (by first | omega | (simp [Ap] at * <;> omega)) ?_
 cases h;exact (by rfl)
noncomputable def Gu (s0:ByteArray):(Int×SOp)->Option ((Int×SOp) ⊕ SOp):=λ(x4,x3)=>
 if x4<(↑s0.size:Int) then
 ask ((0:Int)<=x4/\x4<(↑s0.size:Int)) <|
 ask ((x3.Table).length+([IntKind.i64.wrap (IntKind.u8.wrap (Al9 s0 x4-(48:Int)))]).length<=LIM) <|
 ask (InI (x4+(1:Int))) <|
 some (.inl (x4+(1:Int),{ Arity:=x3.Arity,Table:=x3.Table++[IntKind.i64.wrap (IntKind.u8.wrap (Al9 s0 x4-(48:Int)))] }))
 else
 some (.inr x3)
def Nt (s0:ByteArray):(Int×SOp)->St:=λs=>[(4,A.val (Af s.1)),(3,A.val ((rP true (Ay true)) s.2)),(2,A.val ((rP true (Ay true)) ({ Arity:=(0:Int),Table:=Aw Int }))),(0,A.val (V.str (s0)))]
def Wj (_s0:ByteArray):SOp->Tgt
 | s=>((Ex.exit 0),[3,2],[(3,A.val ((rP true (Ay true)) s)),(2,A.val ((rP true (Ay true)) ({ Arity:=(0:Int),Table:=Aw Int })))])
theorem Af4 {s0:ByteArray} (s:(Int×SOp)) (o:(Int×SOp) ⊕ SOp) (h:Gu s0 s=some o):vc Tryz.prog V1 (Cd [4,3,2,0] (Nt s0) (Wj s0) o) (Nt s0 s):=by
 obtain ⟨x4,x3⟩:=s;unfold Gu at h;try dsimp only at h
 refine Br.od h (λp1 h=> ?_) (λp1 h=> ?_)
 ·refine Cells.lit rfl rfl<|Ask.o h λp2 h=>BslQ.o Af ([IntKind.i64.wrap (IntKind.u8.wrap (Al9 s0 x4-(48:Int)))]) (by exact λ_=>⟨rfl,rfl⟩) (by first | rfl | (simp only [Aa,V.fz,fzL,V.up,upL,Ab,Ac,Ad,slr,List.cons_append,List.nil_append];done) | simp [Aa,V.fz,fzL,V.up,upL,Ab,Ac,Ad,slr])<|NoOwn.o (λ_=>rfl)<|Kid.lit rfl rfl<|Kid.lit rfl rfl<|SetKids.lit rfl<|AppQ.o (m:=1) Af (by exact λ_=>⟨rfl,rfl⟩) (x3.Table) ([IntKind.i64.wrap (IntKind.u8.wrap (Al9 s0 x4-(48:Int)))]) (by rfl) (by rfl) h λh=>SetKids.lit rfl<|Ask.o h λp3 h=> ?_
  cases h;exact ⟨rfl,rfl⟩
 cases h;exact ⟨rfl,rfl⟩
noncomputable def Bh (s0:ByteArray):Option SOp:=
 (Ak (Gu s0) ((0:Int),{ Arity:=(2:Int),Table:=Aw Int })).bind λq4_3=>
 some q4_3
theorem Bs {s0:ByteArray} {v:SOp} (h:Bh s0=some v):Ret Tryz.prog Bm [V.str s0] ((Ay true) v):=by
 refine A4 Am0 (Nat.le_of_ble_eq_true rfl) ?_;unfold Bh at h;refine SetKids.lit rfl<|LoopQ.o [4,3,2,0] (Nt s0) (Wj s0) h (λs o h=>Af4 s o h) (by rfl) (λ_=>rfl) ?_
 rintro q4_3 h;try dsimp only at h
 refine Cells.lit rfl rfl<|SetKids.lit rfl ?_
 cases h;exact (by rfl)
noncomputable def Gz (n0:Int):(Int×SOp)->Option ((Int×SOp) ⊕ SOp):=λ(x4,x3)=>
 ask (InI (n0*n0)) <|
 ask (InI (n0*n0*n0)) <|
 if x4<n0*n0*n0 then
 ask (InI (n0*n0)) <|
 ask (n0*n0≠(0:Int)/\InI (x4.tdiv (n0*n0))) <|
 ask (InI (x4.tdiv (n0*n0)+n0)) <|
 ask (n0≠(0:Int)/\InI (x4.tdiv n0)) <|
 ask (n0≠(0:Int)) <|
 ask (InI (x4.tdiv (n0*n0)+n0-(x4.tdiv n0).tmod n0)) <|
 ask (n0≠(0:Int)) <|
 ask (InI (x4.tdiv (n0*n0)+n0-(x4.tdiv n0).tmod n0+x4.tmod n0)) <|
 ask (n0≠(0:Int)) <|
 ask ((x3.Table).length+([(x4.tdiv (n0*n0)+n0-(x4.tdiv n0).tmod n0+x4.tmod n0).tmod n0]).length<=LIM) <|
 ask (InI (x4+(1:Int))) <|
 some (.inl (x4+(1:Int),{ Arity:=x3.Arity,Table:=x3.Table++[(x4.tdiv (n0*n0)+n0-(x4.tdiv n0).tmod n0+x4.tmod n0).tmod n0] }))
 else
 some (.inr x3)
def Ng (n0:Int):(Int×SOp)->St:=λs=>[(4,A.val (Af s.1)),(3,A.val ((rP true (Ay true)) s.2)),(2,A.val ((rP true (Ay true)) ({ Arity:=(0:Int),Table:=Aw Int }))),(0,A.val (Af (n0)))]
def U1 (_n0:Int):SOp->Tgt
 | s=>((Ex.exit 0),[3,2],[(3,A.val ((rP true (Ay true)) s)),(2,A.val ((rP true (Ay true)) ({ Arity:=(0:Int),Table:=Aw Int })))])
theorem Agd {n0:Int} (s:(Int×SOp)) (o:(Int×SOp) ⊕ SOp) (h:Gz n0 s=some o):vc Tryz.prog Vx (Cd [4,3,2,0] (Ng n0) (U1 n0) o) (Ng n0 s):=by
 obtain ⟨x4,x3⟩:=s;unfold Gz at h;try dsimp only at h
 refine Ask.o h λp1 h=>Ask.o h λp2 h=>Br.od h (λp3 h=> ?_) (λp3 h=> ?_)
 ·refine Cells.lit rfl rfl<|Ask.o h λp4 h=>Ask.o h λp5 h=>Ask.o h λp6 h=>Ask.o h λp7 h=>Ask.o h λp8 h=>Ask.o h λp9 h=>Ask.o h λp10 h=>Ask.o h λp11 h=>Ask.o h λp12 h=>BslQ.o Af ([(x4.tdiv (n0*n0)+n0-(x4.tdiv n0).tmod n0+x4.tmod n0).tmod n0]) (by exact λ_=>⟨rfl,rfl⟩) (by first | rfl | (simp only [Aa,V.fz,fzL,V.up,upL,Ab,Ac,Ad,slr,List.cons_append,List.nil_append];done) | simp [Aa,V.fz,fzL,V.up,upL,Ab,Ac,Ad,slr])<|NoOwn.o (λ_=>rfl)<|Kid.lit rfl rfl<|Kid.lit rfl rfl<|SetKids.lit rfl<|AppQ.o (m:=1) Af (by exact λ_=>⟨rfl,rfl⟩) (x3.Table) ([(x4.tdiv (n0*n0)+n0-(x4.tdiv n0).tmod n0+x4.tmod n0).tmod n0]) (by rfl) (by rfl) h λh=>SetKids.lit rfl<|Ask.o h λp13 h=> ?_
  cases h;exact ⟨rfl,rfl⟩
 cases h;exact ⟨rfl,rfl⟩
noncomputable def Hj (n0:Int):Option SOp:=
 (Ak (Gz n0) ((0:Int),{ Arity:=(3:Int),Table:=Aw Int })).bind λq14_3=>
 some q14_3
theorem Abr {n0:Int} {v:SOp} (h:Hj n0=some v):Ret Tryz.prog M2 [Af n0] ((Ay true) v):=by
 refine A4 Ao1 (Nat.le_of_ble_eq_true rfl) ?_;unfold Hj at h;refine SetKids.lit rfl<|LoopQ.o [4,3,2,0] (Ng n0) (U1 n0) h (λs o h=>Agd s o h) (by rfl) (λ_=>rfl) ?_
 rintro q14_3 h;try dsimp only at h
 refine Cells.lit rfl rfl<|SetKids.lit rfl ?_
 cases h;exact (by rfl)
noncomputable def F1 (c0:Sl1Cur):Option (Int×Sl1Cur):=
 ((if c0.at_<(↑c0.code.length:Int) then
 ask ((0:Int)<=c0.at_/\c0.at_<(↑c0.code.length:Int)) <|
 some (IntKind.i64.wrap (nth c0.code c0.at_.toNat))
 else
 some (0:Int):Option Int)).bind λq3_3=>
 ask (InI (c0.at_+(1:Int))) <|
 if c0.at_+(1:Int)<=(↑c0.code.length:Int) then
 some (q3_3,{ code:=c0.code,at_:=c0.at_+(1:Int),seed:=IntKind.u64.wrap (IntKind.u64.wrap (IntKind.u64.wrap (c0.seed*(6364136223846793005:Int))+IntKind.u64.wrap q3_3)+(550289:Int)) })
 else
 some (IntKind.i64.wrap (IntKind.u64.wrap (↑(BitVec.ofInt IntKind.u64.bits ((IntKind.u64.wrap (IntKind.u64.wrap (IntKind.u64.wrap (c0.seed*(6364136223846793005:Int))+IntKind.u64.wrap q3_3)+(550289:Int))).fdiv ((2:Int)^min (Int.toNat (40:Int)) IntKind.u64.bits)) &&& BitVec.ofInt IntKind.u64.bits (255:Int)).toNat:Int)),{ code:=c0.code,at_:=c0.at_+(1:Int),seed:=IntKind.u64.wrap (IntKind.u64.wrap (IntKind.u64.wrap (c0.seed*(6364136223846793005:Int))+IntKind.u64.wrap q3_3)+(550289:Int)) })
theorem W9 {c0:Sl1Cur} {v:(Int×Sl1Cur)} (h:F1 c0=some v):J7 Tryz.prog Kk [(rP true (Al false)) c0] (Af v.1) 0 ((rP true (Al false)) v.2):=by
 refine Ij Ajl (Nat.le_of_ble_eq_true rfl) ?_;unfold F1 at h;refine CutQ.o (λt:Int=>match t with | s=>(Ex.normal,[3,0,62],[(3,A.val (Af s)),(0,A.ref 62 []),(62,A.val ((rP true (Al false)) (c0)))])) h ?_ ?_
 ·intro t h;refine Cells.lit rfl rfl<|Cells.lit rfl rfl<|Len.map<|Br.od h (λp1 h=> ?_) (λp1 h=> ?_)
  ·refine Cells.lit rfl rfl<|Cells.lit rfl rfl<|Len.map<|Ask.o h λp2 h=>Elem.o (by first | omega | (simp [Ap] at * <;> omega)) ?_
   cases h;exact ⟨rfl,rfl⟩
  cases h;exact ⟨rfl,rfl⟩
 rintro q3_3 h;try dsimp only at h
 refine Cells.lit rfl rfl<|Ask.o h λp4 h=>SetKids.lit rfl<|Cells.lit rfl rfl<|SetKids.lit rfl<|Cells.lit rfl rfl<|Cells.lit rfl rfl<|Len.map<|Br.od h (λp5 h=> ?_) (λp5 h=> ?_)
 ·cases h;exact ⟨(by rfl),(by rfl)⟩
 refine Cells.lit rfl rfl ?_;cases h;exact ⟨(by rfl),(by rfl)⟩
noncomputable def Co (arity0:Int) (a0:SAlgebra) (b0:SAlgebra) (f0:List Int):(Int×Int×Int×Int)->Option ((Int×Int×Int×Int) ⊕ Int):=λ(x13,x12,x11,x0)=>
 if x13<arity0 then
 ask (a0.Size≠(0:Int)) <|
 ask ((0:Int)<=x0.tmod a0.Size/\x0.tmod a0.Size<(↑f0.length:Int)) <|
 ask (InI (nth f0 (x0.tmod a0.Size).toNat*x12)) <|
 ask (InI (x11+nth f0 (x0.tmod a0.Size).toNat*x12)) <|
 ask (a0.Size≠(0:Int)/\InI (x0.tdiv a0.Size)) <|
 ask (InI (x12*b0.Size)) <|
 ask (InI (x13+(1:Int))) <|
 some (.inl (x13+(1:Int),x12*b0.Size,x11+nth f0 (x0.tmod a0.Size).toNat*x12,x0.tdiv a0.Size))
 else
 some (.inr x11)
def Lr (arity0:Int) (a0:SAlgebra) (b0:SAlgebra) (f0:List Int):(Int×Int×Int×Int)->St:=λs=>[(13,A.val (Af s.1)),(12,A.val (Af s.2.1)),(11,A.val (Af s.2.2.1)),(8,A.val ((rP true (Ag false)) (b0))),(7,A.val ((rP true (Ag false)) (a0))),(0,A.val (Af s.2.2.2)),(1,A.val (Af (arity0))),(4,A.val ((slr false 1 Af) (f0)))]
def Sr (_arity0:Int) (_a0:SAlgebra) (_b0:SAlgebra) (_f0:List Int):Int->Tgt
 | s=>((Ex.exit 0),[11],[(11,A.val (Af s))])
theorem Ac6 {arity0:Int} {a0:SAlgebra} {b0:SAlgebra} {f0:List Int} (s:(Int×Int×Int×Int)) (o:(Int×Int×Int×Int) ⊕ Int) (h:Co arity0 a0 b0 f0 s=some o):vc Tryz.prog S5 (Cd [13,12,11,8,7,0,1,4] (Lr arity0 a0 b0 f0) (Sr arity0 a0 b0 f0) o) (Lr arity0 a0 b0 f0 s):=by
 obtain ⟨x13,x12,x11,x0⟩:=s;unfold Co at h;try dsimp only at h
 refine Br.od h (λp1 h=> ?_) (λp1 h=> ?_)
 ·refine Cells.lit rfl rfl<|Ask.o h λp2 h=>Len.map<|Ask.o h λp3 h=>Elem.o (by first | omega | (simp [Ap] at * <;> omega))<|Ask.o h λp4 h=>Ask.o h λp5 h=>Cells.lit rfl rfl<|Ask.o h λp6 h=>Cells.lit rfl rfl<|Ask.o h λp7 h=>Ask.o h λp8 h=> ?_
  cases h;exact ⟨rfl,rfl⟩
 cases h;exact ⟨rfl,rfl⟩
noncomputable def Hn (i0:Int) (arity0:Int) (a0:SAlgebra) (b0:SAlgebra) (f0:(List Int)):Option Int:=
 (Ak (Co arity0 a0 b0 f0) ((0:Int),(1:Int),(0:Int),i0)).bind λq9_11=>
 some q9_11
theorem Aju {i0:Int} {arity0:Int} {a0:SAlgebra} {b0:SAlgebra} {f0:(List Int)} {v:Int} (h:Hn i0 arity0 a0 b0 f0=some v):Ret Tryz.prog O6 [Af i0,Af arity0,(Ag false) a0,(Ag false) b0,(slr false 1 Af) f0] (Af v):=by
 refine A4 Aiu (Nat.le_of_ble_eq_true rfl) ?_;unfold Hn at h;refine LoopQ.o [13,12,11,8,7,0,1,4] (Lr arity0 a0 b0 f0) (Sr arity0 a0 b0 f0) h (λs o h=>Ac6 s o h) (by rfl) (λ_=>rfl) ?_;rintro q9_11 h;try dsimp only at h
 cases h;exact (by rfl)
noncomputable def Gl (bits0:Int):(Int×(List Int))->Option ((Int×(List Int)) ⊕ (List Int)):=λ(x4,x3)=>
 ask ((0:Int)<=x4) <|
 if A28 bits0 x4>(0:Int) then
 ask ((0:Int)<=x4) <|
 if A6m (A28 bits0 x4) (1:Int)=(1:Int) then
 ask ((x3).length+([x4]).length<=LIM) <|
 ask (InI (x4+(1:Int))) <|
 some (.inl (x4+(1:Int),x3++[x4]))
 else
 ask (InI (x4+(1:Int))) <|
 some (.inl (x4+(1:Int),x3))
 else
 some (.inr x3)
def Qg (bits0:Int):(Int×(List Int))->St:=λs=>[(4,A.val (Af s.1)),(3,A.val ((slr true 1 Af) s.2)),(0,A.val (Af (bits0)))]
def Aau (_bits0:Int):(List Int)->Tgt
 | s=>((Ex.exit 0),[3],[(3,A.val ((slr true 1 Af) s))])
theorem Ak1 {bits0:Int} (s:(Int×(List Int))) (o:(Int×(List Int)) ⊕ (List Int)) (h:Gl bits0 s=some o):vc Tryz.prog Zg (Cd [4,3,0] (Qg bits0) (Aau bits0) o) (Qg bits0 s):=by
 obtain ⟨x4,x3⟩:=s;unfold Gl at h;try dsimp only at h
 refine Ask.o h λp1 h=>Br.od h (λp2 h=> ?_) (λp2 h=> ?_)
 ·refine Ask.o h λp3 h=>Br.oe h (λp4 h=> ?_) (λp4 h=> ?_)
  ·refine BslQ.o Af [x4] (by exact λ_=>⟨rfl,rfl⟩) (by first | rfl | (simp only [Aa,V.fz,fzL,V.up,upL,Ab,Ac,Ad,slr,List.cons_append,List.nil_append];done) | simp [Aa,V.fz,fzL,V.up,upL,Ab,Ac,Ad,slr])<|NoOwn.o (λ_=>rfl)<|AppQ.o (m:=1) Af (by exact λ_=>⟨rfl,rfl⟩) (x3) ([x4]) (by rfl) (by rfl) h λh=>Ask.o h λp5 h=> ?_
   cases h;exact ⟨rfl,rfl⟩
  refine Ask.o h λp6 h=> ?_
  cases h;exact ⟨rfl,rfl⟩
 cases h;exact ⟨rfl,rfl⟩
noncomputable def Mx (bits0:Int):Option (List Int):=
 (Ak (Gl bits0) ((0:Int),Aw Int)).bind λq7_3=>
 some q7_3
theorem Asq {bits0:Int} {v:(List Int)} (h:Mx bits0=some v):Ret Tryz.prog Yn [Af bits0] ((slr true 1 Af) v):=by
 refine A4 Aue (Nat.le_of_ble_eq_true rfl) ?_;unfold Mx at h;refine BslQ.o Af (Aw Int) (by exact λ_=>⟨rfl,rfl⟩) (by first | rfl | (simp only [Aa,V.fz,fzL,V.up,upL,Ab,Ac,Ad,slr,List.cons_append,List.nil_append];done) | simp [Aa,V.fz,fzL,V.up,upL,Ab,Ac,Ad,slr])<|LoopQ.o [4,3,0] (Qg bits0) (Aau bits0) h (λs o h=>Ak1 s o h) (by rfl) (λ_=>rfl) ?_
 rintro q7_3 h;try dsimp only at h
 cases h;exact (by rfl)
noncomputable def Dd (n0:Int):(Int×(List Int))->Option ((Int×(List Int)) ⊕ (List Int)):=λ(x4,x3)=>
 if x4<n0 then
 ask ((x3).length+([x4]).length<=LIM) <|
 ask (InI (x4+(1:Int))) <|
 some (.inl (x4+(1:Int),x3++[x4]))
 else
 some (.inr x3)
def Ky (n0:Int):(Int×(List Int))->St:=λs=>[(4,A.val (Af s.1)),(3,A.val ((slr true 1 Af) s.2)),(0,A.val (Af (n0)))]
def Sa (_n0:Int):(List Int)->Tgt
 | s=>((Ex.exit 0),[3],[(3,A.val ((slr true 1 Af) s))])
theorem Ado {n0:Int} (s:(Int×(List Int))) (o:(Int×(List Int)) ⊕ (List Int)) (h:Dd n0 s=some o):vc Tryz.prog Su (Cd [4,3,0] (Ky n0) (Sa n0) o) (Ky n0 s):=by
 obtain ⟨x4,x3⟩:=s;unfold Dd at h;try dsimp only at h
 refine Br.od h (λp1 h=> ?_) (λp1 h=> ?_)
 ·refine BslQ.o Af [x4] (by exact λ_=>⟨rfl,rfl⟩) (by first | rfl | (simp only [Aa,V.fz,fzL,V.up,upL,Ab,Ac,Ad,slr,List.cons_append,List.nil_append];done) | simp [Aa,V.fz,fzL,V.up,upL,Ab,Ac,Ad,slr])<|NoOwn.o (λ_=>rfl)<|AppQ.o (m:=1) Af (by exact λ_=>⟨rfl,rfl⟩) (x3) ([x4]) (by rfl) (by rfl) h λh=>Ask.o h λp2 h=> ?_
  cases h;exact ⟨rfl,rfl⟩
 cases h;exact ⟨rfl,rfl⟩
noncomputable def Dv (n0:Int):Option (List Int):=
 (Ak (Dd n0) ((0:Int),Aw Int)).bind λq3_3=>
 some q3_3
theorem Km {n0:Int} {v:(List Int)} (h:Dv n0=some v):Ret Tryz.prog F4 [Af n0] ((slr true 1 Af) v):=by
 refine A4 Ajp (Nat.le_of_ble_eq_true rfl) ?_;unfold Dv at h;refine BslQ.o Af (Aw Int) (by exact λ_=>⟨rfl,rfl⟩) (by first | rfl | (simp only [Aa,V.fz,fzL,V.up,upL,Ab,Ac,Ad,slr,List.cons_append,List.nil_append];done) | simp [Aa,V.fz,fzL,V.up,upL,Ab,Ac,Ad,slr])<|LoopQ.o [4,3,0] (Ky n0) (Sa n0) h (λs o h=>Ado s o h) (by rfl) (λ_=>rfl) ?_
 rintro q3_3 h;try dsimp only at h
 cases h;exact (by rfl)
noncomputable def J4 (a0:Int) (b0:Int):Option Int:=
 if a0>b0 then
 some a0
 else
 some b0
theorem Afm {a0:Int} {b0:Int} {v:Int} (h:J4 a0 b0=some v):Ret Tryz.prog Ri [Af a0,Af b0] (Af v):=by
 refine A4 Ata (Nat.le_of_ble_eq_true rfl) ?_;unfold J4 at h;refine Br.od h (λp1 h=> ?_) (λp1 h=> ?_)
 ·cases h;exact (by rfl)
 cases h;exact (by rfl)
noncomputable def C4 (p0:List Int):Int->Option (Int ⊕ (Unit ⊕ Unit)):=λx13=>
 if x13<(↑p0.length:Int) then
 ask ((0:Int)<=x13/\x13<(↑p0.length:Int)) <|
 if nth p0 x13.toNat<(0:Int) then
 some (.inr (.inl ()))
 else
 if nth p0 x13.toNat>x13 then
 some (.inr (.inl ()))
 else
 ask ((0:Int)<=nth p0 x13.toNat/\nth p0 x13.toNat<(↑p0.length:Int)) <|
 if nth p0 (nth p0 x13.toNat).toNat≠nth p0 x13.toNat then
 some (.inr (.inl ()))
 else
 ask (InI (x13+(1:Int))) <|
 some (.inl (x13+(1:Int)))
 else
 some (.inr (.inr ()))
def J8 (p0:List Int):Int->St:=λs=>[(13,A.val (Af s)),(12,A.val (Af ((↑p0.length:Int)))),(11,A.val ((slr false 1 Af) (p0))),(1,A.val ((slr false 1 Af) (p0)))]
def Pw (_p0:List Int):(Unit ⊕ Unit)->Tgt
 | (.inl _s)=>(Ex.ret,[4],[(4,A.val (V.bool (false)))])
 | (.inr _s)=>((Ex.exit 0),[],[])
theorem Acs {p0:List Int} (x13:Int) (o:Int ⊕ (Unit ⊕ Unit)) (h:C4 p0 x13=some o):vc Tryz.prog P4 (Cd [13,12,11,1] (J8 p0) (Pw p0) o) (J8 p0 x13):=by
 unfold C4 at h;try dsimp only at h
 refine Br.od h (λp2 h=> ?_) (λp2 h=> ?_)
 ·refine Len.map<|Ask.o h λp3 h=>Elem.o (by first | omega | (simp [Ap] at * <;> omega))<|Br.od h (λp4 h=> ?_) (λp4 h=> ?_)
  ·refine Br.yes<|Br.yes<|Br.yes<|Br.yes<|Br.yes<|Br.yes<|Br.yes<|Br.yes<|Br.yes<|Br.yes<|Br.yes ?_
   cases h;exact ⟨rfl,rfl⟩
  refine Br.no<|Br.no<|Br.no<|Br.od h (λp5 h=> ?_) (λp5 h=> ?_)
  ·refine Br.yes<|Br.yes<|Br.yes<|Br.yes<|Br.yes<|Br.yes<|Br.yes ?_
   cases h;exact ⟨rfl,rfl⟩
  refine Br.no<|Br.no<|Len.map<|Ask.o h λp6 h=>Elem.o (by first | omega | (simp [Ap] at * <;> omega))<|Br.no<|Br.no<|Br.no<|Br.no<|Br.on h (λp7 h=> ?_) (λp7 h=> ?_)
  ·cases h;exact ⟨rfl,rfl⟩
  refine Ask.o h λp8 h=> ?_
  cases h;exact ⟨rfl,rfl⟩
 cases h;exact ⟨rfl,rfl⟩
noncomputable def G7 (n0:Int) (p0:(List Int)):Option Bool:=
 if (↑p0.length:Int)≠n0 then
 some false
 else
 (Ak (C4 p0) (0:Int)).bind λt=>match t with
 | (.inl _)=>(some false)
 | (.inr _)=>(some true)
theorem Af1 {n0:Int} {p0:(List Int)} {v:Bool} (h:G7 n0 p0=some v):Ret Tryz.prog Nj [Af n0,(slr false 1 Af) p0] (V.bool v):=by
 refine A4 Aho (Nat.le_of_ble_eq_true rfl) ?_;unfold G7 at h;refine Len.map<|Br.on h (λp1 h=> ?_) (λp1 h=> ?_)
 ·cases h;exact (by rfl)
 refine Len.map<|LoopQ.o [13,12,11,1] (J8 p0) (Pw p0) h (λs o h=>Acs s o h) (by rfl) (by rintro (_ | _)<;>rfl) ?_
 rintro (⟨⟩ | ⟨⟩) h
 ·try dsimp only at h
  cases h;exact (by rfl)
 try dsimp only at h
 cases h;exact (by rfl)
noncomputable def Iq (some0:List Int):(Int×(List Bool))->Option ((Int×(List Bool)) ⊕ (List Bool)):=λ(x6,x5)=>
 if x6<(↑some0.length:Int) then
 ask ((0:Int)<=x6/\x6<(↑some0.length:Int)) <|
 ask ((0:Int)<=nth some0 x6.toNat/\nth some0 x6.toNat<(↑x5.length:Int)) <|
 ask (InI (x6+(1:Int))) <|
 some (.inl (x6+(1:Int),x5.set (nth some0 x6.toNat).toNat true))
 else
 some (.inr x5)
def Wn (some0:List Int):(Int×(List Bool))->St:=λs=>[(6,A.val (Af s.1)),(5,A.val ((slr true 1 V.bool) s.2)),(1,A.val ((slr false 1 Af) (some0)))]
def Ac2 (_some0:List Int):(List Bool)->Tgt
 | s=>((Ex.exit 0),[5],[(5,A.val ((slr true 1 V.bool) s))])
theorem Aqr {some0:List Int} (s:(Int×(List Bool))) (o:(Int×(List Bool)) ⊕ (List Bool)) (h:Iq some0 s=some o):vc Tryz.prog Acv (Cd [6,5,1] (Wn some0) (Ac2 some0) o) (Wn some0 s):=by
 obtain ⟨x6,x5⟩:=s;unfold Iq at h;try dsimp only at h
 refine Len.map<|Br.od h (λp2 h=> ?_) (λp2 h=> ?_)
 ·refine Len.map<|Ask.o h λp3 h=>Elem.o (by first | omega | (simp [Ap] at * <;> omega))<|Len.map<|Ask.o h λp4 h=>SetKids.one (λ_=>⟨rfl,rfl⟩) (true) (by rfl) (by first | omega | (simp [Ap] at * <;> omega))<|Ask.o h λp5 h=> ?_
  cases h;exact ⟨rfl,rfl⟩
 cases h;exact ⟨rfl,rfl⟩
noncomputable def Sj (n0:Int) (some0:(List Int)):Option (List Bool):=
 ask ((0:Int)<=n0/\n0<=(↑LIM:Int)) <|
 (Ak (Iq some0) ((0:Int),List.replicate n0.toNat false)).bind λq6_5=>
 some q6_5
theorem Azb {n0:Int} {some0:(List Int)} {v:(List Bool)} (h:Sj n0 some0=some v):Ret Tryz.prog Aei [Af n0,(slr false 1 Af) some0] ((slr true 1 V.bool) v):=by
 refine A4 A1m (Nat.le_of_ble_eq_true rfl) ?_;unfold Sj at h;refine Ask.o h λp1 h=>MkQ.o V.bool (false) rfl<|LoopQ.o [6,5,1] (Wn some0) (Ac2 some0) h (λs o h=>Aqr s o h) (by rfl) (λ_=>rfl) ?_
 rintro q6_5 h;try dsimp only at h
 cases h;exact (by rfl)
noncomputable def I1 (in0:List Bool):(Int×(List Int))->Option ((Int×(List Int)) ⊕ (List Int)):=λ(x4,x3)=>
 if x4<(↑in0.length:Int) then
 ask ((0:Int)<=x4/\x4<(↑in0.length:Int)) <|
 if (nth in0 x4.toNat)=true then
 ask ((x3).length+([x4]).length<=LIM) <|
 ask (InI (x4+(1:Int))) <|
 some (.inl (x4+(1:Int),x3++[x4]))
 else
 ask (InI (x4+(1:Int))) <|
 some (.inl (x4+(1:Int),x3))
 else
 some (.inr x3)
def Qc (in0:List Bool):(Int×(List Int))->St:=λs=>[(4,A.val (Af s.1)),(3,A.val ((slr true 1 Af) s.2)),(0,A.val ((slr false 1 V.bool) (in0)))]
def Z6 (_in0:List Bool):(List Int)->Tgt
 | s=>((Ex.exit 0),[3],[(3,A.val ((slr true 1 Af) s))])
theorem Akj {in0:List Bool} (s:(Int×(List Int))) (o:(Int×(List Int)) ⊕ (List Int)) (h:I1 in0 s=some o):vc Tryz.prog Zj (Cd [4,3,0] (Qc in0) (Z6 in0) o) (Qc in0 s):=by
 obtain ⟨x4,x3⟩:=s;unfold I1 at h;try dsimp only at h
 refine Len.map<|Br.od h (λp1 h=> ?_) (λp1 h=> ?_)
 ·refine Len.map<|Ask.o h λp2 h=>Elem.o (by first | omega | (simp [Ap] at * <;> omega))<|Br.ob h (λp3 h=> ?_) (λp3 h=> ?_)
  ·refine BslQ.o Af [x4] (by exact λ_=>⟨rfl,rfl⟩) (by first | rfl | (simp only [Aa,V.fz,fzL,V.up,upL,Ab,Ac,Ad,slr,List.cons_append,List.nil_append];done) | simp [Aa,V.fz,fzL,V.up,upL,Ab,Ac,Ad,slr])<|NoOwn.o (λ_=>rfl)<|AppQ.o (m:=1) Af (by exact λ_=>⟨rfl,rfl⟩) (x3) ([x4]) (by rfl) (by rfl) h λh=>Ask.o h λp4 h=> ?_
   cases h;exact ⟨rfl,rfl⟩
  refine Ask.o h λp5 h=> ?_
  cases h;exact ⟨rfl,rfl⟩
 cases h;exact ⟨rfl,rfl⟩
noncomputable def Mt (in0:(List Bool)):Option (List Int):=
 (Ak (I1 in0) ((0:Int),Aw Int)).bind λq6_3=>
 some q6_3
theorem Atx {in0:(List Bool)} {v:(List Int)} (h:Mt in0=some v):Ret Tryz.prog Yo [(slr false 1 V.bool) in0] ((slr true 1 Af) v):=by
 refine A4 Ass (Nat.le_of_ble_eq_true rfl) ?_;unfold Mt at h;refine BslQ.o Af (Aw Int) (by exact λ_=>⟨rfl,rfl⟩) (by first | rfl | (simp only [Aa,V.fz,fzL,V.up,upL,Ab,Ac,Ad,slr,List.cons_append,List.nil_append];done) | simp [Aa,V.fz,fzL,V.up,upL,Ab,Ac,Ad,slr])<|LoopQ.o [4,3,0] (Qc in0) (Z6 in0) h (λs o h=>Akj s o h) (by rfl) (λ_=>rfl) ?_
 rintro q6_3 h;try dsimp only at h
 cases h;exact (by rfl)
noncomputable def E7 (a0:SAlgebra):(Int×(List Int))->Option ((Int×(List Int)) ⊕ (List Int)):=λ(x10,x3)=>
 if x10<(↑a0.Ops.length:Int) then
 ask ((0:Int)<=x10/\x10<(↑a0.Ops.length:Int)) <|
 ask ((x3).length+([(nth a0.Ops x10.toNat).Arity]).length<=LIM) <|
 ask (InI (x10+(1:Int))) <|
 some (.inl (x10+(1:Int),x3++[(nth a0.Ops x10.toNat).Arity]))
 else
 some (.inr x3)
def Qp (a0:SAlgebra):(Int×(List Int))->St:=λs=>[(10,A.val (Af s.1)),(9,A.val (Af ((↑a0.Ops.length:Int)))),(8,A.val ((slr false 2 (Ay false)) (a0.Ops))),(3,A.val ((slr true 1 Af) s.2))]
def Aab (_a0:SAlgebra):(List Int)->Tgt
 | s=>((Ex.exit 0),[3],[(3,A.val ((slr true 1 Af) s))])
theorem Alz {a0:SAlgebra} (s:(Int×(List Int))) (o:(Int×(List Int)) ⊕ (List Int)) (h:E7 a0 s=some o):vc Tryz.prog Aar (Cd [10,9,8,3] (Qp a0) (Aab a0) o) (Qp a0 s):=by
 obtain ⟨x10,x3⟩:=s;unfold E7 at h;try dsimp only at h
 refine Br.od h (λp1 h=> ?_) (λp1 h=> ?_)
 ·refine Len.map<|Ask.o h λp2 h=>Elem.o (by first | omega | (simp [Ap] at * <;> omega))<|SetKids.lit rfl<|Cells.lit rfl rfl<|BslQ.o Af ([(nth a0.Ops x10.toNat).Arity]) (by exact λ_=>⟨rfl,rfl⟩) (by first | rfl | (simp only [Aa,V.fz,fzL,V.up,upL,Ab,Ac,Ad,slr,List.cons_append,List.nil_append];done) | simp [Aa,V.fz,fzL,V.up,upL,Ab,Ac,Ad,slr])<|NoOwn.o (λ_=>rfl)<|AppQ.o (m:=1) Af (by exact λ_=>⟨rfl,rfl⟩) (x3) ([(nth a0.Ops x10.toNat).Arity]) (by rfl) (by rfl) h λh=>Ask.o h λp3 h=> ?_
  cases h;exact ⟨rfl,rfl⟩
 cases h;exact ⟨rfl,rfl⟩
noncomputable def Jz (a0:SAlgebra):Option (List Int):=
 (Ak (E7 a0) ((0:Int),Aw Int)).bind λq4_3=>
 some q4_3
theorem Afg {a0:SAlgebra} {v:(List Int)} (h:Jz a0=some v):Ret Tryz.prog Ro [(Ag false) a0] ((slr true 1 Af) v):=by
 refine A4 Atc (Nat.le_of_ble_eq_true rfl) ?_;unfold Jz at h;refine BslQ.o Af (Aw Int) (by exact λ_=>⟨rfl,rfl⟩) (by first | rfl | (simp only [Aa,V.fz,fzL,V.up,upL,Ab,Ac,Ad,slr,List.cons_append,List.nil_append];done) | simp [Aa,V.fz,fzL,V.up,upL,Ab,Ac,Ad,slr])<|Cells.lit rfl rfl<|Len.map<|LoopQ.o [10,9,8,3] (Qp a0) (Aab a0) h (λs o h=>Alz s o h) (by rfl) (λ_=>rfl) ?_
 rintro q4_3 h;try dsimp only at h
 cases h;exact (by rfl)
end Go.Proofs.YtmkgjnphianalaaGreat.Ax
