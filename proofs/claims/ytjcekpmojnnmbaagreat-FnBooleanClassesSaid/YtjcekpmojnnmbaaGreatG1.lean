/-
 What the functions compute, as functions on plain data, and that the program does compute it; written by program.
-/
import Derived.Test.YtjcekpmojnnmbaaGreatCode
namespace Go.Proofs.YtjcekpmojnnmbaaGreat.Ax
open Go
set_option maxRecDepth 100000
set_option maxHeartbeats 4000000
noncomputable def Ry (code0:(List Int)):Option Bool:=
 some (decide ((↑code0.length:Int)>(65536:Int)))
theorem Aq9 {code0:(List Int)} {v:Bool} (h:Ry code0=some v):Ret Tryz.prog X1 [(slr false 1 (V.int IntKind.u8)) code0] (V.bool v):=by
 refine A5 Aql (Nat.le_of_ble_eq_true rfl) ?_
 unfold Ry at h
 conv=>whnf
 refine Len.map ?_
 conv=>whnf
 cases h;exact (by first | rfl | simp only [Ah,Aa,V.fz,fzL,V.up,upL,Ab,Ac,Ad,slr] | simp [Ah,Aa,V.fz,fzL,V.up,upL,Ab,Ac,Ad,slr])
noncomputable def Ec (a0:List Bool) (b0:List Bool):Int→Option (Int ⊕ (Unit ⊕ Unit)):=fun x5=>
 if x5<(↑a0.length:Int) then
 ask ((0:Int)≤x5∧x5<(↑a0.length:Int)) <|
 ask ((0:Int)≤x5∧x5<(↑b0.length:Int)) <|
 if (nth a0 x5.toNat==nth b0 x5.toNat)=true then
 ask (InI (x5+(1:Int))) <|
 some (.inl (x5+(1:Int)))
 else
 some (.inr (.inl ()))
 else
 some (.inr (.inr ()))
def M5 (a0:List Bool) (b0:List Bool):Int→St:=fun s=>[(5,A.val (Ae s)),(0,A.val ((slr false 1 V.bool) (a0))),(1,A.val ((slr false 1 V.bool) (b0)))]
def U1 (_a0:List Bool) (_b0:List Bool):(Unit ⊕ Unit)→Tgt
 | (.inl _s)=>(Ex.ret,[4],[(4,A.val (V.bool (false)))])
 | (.inr _s)=>((Ex.exit 0),[],[])
theorem Aeb {a0:List Bool} {b0:List Bool} (x5:Int) (o:Int ⊕ (Unit ⊕ Unit)) (h:Ec a0 b0 x5=some o):vc Tryz.prog Ur (Dc [5,0,1] (M5 a0 b0) (U1 a0 b0) o) (M5 a0 b0 x5):=by
 unfold Ec at h
 try dsimp only at h
 conv=>whnf
 refine Len.map ?_
 conv=>whnf
 refine Br.od h (fun p2 h=> ?_) (fun p2 h=> ?_)
 ·conv=>whnf
  refine Len.map ?_
  conv=>whnf
  refine Ask.o h fun p3 h=> ?_
  conv=>whnf
  refine Elem.o (by first | omega | (simp [Be] at * <;> omega)) ?_
  conv=>whnf
  refine Len.map ?_
  conv=>whnf
  refine Ask.o h fun p4 h=> ?_
  conv=>whnf
  refine Elem.o (by first | omega | (simp [Be] at * <;> omega)) ?_
  conv=>whnf
  refine Br.flip ?_
  conv=>whnf
  refine Br.ob h (fun p5 h=> ?_) (fun p5 h=> ?_)
  ·conv=>whnf
   refine Ask.o h fun p6 h=> ?_
   conv=>whnf
   cases h;exact ⟨rfl,rfl⟩
  conv=>whnf
  cases h;exact ⟨rfl,rfl⟩
 conv=>whnf
 cases h;exact ⟨rfl,rfl⟩
noncomputable def Ht (a0:(List Bool)) (b0:(List Bool)):Option Bool:=
 if (↑a0.length:Int)≠(↑b0.length:Int) then
 some false
 else
 (Ao (Ec a0 b0) (0:Int)).bind fun t=>match t with
 | (.inl _)=>(some false)
 | (.inr _)=>(some true)
theorem Aac {a0:(List Bool)} {b0:(List Bool)} {v:Bool} (h:Ht a0 b0=some v):Ret Tryz.prog Np [(slr false 1 V.bool) a0,(slr false 1 V.bool) b0] (V.bool v):=by
 refine A5 Al1 (Nat.le_of_ble_eq_true rfl) ?_
 unfold Ht at h
 conv=>whnf
 refine Len.map ?_
 conv=>whnf
 refine Len.map ?_
 conv=>whnf
 refine Br.on h (fun p1 h=> ?_) (fun p1 h=> ?_)
 ·conv=>whnf
  cases h;exact (by first | rfl | simp only [Ah,Aa,V.fz,fzL,V.up,upL,Ab,Ac,Ad,slr] | simp [Ah,Aa,V.fz,fzL,V.up,upL,Ab,Ac,Ad,slr])
 conv=>whnf
 refine LoopQ.o [5,0,1] (M5 a0 b0) (U1 a0 b0) h (fun s o h=>Aeb s o h) (by first | rfl | simp [restrict,look,Aa,V.fz,fzL,V.up,upL,Ab,Ac,Ad,slr]) (by rintro (_ | _)<;>rfl) ?_
 rintro (⟨⟩ | ⟨⟩) h
 ·try dsimp only at h
  conv=>whnf
  cases h;exact (by first | rfl | simp only [Ah,Aa,V.fz,fzL,V.up,upL,Ab,Ac,Ad,slr] | simp [Ah,Aa,V.fz,fzL,V.up,upL,Ab,Ac,Ad,slr])
 try dsimp only at h
 conv=>whnf
 cases h;exact (by first | rfl | simp only [Ah,Aa,V.fz,fzL,V.up,upL,Ab,Ac,Ad,slr] | simp [Ah,Aa,V.fz,fzL,V.up,upL,Ab,Ac,Ad,slr])
noncomputable def Nq (n0:Int):Option Bool:=
 if n0≥(1:Int) then
 some (decide (n0≤(8:Int)))
 else
 some false
theorem Ak9 {n0:Int} {v:Bool} (h:Nq n0=some v):Ret Tryz.prog S0 [Ae n0] (V.bool v):=by
 refine A5 Ak4 (Nat.le_of_ble_eq_true rfl) ?_
 unfold Nq at h
 conv=>whnf
 refine Br.od h (fun p1 h=> ?_) (fun p1 h=> ?_)
 ·conv=>whnf
  refine Br.yes ?_
  conv=>whnf
  refine Br.yes ?_
  conv=>whnf
  cases h;exact (by first | rfl | simp only [Ah,Aa,V.fz,fzL,V.up,upL,Ab,Ac,Ad,slr] | simp [Ah,Aa,V.fz,fzL,V.up,upL,Ab,Ac,Ad,slr])
 conv=>whnf
 refine Br.no ?_
 conv=>whnf
 refine Br.no ?_
 conv=>whnf
 cases h;exact (by first | rfl | simp only [Ah,Aa,V.fz,fzL,V.up,upL,Ab,Ac,Ad,slr] | simp [Ah,Aa,V.fz,fzL,V.up,upL,Ab,Ac,Ad,slr])
noncomputable def Em (c0:Sl1Cur):Option (Int×Sl1Cur):=
 ((if c0.at_<(↑c0.code.length:Int) then
 ask ((0:Int)≤c0.at_∧c0.at_<(↑c0.code.length:Int)) <|
 some (IntKind.i64.wrap (nth c0.code c0.at_.toNat))
 else
 some (0:Int):Option Int)).bind fun q3_3=>
 ask (InI (c0.at_+(1:Int))) <|
 if c0.at_+(1:Int)≤(↑c0.code.length:Int) then
 some (q3_3,{ code:=c0.code,at_:=c0.at_+(1:Int),seed:=IntKind.u64.wrap (IntKind.u64.wrap (IntKind.u64.wrap (c0.seed*(6364136223846793005:Int))+IntKind.u64.wrap q3_3)+(550289:Int)) })
 else
 some (IntKind.i64.wrap (IntKind.u64.wrap (↑(BitVec.ofInt IntKind.u64.bits ((IntKind.u64.wrap (IntKind.u64.wrap (IntKind.u64.wrap (c0.seed*(6364136223846793005:Int))+IntKind.u64.wrap q3_3)+(550289:Int))).fdiv ((2:Int)^min (Int.toNat (40:Int)) IntKind.u64.bits)) &&& BitVec.ofInt IntKind.u64.bits (255:Int)).toNat:Int)),{ code:=c0.code,at_:=c0.at_+(1:Int),seed:=IntKind.u64.wrap (IntKind.u64.wrap (IntKind.u64.wrap (c0.seed*(6364136223846793005:Int))+IntKind.u64.wrap q3_3)+(550289:Int)) })
theorem Su {c0:Sl1Cur} {v:(Int×Sl1Cur)} (h:Em c0=some v):Rc Tryz.prog Ij [(rP true (Ak false)) c0] (Ae v.1) 0 ((rP true (Ak false)) v.2):=by
 refine Y7 Acm (Nat.le_of_ble_eq_true rfl) ?_
 unfold Em at h
 conv=>whnf
 refine CutQ.o (fun t:Int=>match t with | s=>(Ex.normal,[3,0,62],[(3,A.val (Ae s)),(0,A.ref 62 []),(62,A.val ((rP true (Ak false)) (c0)))])) h ?_ ?_
 ·intro t h
  conv=>whnf
  refine Cells.lit rfl rfl ?_
  conv=>whnf
  refine Cells.lit rfl rfl ?_
  conv=>whnf
  refine Len.map ?_
  conv=>whnf
  refine Br.od h (fun p1 h=> ?_) (fun p1 h=> ?_)
  ·conv=>whnf
   refine Cells.lit rfl rfl ?_
   conv=>whnf
   refine Cells.lit rfl rfl ?_
   conv=>whnf
   refine Len.map ?_
   conv=>whnf
   refine Ask.o h fun p2 h=> ?_
   conv=>whnf
   refine Elem.o (by first | omega | (simp [Be] at * <;> omega)) ?_
   conv=>whnf
   cases h;exact ⟨rfl,rfl⟩
  conv=>whnf
  cases h;exact ⟨rfl,rfl⟩
 rintro q3_3 h
 try dsimp only at h
 conv=>whnf
 refine Cells.lit rfl rfl ?_
 conv=>whnf
 refine Ask.o h fun p4 h=> ?_
 conv=>whnf
 refine SetKids.lit rfl ?_
 conv=>whnf
 refine Cells.lit rfl rfl ?_
 conv=>whnf
 refine SetKids.lit rfl ?_
 conv=>whnf
 refine Cells.lit rfl rfl ?_
 conv=>whnf
 refine Cells.lit rfl rfl ?_
 conv=>whnf
 refine Len.map ?_
 conv=>whnf
 refine Br.od h (fun p5 h=> ?_) (fun p5 h=> ?_)
 ·conv=>whnf
  cases h;exact ⟨(by first | rfl | simp only [Ah,Aa,V.fz,fzL,V.up,upL,Ab,Ac,Ad,slr] | simp [Ah,Aa,V.fz,fzL,V.up,upL,Ab,Ac,Ad,slr]),(by first | rfl | simp only [Ah,Aa,V.fz,fzL,V.up,upL,Ab,Ac,Ad,slr] | simp [Ah,Aa,V.fz,fzL,V.up,upL,Ab,Ac,Ad,slr])⟩
 conv=>whnf
 refine Cells.lit rfl rfl ?_
 conv=>whnf
 cases h;exact ⟨(by first | rfl | simp only [Ah,Aa,V.fz,fzL,V.up,upL,Ab,Ac,Ad,slr] | simp [Ah,Aa,V.fz,fzL,V.up,upL,Ab,Ac,Ad,slr]),(by first | rfl | simp only [Ah,Aa,V.fz,fzL,V.up,upL,Ab,Ac,Ad,slr] | simp [Ah,Aa,V.fz,fzL,V.up,upL,Ab,Ac,Ad,slr])⟩
noncomputable def B9 (arity0:Int) (x0:Int):(Int×(List Int))→Option ((Int×(List Int)) ⊕ (List Int)):=fun (x11,x5)=>
 if x11<(↑arity0.toNat:Int) then
 ask ((0:Int)≤x11∧x11<(↑x5.length:Int)) <|
 ask (InI (x11+(1:Int))) <|
 some (.inl (x11+(1:Int),x5.set x11.toNat x0))
 else
 some (.inr x5)
def G5 (arity0:Int) (x0:Int):(Int×(List Int))→St:=fun s=>[(11,A.val (Ae s.1)),(10,A.val (Ae ((↑arity0.toNat:Int)))),(5,A.val ((slr true 1 Ae) s.2)),(1,A.val (Ae (x0)))]
def Lb (_arity0:Int) (_x0:Int):(List Int)→Tgt
 | s=>((Ex.exit 0),[5],[(5,A.val ((slr true 1 Ae) s))])
theorem Uv {arity0:Int} {x0:Int} (s:(Int×(List Int))) (o:(Int×(List Int)) ⊕ (List Int)) (h:B9 arity0 x0 s=some o):vc Tryz.prog Ld (Dc [11,10,5,1] (G5 arity0 x0) (Lb arity0 x0) o) (G5 arity0 x0 s):=by
 obtain ⟨x11,x5⟩:=s
 unfold B9 at h
 try dsimp only at h
 conv=>whnf
 refine Br.od h (fun p2 h=> ?_) (fun p2 h=> ?_)
 ·conv=>whnf
  refine Len.map ?_
  conv=>whnf
  refine Ask.o h fun p3 h=> ?_
  conv=>whnf
  refine SetKids.one (fun _=>⟨rfl,rfl⟩) (x0) (by first | rfl | simp only [Aa,V.fz,fzL,V.up,upL,Ab,Ac,Ad,slr,List.cons_append,List.nil_append] | simp [Aa,V.fz,fzL,V.up,upL,Ab,Ac,Ad,slr]) (by first | omega | (simp [Be] at * <;> omega)) ?_
  conv=>whnf
  refine Ask.o h fun p4 h=> ?_
  conv=>whnf
  cases h;exact ⟨rfl,rfl⟩
 conv=>whnf
 cases h;exact ⟨rfl,rfl⟩
noncomputable def Dl (arity0:Int) (x0:Int):Option (List Int):=
 ask ((0:Int)≤arity0∧arity0≤(↑LIM:Int)) <|
 (Ao (B9 arity0 x0) ((0:Int),List.replicate arity0.toNat (0:Int))).bind fun q5_5=>
 some q5_5
theorem Yg {arity0:Int} {x0:Int} {v:(List Int)} (h:Dl arity0 x0=some v):Ret Tryz.prog Iz [Ae arity0,Ae x0] ((slr true 1 Ae) v):=by
 refine A5 Xx (Nat.le_of_ble_eq_true rfl) ?_
 unfold Dl at h
 conv=>whnf
 refine Ask.o h fun p1 h=> ?_
 conv=>whnf
 refine MkQ.o Ae ((0:Int)) rfl ?_
 conv=>whnf
 refine Len.mrep ?_
 conv=>whnf
 refine LoopQ.o [11,10,5,1] (G5 arity0 x0) (Lb arity0 x0) h (fun s o h=>Uv s o h) (by first | rfl | simp [restrict,look,Aa,V.fz,fzL,V.up,upL,Ab,Ac,Ad,slr]) (fun _=>rfl) ?_
 rintro q5_5 h
 try dsimp only at h
 conv=>whnf
 cases h;exact (by first | rfl | simp only [Ah,Aa,V.fz,fzL,V.up,upL,Ab,Ac,Ad,slr] | simp [Ah,Aa,V.fz,fzL,V.up,upL,Ab,Ac,Ad,slr])
noncomputable def Jk (list0:(List Int)):Option (List Int):=
 ask ((Au Int).length+(list0).length≤LIM) <|
 some (Au Int++list0)
theorem Adn {list0:(List Int)} {v:(List Int)} (h:Jk list0=some v):Ret Tryz.prog Pk [(slr false 1 Ae) list0] ((slr true 1 Ae) v):=by
 refine A5 Aox (Nat.le_of_ble_eq_true rfl) ?_
 unfold Jk at h
 conv=>whnf
 refine BslQ.o Ae (Au Int) (by exact fun _=>⟨rfl,rfl⟩) (by first | rfl | (simp only [Aa,V.fz,fzL,V.up,upL,Ab,Ac,Ad,slr,List.cons_append,List.nil_append];done) | simp [Aa,V.fz,fzL,V.up,upL,Ab,Ac,Ad,slr]) ?_
 conv=>whnf
 refine AppQ.o (m:=1) Ae (by exact fun _=>⟨rfl,rfl⟩) (Au Int) (list0) (by first | rfl | simp only [Aa,V.fz,fzL,V.up,upL,Ab,Ac,Ad,slr,List.cons_append,List.nil_append] | simp [Aa,V.fz,fzL,V.up,upL,Ab,Ac,Ad,slr]) (by first | rfl | simp only [Aa,V.fz,fzL,V.up,upL,Ab,Ac,Ad,slr,List.cons_append,List.nil_append] | simp [Aa,V.fz,fzL,V.up,upL,Ab,Ac,Ad,slr]) h fun h=> ?_
 conv=>whnf
 cases h;exact (by first | rfl | simp only [Ah,Aa,V.fz,fzL,V.up,upL,Ab,Ac,Ad,slr] | simp [Ah,Aa,V.fz,fzL,V.up,upL,Ab,Ac,Ad,slr])
noncomputable def E7 (net0:SNetwork) (list0:(List SConstraint)):Option (SNetwork×Bool):=
 if (↑list0.length:Int)>(40:Int) then
 some ({ Vars:=(0:Int),Size:=(0:Int),Constraints:=Au SConstraint },false)
 else
 some ({ Vars:=net0.Vars,Size:=net0.Size,Constraints:=list0 },true)
theorem Vy {net0:SNetwork} {list0:(List SConstraint)} {v:(SNetwork×Bool)} (h:E7 net0 list0=some v):Ret Tryz.prog Hk [(Aj false) net0,(slr false 3 (Ap false)) list0] ((fun r=>V.tup [(Aj false) r.1,V.bool r.2]) v):=by
 refine Uw Vh (Nat.le_of_ble_eq_true rfl) ?_
 unfold E7 at h
 conv=>whnf
 refine Len.map ?_
 conv=>whnf
 refine Br.od h (fun p1 h=> ?_) (fun p1 h=> ?_)
 ·conv=>whnf
  refine SetKids.lit rfl ?_
  conv=>whnf
  cases h;exact (by first | rfl | simp only [Ah,Aa,V.fz,fzL,V.up,upL,Ab,Ac,Ad,slr] | simp [Ah,Aa,V.fz,fzL,V.up,upL,Ab,Ac,Ad,slr])
 conv=>whnf
 refine Cells.lit rfl rfl ?_
 conv=>whnf
 refine Cells.lit rfl rfl ?_
 conv=>whnf
 refine SetKids.lit rfl ?_
 conv=>whnf
 cases h;exact (by first | rfl | simp only [Ah,Aa,V.fz,fzL,V.up,upL,Ab,Ac,Ad,slr] | simp [Ah,Aa,V.fz,fzL,V.up,upL,Ab,Ac,Ad,slr])
noncomputable def Cg (n0:Int):(Int×Int)→Option ((Int×Int) ⊕ Int):=fun (x5,x1)=>
 if x1>(0:Int) then
 ask (InI (x5*n0)) <|
 ask (InI (x1-(1:Int))) <|
 some (.inl (x5*n0,x1-(1:Int)))
 else
 some (.inr x5)
def Ow (n0:Int):(Int×Int)→St:=fun s=>[(5,A.val (Ae s.1)),(0,A.val (Ae (n0))),(1,A.val (Ae s.2))]
def Wj (_n0:Int):Int→Tgt
 | s=>((Ex.exit 0),[5],[(5,A.val (Ae s))])
theorem Agp {n0:Int} (s:(Int×Int)) (o:(Int×Int) ⊕ Int) (h:Cg n0 s=some o):vc Tryz.prog Wo (Dc [5,0,1] (Ow n0) (Wj n0) o) (Ow n0 s):=by
 obtain ⟨x5,x1⟩:=s
 unfold Cg at h
 try dsimp only at h
 conv=>whnf
 refine Br.od h (fun p1 h=> ?_) (fun p1 h=> ?_)
 ·conv=>whnf
  refine Ask.o h fun p2 h=> ?_
  conv=>whnf
  refine Ask.o h fun p3 h=> ?_
  conv=>whnf
  cases h;exact ⟨rfl,rfl⟩
 conv=>whnf
 cases h;exact ⟨rfl,rfl⟩
noncomputable def Ek (n0:Int) (k0:Int):Option Int:=
 (Ao (Cg n0) ((1:Int),k0)).bind fun q4_5=>
 some q4_5
theorem V3 {n0:Int} {k0:Int} {v:Int} (h:Ek n0 k0=some v):Ret Tryz.prog Me [Ae n0,Ae k0] (Ae v):=by
 refine A5 Aos (Nat.le_of_ble_eq_true rfl) ?_
 unfold Ek at h
 conv=>whnf
 refine LoopQ.o [5,0,1] (Ow n0) (Wj n0) h (fun s o h=>Agp s o h) (by first | rfl | simp [restrict,look,Aa,V.fz,fzL,V.up,upL,Ab,Ac,Ad,slr]) (fun _=>rfl) ?_
 rintro q4_5 h
 try dsimp only at h
 conv=>whnf
 cases h;exact (by first | rfl | simp only [Ah,Aa,V.fz,fzL,V.up,upL,Ab,Ac,Ad,slr] | simp [Ah,Aa,V.fz,fzL,V.up,upL,Ab,Ac,Ad,slr])
noncomputable def E2 (list0:List Int):(Int×(List Int))→Option ((Int×(List Int)) ⊕ (List Int)):=fun (x12,x3)=>
 if x12<(↑list0.length:Int) then
 ask ((0:Int)≤x12∧x12<(↑list0.length:Int)) <|
 ask ((x3).length+([IntKind.u8.wrap ((nth list0 x12.toNat).fdiv ((2:Int)^min (Int.toNat (8:Int)) IntKind.i64.bits)),IntKind.u8.wrap (nth list0 x12.toNat)]).length≤LIM) <|
 ask (InI (x12+(1:Int))) <|
 some (.inl (x12+(1:Int),x3++[IntKind.u8.wrap ((nth list0 x12.toNat).fdiv ((2:Int)^min (Int.toNat (8:Int)) IntKind.i64.bits)),IntKind.u8.wrap (nth list0 x12.toNat)]))
 else
 some (.inr x3)
def Oi (list0:List Int):(Int×(List Int))→St:=fun s=>[(12,A.val (Ae s.1)),(11,A.val (Ae ((↑list0.length:Int)))),(10,A.val ((slr false 1 Ae) (list0))),(3,A.val ((slr true 1 (V.int IntKind.u8)) s.2))]
def Wm (_list0:List Int):(List Int)→Tgt
 | s=>((Ex.exit 0),[3],[(3,A.val ((slr true 1 (V.int IntKind.u8)) s))])
theorem Agu {list0:List Int} (s:(Int×(List Int))) (o:(Int×(List Int)) ⊕ (List Int)) (h:E2 list0 s=some o):vc Tryz.prog Wn (Dc [12,11,10,3] (Oi list0) (Wm list0) o) (Oi list0 s):=by
 obtain ⟨x12,x3⟩:=s
 unfold E2 at h
 try dsimp only at h
 conv=>whnf
 refine Br.od h (fun p3 h=> ?_) (fun p3 h=> ?_)
 ·conv=>whnf
  refine Len.map ?_
  conv=>whnf
  refine Ask.o h fun p4 h=> ?_
  conv=>whnf
  refine Elem.o (by first | omega | (simp [Be] at * <;> omega)) ?_
  conv=>whnf
  refine BslQ.o (V.int IntKind.u8) ([IntKind.u8.wrap ((nth list0 x12.toNat).fdiv ((2:Int)^min (Int.toNat (8:Int)) IntKind.i64.bits)),IntKind.u8.wrap (nth list0 x12.toNat)]) (by exact fun _=>⟨rfl,rfl⟩) (by first | rfl | (simp only [Aa,V.fz,fzL,V.up,upL,Ab,Ac,Ad,slr,List.cons_append,List.nil_append];done) | simp [Aa,V.fz,fzL,V.up,upL,Ab,Ac,Ad,slr]) ?_
  conv=>whnf
  refine NoOwn.o (fun _=>rfl) ?_
  conv=>whnf
  refine AppQ.o (m:=1) (V.int IntKind.u8) (by exact fun _=>⟨rfl,rfl⟩) (x3) ([IntKind.u8.wrap ((nth list0 x12.toNat).fdiv ((2:Int)^min (Int.toNat (8:Int)) IntKind.i64.bits)),IntKind.u8.wrap (nth list0 x12.toNat)]) (by first | rfl | simp only [Aa,V.fz,fzL,V.up,upL,Ab,Ac,Ad,slr,List.cons_append,List.nil_append] | simp [Aa,V.fz,fzL,V.up,upL,Ab,Ac,Ad,slr]) (by first | rfl | simp only [Aa,V.fz,fzL,V.up,upL,Ab,Ac,Ad,slr,List.cons_append,List.nil_append] | simp [Aa,V.fz,fzL,V.up,upL,Ab,Ac,Ad,slr]) h fun h=> ?_
  conv=>whnf
  refine Ask.o h fun p5 h=> ?_
  conv=>whnf
  cases h;exact ⟨rfl,rfl⟩
 conv=>whnf
 cases h;exact ⟨rfl,rfl⟩
noncomputable def Je (list0:(List Int)):Option ByteArray:=
 ask (InI ((2:Int)*(↑list0.length:Int))) <|
 ask ((0:Int)≤(2:Int)*(↑list0.length:Int)∧(2:Int)*(↑list0.length:Int)≤(↑LIM:Int)) <|
 (Ao (E2 list0) ((0:Int),Au Int)).bind fun q6_3=>
 some (Wq q6_3)
theorem Acv {list0:(List Int)} {v:ByteArray} (h:Je list0=some v):Ret Tryz.prog Pn [(slr false 1 Ae) list0] (V.str v):=by
 refine A5 Aph (Nat.le_of_ble_eq_true rfl) ?_
 unfold Je at h
 conv=>whnf
 refine Len.map ?_
 conv=>whnf
 refine Ask.o h fun p1 h=> ?_
 conv=>whnf
 refine Ask.o h fun p2 h=> ?_
 conv=>whnf
 refine Len.map ?_
 conv=>whnf
 refine LoopQ.o [12,11,10,3] (Oi list0) (Wm list0) h (fun s o h=>Agu s o h) (by first | rfl | simp [restrict,look,Aa,V.fz,fzL,V.up,upL,Ab,Ac,Ad,slr]) (fun _=>rfl) ?_
 rintro q6_3 h
 try dsimp only at h
 conv=>whnf
 refine BsQ.o q6_3 (by first | rfl | simp only [Aa,V.fz,fzL,V.up,upL,Ab,Ac,Ad,slr,List.cons_append,List.nil_append] | simp [Aa,V.fz,fzL,V.up,upL,Ab,Ac,Ad,slr]) ?_
 conv=>whnf
 cases h;exact (by first | rfl | simp only [Ah,Aa,V.fz,fzL,V.up,upL,Ab,Ac,Ad,slr] | simp [Ah,Aa,V.fz,fzL,V.up,upL,Ab,Ac,Ad,slr])
noncomputable def Ef (a0:List Int) (b0:List Int):Int→Option (Int ⊕ (Unit ⊕ Unit)):=fun x5=>
 if x5<(↑a0.length:Int) then
 ask ((0:Int)≤x5∧x5<(↑a0.length:Int)) <|
 ask ((0:Int)≤x5∧x5<(↑b0.length:Int)) <|
 if nth a0 x5.toNat≠nth b0 x5.toNat then
 some (.inr (.inl ()))
 else
 ask (InI (x5+(1:Int))) <|
 some (.inl (x5+(1:Int)))
 else
 some (.inr (.inr ()))
def Mt (a0:List Int) (b0:List Int):Int→St:=fun s=>[(5,A.val (Ae s)),(0,A.val ((slr false 1 Ae) (a0))),(1,A.val ((slr false 1 Ae) (b0)))]
def U6 (_a0:List Int) (_b0:List Int):(Unit ⊕ Unit)→Tgt
 | (.inl _s)=>(Ex.ret,[4],[(4,A.val (V.bool (false)))])
 | (.inr _s)=>((Ex.exit 0),[],[])
theorem Ae1 {a0:List Int} {b0:List Int} (x5:Int) (o:Int ⊕ (Unit ⊕ Unit)) (h:Ef a0 b0 x5=some o):vc Tryz.prog Tt (Dc [5,0,1] (Mt a0 b0) (U6 a0 b0) o) (Mt a0 b0 x5):=by
 unfold Ef at h
 try dsimp only at h
 conv=>whnf
 refine Len.map ?_
 conv=>whnf
 refine Br.od h (fun p2 h=> ?_) (fun p2 h=> ?_)
 ·conv=>whnf
  refine Len.map ?_
  conv=>whnf
  refine Ask.o h fun p3 h=> ?_
  conv=>whnf
  refine Elem.o (by first | omega | (simp [Be] at * <;> omega)) ?_
  conv=>whnf
  refine Len.map ?_
  conv=>whnf
  refine Ask.o h fun p4 h=> ?_
  conv=>whnf
  refine Elem.o (by first | omega | (simp [Be] at * <;> omega)) ?_
  conv=>whnf
  refine Br.on h (fun p5 h=> ?_) (fun p5 h=> ?_)
  ·conv=>whnf
   cases h;exact ⟨rfl,rfl⟩
  conv=>whnf
  refine Ask.o h fun p6 h=> ?_
  conv=>whnf
  cases h;exact ⟨rfl,rfl⟩
 conv=>whnf
 cases h;exact ⟨rfl,rfl⟩
noncomputable def J5 (a0:(List Int)) (b0:(List Int)):Option Bool:=
 if (↑a0.length:Int)≠(↑b0.length:Int) then
 some false
 else
 (Ao (Ef a0 b0) (0:Int)).bind fun t=>match t with
 | (.inl _)=>(some false)
 | (.inr _)=>(some true)
theorem Aln {a0:(List Int)} {b0:(List Int)} {v:Bool} (h:J5 a0 b0=some v):Ret Tryz.prog S8 [(slr false 1 Ae) a0,(slr false 1 Ae) b0] (V.bool v):=by
 refine A5 Ame (Nat.le_of_ble_eq_true rfl) ?_
 unfold J5 at h
 conv=>whnf
 refine Len.map ?_
 conv=>whnf
 refine Len.map ?_
 conv=>whnf
 refine Br.on h (fun p1 h=> ?_) (fun p1 h=> ?_)
 ·conv=>whnf
  cases h;exact (by first | rfl | simp only [Ah,Aa,V.fz,fzL,V.up,upL,Ab,Ac,Ad,slr] | simp [Ah,Aa,V.fz,fzL,V.up,upL,Ab,Ac,Ad,slr])
 conv=>whnf
 refine LoopQ.o [5,0,1] (Mt a0 b0) (U6 a0 b0) h (fun s o h=>Ae1 s o h) (by first | rfl | simp [restrict,look,Aa,V.fz,fzL,V.up,upL,Ab,Ac,Ad,slr]) (by rintro (_ | _)<;>rfl) ?_
 rintro (⟨⟩ | ⟨⟩) h
 ·try dsimp only at h
  conv=>whnf
  cases h;exact (by first | rfl | simp only [Ah,Aa,V.fz,fzL,V.up,upL,Ab,Ac,Ad,slr] | simp [Ah,Aa,V.fz,fzL,V.up,upL,Ab,Ac,Ad,slr])
 try dsimp only at h
 conv=>whnf
 cases h;exact (by first | rfl | simp only [Ah,Aa,V.fz,fzL,V.up,upL,Ab,Ac,Ad,slr] | simp [Ah,Aa,V.fz,fzL,V.up,upL,Ab,Ac,Ad,slr])
noncomputable def Cn (vars0:Int) (value0:Int):(Int×(List Int))→Option ((Int×(List Int)) ⊕ (List Int)):=fun (x6,x5)=>
 if x6<vars0 then
 ask ((x5).length+([value0]).length≤LIM) <|
 ask (InI (x6+(1:Int))) <|
 some (.inl (x6+(1:Int),x5++[value0]))
 else
 some (.inr x5)
def H7 (vars0:Int) (value0:Int):(Int×(List Int))→St:=fun s=>[(6,A.val (Ae s.1)),(5,A.val ((slr true 1 Ae) s.2)),(0,A.val (Ae (vars0))),(1,A.val (Ae (value0)))]
def Ml (_vars0:Int) (_value0:Int):(List Int)→Tgt
 | s=>((Ex.exit 0),[5],[(5,A.val ((slr true 1 Ae) s))])
theorem W7 {vars0:Int} {value0:Int} (s:(Int×(List Int))) (o:(Int×(List Int)) ⊕ (List Int)) (h:Cn vars0 value0 s=some o):vc Tryz.prog Mm (Dc [6,5,0,1] (H7 vars0 value0) (Ml vars0 value0) o) (H7 vars0 value0 s):=by
 obtain ⟨x6,x5⟩:=s
 unfold Cn at h
 try dsimp only at h
 conv=>whnf
 refine Br.od h (fun p1 h=> ?_) (fun p1 h=> ?_)
 ·conv=>whnf
  refine BslQ.o Ae [value0] (by exact fun _=>⟨rfl,rfl⟩) (by first | rfl | (simp only [Aa,V.fz,fzL,V.up,upL,Ab,Ac,Ad,slr,List.cons_append,List.nil_append];done) | simp [Aa,V.fz,fzL,V.up,upL,Ab,Ac,Ad,slr]) ?_
  conv=>whnf
  refine NoOwn.o (fun _=>rfl) ?_
  conv=>whnf
  refine AppQ.o (m:=1) Ae (by exact fun _=>⟨rfl,rfl⟩) (x5) ([value0]) (by first | rfl | simp only [Aa,V.fz,fzL,V.up,upL,Ab,Ac,Ad,slr,List.cons_append,List.nil_append] | simp [Aa,V.fz,fzL,V.up,upL,Ab,Ac,Ad,slr]) (by first | rfl | simp only [Aa,V.fz,fzL,V.up,upL,Ab,Ac,Ad,slr,List.cons_append,List.nil_append] | simp [Aa,V.fz,fzL,V.up,upL,Ab,Ac,Ad,slr]) h fun h=> ?_
  conv=>whnf
  refine Ask.o h fun p2 h=> ?_
  conv=>whnf
  cases h;exact ⟨rfl,rfl⟩
 conv=>whnf
 cases h;exact ⟨rfl,rfl⟩
noncomputable def Fk (vars0:Int) (value0:Int):Option (List Int):=
 (Ao (Cn vars0 value0) ((0:Int),Au Int)).bind fun q3_5=>
 some q3_5
theorem Aao {vars0:Int} {value0:Int} {v:(List Int)} (h:Fk vars0 value0=some v):Ret Tryz.prog Kz [Ae vars0,Ae value0] ((slr true 1 Ae) v):=by
 refine A5 Abb (Nat.le_of_ble_eq_true rfl) ?_
 unfold Fk at h
 conv=>whnf
 refine BslQ.o Ae (Au Int) (by exact fun _=>⟨rfl,rfl⟩) (by first | rfl | (simp only [Aa,V.fz,fzL,V.up,upL,Ab,Ac,Ad,slr,List.cons_append,List.nil_append];done) | simp [Aa,V.fz,fzL,V.up,upL,Ab,Ac,Ad,slr]) ?_
 conv=>whnf
 refine LoopQ.o [6,5,0,1] (H7 vars0 value0) (Ml vars0 value0) h (fun s o h=>W7 s o h) (by first | rfl | simp [restrict,look,Aa,V.fz,fzL,V.up,upL,Ab,Ac,Ad,slr]) (fun _=>rfl) ?_
 rintro q3_5 h
 try dsimp only at h
 conv=>whnf
 cases h;exact (by first | rfl | simp only [Ah,Aa,V.fz,fzL,V.up,upL,Ab,Ac,Ad,slr] | simp [Ah,Aa,V.fz,fzL,V.up,upL,Ab,Ac,Ad,slr])
noncomputable def Gh:Option (List SOp):=
 some ([{ Arity:=(2:Int),Table:=[(0:Int),(0:Int),(0:Int),(1:Int)] },{ Arity:=(2:Int),Table:=[(0:Int),(1:Int),(1:Int),(1:Int)] },{ Arity:=(3:Int),Table:=[(0:Int),(1:Int),(1:Int),(0:Int),(1:Int),(0:Int),(0:Int),(1:Int)] },{ Arity:=(3:Int),Table:=[(0:Int),(0:Int),(0:Int),(1:Int),(0:Int),(1:Int),(1:Int),(1:Int)] }])
theorem Z2 {v:(List SOp)} (h:Gh=some v):Ret Tryz.prog Ni [] ((slr true 2 (Co true)) v):=by
 refine A5 Akw (Nat.le_of_ble_eq_true rfl) ?_
 unfold Gh at h
 conv=>whnf
 refine BslQ.o Ae ([(0:Int),(0:Int),(0:Int),(1:Int)]) (by exact fun _=>⟨rfl,rfl⟩) (by first | rfl | (simp only [Aa,V.fz,fzL,V.up,upL,Ab,Ac,Ad,slr,List.cons_append,List.nil_append];done) | simp [Aa,V.fz,fzL,V.up,upL,Ab,Ac,Ad,slr]) ?_
 conv=>whnf
 refine BslQ.o Ae ([(0:Int),(1:Int),(1:Int),(1:Int)]) (by exact fun _=>⟨rfl,rfl⟩) (by first | rfl | (simp only [Aa,V.fz,fzL,V.up,upL,Ab,Ac,Ad,slr,List.cons_append,List.nil_append];done) | simp [Aa,V.fz,fzL,V.up,upL,Ab,Ac,Ad,slr]) ?_
 conv=>whnf
 refine BslQ.o Ae ([(0:Int),(1:Int),(1:Int),(0:Int),(1:Int),(0:Int),(0:Int),(1:Int)]) (by exact fun _=>⟨rfl,rfl⟩) (by first | rfl | (simp only [Aa,V.fz,fzL,V.up,upL,Ab,Ac,Ad,slr,List.cons_append,List.nil_append];done) | simp [Aa,V.fz,fzL,V.up,upL,Ab,Ac,Ad,slr]) ?_
 conv=>whnf
 refine BslQ.o Ae ([(0:Int),(0:Int),(0:Int),(1:Int),(0:Int),(1:Int),(1:Int),(1:Int)]) (by exact fun _=>⟨rfl,rfl⟩) (by first | rfl | (simp only [Aa,V.fz,fzL,V.up,upL,Ab,Ac,Ad,slr,List.cons_append,List.nil_append];done) | simp [Aa,V.fz,fzL,V.up,upL,Ab,Ac,Ad,slr]) ?_
 conv=>whnf
 refine BslQ.o (Co true) ([{ Arity:=(2:Int),Table:=[(0:Int),(0:Int),(0:Int),(1:Int)] },{ Arity:=(2:Int),Table:=[(0:Int),(1:Int),(1:Int),(1:Int)] },{ Arity:=(3:Int),Table:=[(0:Int),(1:Int),(1:Int),(0:Int),(1:Int),(0:Int),(0:Int),(1:Int)] },{ Arity:=(3:Int),Table:=[(0:Int),(0:Int),(0:Int),(1:Int),(0:Int),(1:Int),(1:Int),(1:Int)] }]) (by exact fun _=>⟨rfl,rfl⟩) (by first | rfl | (simp only [Aa,V.fz,fzL,V.up,upL,Ab,Ac,Ad,slr,List.cons_append,List.nil_append];done) | simp [Aa,V.fz,fzL,V.up,upL,Ab,Ac,Ad,slr]) ?_
 conv=>whnf
 cases h;exact (by first | rfl | simp only [Ah,Aa,V.fz,fzL,V.up,upL,Ab,Ac,Ad,slr] | simp [Ah,Aa,V.fz,fzL,V.up,upL,Ab,Ac,Ad,slr])
noncomputable def Fr (n0:Int):Option Bool:=
 if n0≥(1:Int) then
 some (decide (n0≤(4:Int)))
 else
 some false
theorem Xa {n0:Int} {v:Bool} (h:Fr n0=some v):Ret Tryz.prog H4 [Ae n0] (V.bool v):=by
 refine A5 Xh (Nat.le_of_ble_eq_true rfl) ?_
 unfold Fr at h
 conv=>whnf
 refine Br.od h (fun p1 h=> ?_) (fun p1 h=> ?_)
 ·conv=>whnf
  refine Br.yes ?_
  conv=>whnf
  refine Br.yes ?_
  conv=>whnf
  cases h;exact (by first | rfl | simp only [Ah,Aa,V.fz,fzL,V.up,upL,Ab,Ac,Ad,slr] | simp [Ah,Aa,V.fz,fzL,V.up,upL,Ab,Ac,Ad,slr])
 conv=>whnf
 refine Br.no ?_
 conv=>whnf
 refine Br.no ?_
 conv=>whnf
 cases h;exact (by first | rfl | simp only [Ah,Aa,V.fz,fzL,V.up,upL,Ab,Ac,Ad,slr] | simp [Ah,Aa,V.fz,fzL,V.up,upL,Ab,Ac,Ad,slr])
noncomputable def Df (a0:List Int) (b0:List Int):Int→Option (Int ⊕ (Unit ⊕ Unit)):=fun x14=>
 if x14<(↑a0.length:Int) then
 ask ((0:Int)≤x14∧x14<(↑a0.length:Int)) <|
 ask ((0:Int)≤x14∧x14<(↑b0.length:Int)) <|
 if nth b0 x14.toNat≠nth a0 x14.toNat then
 some (.inr (.inl ()))
 else
 ask (InI (x14+(1:Int))) <|
 some (.inl (x14+(1:Int)))
 else
 some (.inr (.inr ()))
def Kv (a0:List Int) (b0:List Int):Int→St:=fun s=>[(14,A.val (Ae s)),(13,A.val (Ae ((↑a0.length:Int)))),(12,A.val ((slr false 1 Ae) (a0))),(1,A.val ((slr false 1 Ae) (b0)))]
def Qx (_a0:List Int) (_b0:List Int):(Unit ⊕ Unit)→Tgt
 | (.inl _s)=>(Ex.ret,[4],[(4,A.val (V.bool (false)))])
 | (.inr _s)=>((Ex.exit 0),[],[])
theorem Abe {a0:List Int} {b0:List Int} (x14:Int) (o:Int ⊕ (Unit ⊕ Unit)) (h:Df a0 b0 x14=some o):vc Tryz.prog Qu (Dc [14,13,12,1] (Kv a0 b0) (Qx a0 b0) o) (Kv a0 b0 x14):=by
 unfold Df at h
 try dsimp only at h
 conv=>whnf
 refine Br.od h (fun p2 h=> ?_) (fun p2 h=> ?_)
 ·conv=>whnf
  refine Len.map ?_
  conv=>whnf
  refine Ask.o h fun p3 h=> ?_
  conv=>whnf
  refine Elem.o (by first | omega | (simp [Be] at * <;> omega)) ?_
  conv=>whnf
  refine Len.map ?_
  conv=>whnf
  refine Ask.o h fun p4 h=> ?_
  conv=>whnf
  refine Elem.o (by first | omega | (simp [Be] at * <;> omega)) ?_
  conv=>whnf
  refine Br.on h (fun p5 h=> ?_) (fun p5 h=> ?_)
  ·conv=>whnf
   cases h;exact ⟨rfl,rfl⟩
  conv=>whnf
  refine Ask.o h fun p6 h=> ?_
  conv=>whnf
  cases h;exact ⟨rfl,rfl⟩
 conv=>whnf
 cases h;exact ⟨rfl,rfl⟩
noncomputable def Fy (a0:(List Int)) (b0:(List Int)):Option Bool:=
 if (↑a0.length:Int)≠(↑b0.length:Int) then
 some false
 else
 (Ao (Df a0 b0) (0:Int)).bind fun t=>match t with
 | (.inl _)=>(some false)
 | (.inr _)=>(some true)
theorem Wi {a0:(List Int)} {b0:(List Int)} {v:Bool} (h:Fy a0 b0=some v):Ret Tryz.prog Kt [(slr false 1 Ae) a0,(slr false 1 Ae) b0] (V.bool v):=by
 refine A5 Agt (Nat.le_of_ble_eq_true rfl) ?_
 unfold Fy at h
 conv=>whnf
 refine Len.map ?_
 conv=>whnf
 refine Len.map ?_
 conv=>whnf
 refine Br.on h (fun p1 h=> ?_) (fun p1 h=> ?_)
 ·conv=>whnf
  cases h;exact (by first | rfl | simp only [Ah,Aa,V.fz,fzL,V.up,upL,Ab,Ac,Ad,slr] | simp [Ah,Aa,V.fz,fzL,V.up,upL,Ab,Ac,Ad,slr])
 conv=>whnf
 refine Len.map ?_
 conv=>whnf
 refine LoopQ.o [14,13,12,1] (Kv a0 b0) (Qx a0 b0) h (fun s o h=>Abe s o h) (by first | rfl | simp [restrict,look,Aa,V.fz,fzL,V.up,upL,Ab,Ac,Ad,slr]) (by rintro (_ | _)<;>rfl) ?_
 rintro (⟨⟩ | ⟨⟩) h
 ·try dsimp only at h
  conv=>whnf
  cases h;exact (by first | rfl | simp only [Ah,Aa,V.fz,fzL,V.up,upL,Ab,Ac,Ad,slr] | simp [Ah,Aa,V.fz,fzL,V.up,upL,Ab,Ac,Ad,slr])
 try dsimp only at h
 conv=>whnf
 cases h;exact (by first | rfl | simp only [Ah,Aa,V.fz,fzL,V.up,upL,Ab,Ac,Ad,slr] | simp [Ah,Aa,V.fz,fzL,V.up,upL,Ab,Ac,Ad,slr])
noncomputable def Dy (n0:Int) (value0:Int→Int→Int→Option Int):(Int×SOp)→Option ((Int×SOp) ⊕ SOp):=fun (x6,x5)=>
 ask (InI (n0*n0)) <|
 ask (InI (n0*n0*n0)) <|
 if x6<n0*n0*n0 then
 ask (n0≠(0:Int)∧InI (x6.tdiv n0)) <|
 ask (n0≠(0:Int)∧InI ((x6.tdiv n0).tdiv n0)) <|
 ask (n0≠(0:Int)∧InI (x6.tdiv n0)) <|
 ask (n0≠(0:Int)) <|
 ask (n0≠(0:Int)) <|
 (value0 ((x6.tdiv n0).tdiv n0) ((x6.tdiv n0).tmod n0) (x6.tmod n0)).bind fun r9=>
 ask ((x5.Table).length+([r9]).length≤LIM) <|
 ask (InI (x6+(1:Int))) <|
 some (.inl (x6+(1:Int),{ Arity:=x5.Arity,Table:=x5.Table++[r9] }))
 else
 some (.inr x5)
def Lv (n0:Int) (f_value0:Nat) (c_value0:List V):(Int×SOp)→St:=fun s=>[(6,A.val (Ae s.1)),(5,A.val ((rP true (Co true)) s.2)),(4,A.val ((rP true (Co true)) ({ Arity:=(0:Int),Table:=Au Int }))),(0,A.val (Ae (n0))),(1,A.val (V.fclo f_value0 c_value0))]
def Sj (_n0:Int) (_f_value0:Nat) (_c_value0:List V):SOp→Tgt
 | s=>((Ex.exit 0),[5,4],[(5,A.val ((rP true (Co true)) s)),(4,A.val ((rP true (Co true)) ({ Arity:=(0:Int),Table:=Au Int })))])
theorem Ab6 {n0:Int} {value0:Int→Int→Int→Option Int} {f_value0:Nat} {c_value0:List V} (h_value0 : ∀w_0 w_1 w_2 v,value0 w_0 w_1 w_2=some v→Ret Tryz.prog f_value0 ([Ae w_0,Ae w_1,Ae w_2]++fzL c_value0) (Ae v)) (s:(Int×SOp)) (o:(Int×SOp) ⊕ SOp) (h:Dy n0 value0 s=some o):vc Tryz.prog Sr (Dc [6,5,4,0,1] (Lv n0 f_value0 c_value0) (Sj n0 f_value0 c_value0) o) (Lv n0 f_value0 c_value0 s):=by
 obtain ⟨x6,x5⟩:=s
 unfold Dy at h
 try dsimp only at h
 conv=>whnf
 refine Ask.o h fun p1 h=> ?_
 conv=>whnf
 refine Ask.o h fun p2 h=> ?_
 conv=>whnf
 refine Br.od h (fun p3 h=> ?_) (fun p3 h=> ?_)
 ·conv=>whnf
  refine Cells.lit rfl rfl ?_
  conv=>whnf
  refine Ask.o h fun p4 h=> ?_
  conv=>whnf
  refine Ask.o h fun p5 h=> ?_
  conv=>whnf
  refine Ask.o h fun p6 h=> ?_
  conv=>whnf
  refine Ask.o h fun p7 h=> ?_
  conv=>whnf
  refine Ask.o h fun p8 h=> ?_
  conv=>whnf
  refine CloP.o Ae (by first | rfl | simp only [Aa,V.fz,fzL,V.up,upL,Ab,Ac,Ad,slr,List.cons_append,List.nil_append] | simp [Aa,V.fz,fzL,V.up,upL,Ab,Ac,Ad,slr]) (fun _=>by first | rfl | simp [D0,V.noFz,Cb,Cd,NoFz.eq]) h (fun r h=>h_value0 _ _ _ _ h) (fun r9 h=> ?_)
  conv=>whnf
  refine BslQ.o Ae [r9] (by exact fun _=>⟨rfl,rfl⟩) (by first | rfl | (simp only [Aa,V.fz,fzL,V.up,upL,Ab,Ac,Ad,slr,List.cons_append,List.nil_append];done) | simp [Aa,V.fz,fzL,V.up,upL,Ab,Ac,Ad,slr]) ?_
  conv=>whnf
  refine NoOwn.o (fun _=>rfl) ?_
  conv=>whnf
  refine Kid.lit rfl rfl ?_
  conv=>whnf
  refine Kid.lit rfl rfl ?_
  conv=>whnf
  refine SetKids.lit rfl ?_
  conv=>whnf
  refine AppQ.o (m:=1) Ae (by exact fun _=>⟨rfl,rfl⟩) (x5.Table) ([r9]) (by first | rfl | simp only [Aa,V.fz,fzL,V.up,upL,Ab,Ac,Ad,slr,List.cons_append,List.nil_append] | simp [Aa,V.fz,fzL,V.up,upL,Ab,Ac,Ad,slr]) (by first | rfl | simp only [Aa,V.fz,fzL,V.up,upL,Ab,Ac,Ad,slr,List.cons_append,List.nil_append] | simp [Aa,V.fz,fzL,V.up,upL,Ab,Ac,Ad,slr]) h fun h=> ?_
  conv=>whnf
  refine SetKids.lit rfl ?_
  conv=>whnf
  refine Ask.o h fun p10 h=> ?_
  conv=>whnf
  cases h;exact ⟨rfl,rfl⟩
 conv=>whnf
 cases h;exact ⟨rfl,rfl⟩
noncomputable def G9 (n0:Int) (value0:(Int→Int→Int→Option Int)):Option SOp:=
 (Ao (Dy n0 value0) ((0:Int),{ Arity:=(3:Int),Table:=Au Int })).bind fun q11_5=>
 some q11_5
theorem Yr {n0:Int} {value0:(Int→Int→Int→Option Int)} {f_value0:Nat} {c_value0:List V} (h_value0 : ∀w_0 w_1 w_2 v,value0 w_0 w_1 w_2=some v→Ret Tryz.prog f_value0 ([Ae w_0,Ae w_1,Ae w_2]++fzL c_value0) (Ae v)) {v:SOp} (h:G9 n0 value0=some v):Ret Tryz.prog Mf [Ae n0,V.fclo f_value0 c_value0] ((Co true) v):=by
 refine A5 Aj0 (Nat.le_of_ble_eq_true rfl) ?_
 unfold G9 at h
 conv=>whnf
 refine SetKids.lit rfl ?_
 conv=>whnf
 refine LoopQ.o [6,5,4,0,1] (Lv n0 f_value0 c_value0) (Sj n0 f_value0 c_value0) h (fun s o h=>Ab6 h_value0 s o h) (by first | rfl | simp [restrict,look,Aa,V.fz,fzL,V.up,upL,Ab,Ac,Ad,slr]) (fun _=>rfl) ?_
 rintro q11_5 h
 try dsimp only at h
 conv=>whnf
 refine Cells.lit rfl rfl ?_
 conv=>whnf
 refine SetKids.lit rfl ?_
 conv=>whnf
 cases h;exact (by first | rfl | simp only [Ah,Aa,V.fz,fzL,V.up,upL,Ab,Ac,Ad,slr] | simp [Ah,Aa,V.fz,fzL,V.up,upL,Ab,Ac,Ad,slr])
noncomputable def Jt (x0:Int) (y0:Int) (z0:Int):Option Int:=
 some (Ay9 (Ay9 x0 y0) z0)
theorem Zd {x0:Int} {y0:Int} {z0:Int} {v:Int} (h:Jt x0 y0 z0=some v):Ret Tryz.prog Gx [Ae x0,Ae y0,Ae z0] (Ae v):=by
 refine A5 Zi (Nat.le_of_ble_eq_true rfl) ?_
 unfold Jt at h
 conv=>whnf
 cases h;exact (by first | rfl | simp only [Ah,Aa,V.fz,fzL,V.up,upL,Ab,Ac,Ad,slr] | simp [Ah,Aa,V.fz,fzL,V.up,upL,Ab,Ac,Ad,slr])
noncomputable def Gw (x0:Int) (y0:Int) (z0:Int):Option Int:=
 ask (InI (x0+y0)) <|
 ask (InI (x0+y0+z0)) <|
 ask ((2:Int)≠(0:Int)∧InI ((x0+y0+z0).tdiv (2:Int))) <|
 some ((x0+y0+z0).tdiv (2:Int))
theorem Z0 {x0:Int} {y0:Int} {z0:Int} {v:Int} (h:Gw x0 y0 z0=some v):Ret Tryz.prog Gt [Ae x0,Ae y0,Ae z0] (Ae v):=by
 refine A5 Ze (Nat.le_of_ble_eq_true rfl) ?_
 unfold Gw at h
 conv=>whnf
 refine Ask.o h fun p1 h=> ?_
 conv=>whnf
 refine Ask.o h fun p2 h=> ?_
 conv=>whnf
 refine Ask.o h fun p3 h=> ?_
 conv=>whnf
 cases h;exact (by first | rfl | simp only [Ah,Aa,V.fz,fzL,V.up,upL,Ab,Ac,Ad,slr] | simp [Ah,Aa,V.fz,fzL,V.up,upL,Ab,Ac,Ad,slr])
noncomputable def Fb (x0:Int) (a0:Int) (b0:Int):Option Bool:=
 if x0≥a0 then
 some (decide (x0≤b0))
 else
 some false
theorem Lc {x0:Int} {a0:Int} {b0:Int} {v:Bool} (h:Fb x0 a0 b0=some v):Ret Tryz.prog Hd [Ae x0,Ae a0,Ae b0] (V.bool v):=by
 refine A5 Aq5 (Nat.le_of_ble_eq_true rfl) ?_
 unfold Fb at h
 conv=>whnf
 refine Br.od h (fun p1 h=> ?_) (fun p1 h=> ?_)
 ·conv=>whnf
  refine Br.yes ?_
  conv=>whnf
  refine Br.yes ?_
  conv=>whnf
  refine Br.yes ?_
  conv=>whnf
  cases h;exact (by first | rfl | simp only [Ah,Aa,V.fz,fzL,V.up,upL,Ab,Ac,Ad,slr] | simp [Ah,Aa,V.fz,fzL,V.up,upL,Ab,Ac,Ad,slr])
 conv=>whnf
 refine Br.no ?_
 conv=>whnf
 refine Br.no ?_
 conv=>whnf
 refine Br.no ?_
 conv=>whnf
 cases h;exact (by first | rfl | simp only [Ah,Aa,V.fz,fzL,V.up,upL,Ab,Ac,Ad,slr] | simp [Ah,Aa,V.fz,fzL,V.up,upL,Ab,Ac,Ad,slr])
end Go.Proofs.YtjcekpmojnnmbaaGreat.Ax
