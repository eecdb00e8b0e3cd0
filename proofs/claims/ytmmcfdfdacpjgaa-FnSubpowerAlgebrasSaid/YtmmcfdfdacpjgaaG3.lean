/-
 What the functions compute, as functions on plain data, and that the program does compute it; written by program.
-/
import Derived.Test.YtmmcfdfdacpjgaaCode
import Derived.Test.YtmmcfdfdacpjgaaG1
import Derived.Test.YtmmcfdfdacpjgaaG2
namespace Go.Proofs.Ytmmcfdfdacpjgaa.Ax
open Go
set_option maxRecDepth 100000
set_option maxHeartbeats 4000000
noncomputable def Cg (arity0:Int) (a0:SAlgebra) (b0:SAlgebra) (f0:List Int):(Int×Int×Int×Int)→Option ((Int×Int×Int×Int) ⊕ Int):=fun (x13,x12,x11,x0)=>
 if x13<arity0 then
 ask (a0.Size≠(0:Int)) <|
 ask ((0:Int)≤x0.tmod a0.Size∧x0.tmod a0.Size<(↑f0.length:Int)) <|
 ask (InI (nth f0 (x0.tmod a0.Size).toNat*x12)) <|
 ask (InI (x11+nth f0 (x0.tmod a0.Size).toNat*x12)) <|
 ask (a0.Size≠(0:Int)∧InI (x0.tdiv a0.Size)) <|
 ask (InI (x12*b0.Size)) <|
 ask (InI (x13+(1:Int))) <|
 some (.inl (x13+(1:Int),x12*b0.Size,x11+nth f0 (x0.tmod a0.Size).toNat*x12,x0.tdiv a0.Size))
 else
 some (.inr x11)
def J0 (arity0:Int) (a0:SAlgebra) (b0:SAlgebra) (f0:List Int):(Int×Int×Int×Int)→St:=fun s=>[(13,A.val (Ae s.1)),(12,A.val (Ae s.2.1)),(11,A.val (Ae s.2.2.1)),(8,A.val (rP true (Af false) b0)),(7,A.val (rP true (Af false) a0)),(0,A.val (Ae s.2.2.2)),(1,A.val (Ae arity0)),(4,A.val (slr false 1 Ae f0))]
def Pt (_arity0:Int) (_a0:SAlgebra) (_b0:SAlgebra) (_f0:List Int):Int→Tgt
 | s=>((Ex.exit 0),[11],[(11,A.val (Ae s))])
theorem Y5 {arity0} {a0} {b0} {f0} (s) o (h:Cg arity0 a0 b0 f0 s=some o):vc Try.prog Px (Co [13,12,11,8,7,0,1,4] (J0 arity0 a0 b0 f0) (Pt arity0 a0 b0 f0) o) (J0 arity0 a0 b0 f0 s):=by
 obtain ⟨x13,x12,x11,x0⟩:=s
 unfold Cg at h
 try dsimp only at h
 conv=>whnf
 refine Br.od h (fun p1 h=> ?_) (fun p1 h=> ?_)
 ·conv=>whnf
  refine Cells.lit rfl rfl ?_
  conv=>whnf
  refine Ask.o h fun p2 h=> ?_
  conv=>whnf
  refine Len.map ?_
  conv=>whnf
  refine Ask.o h fun p3 h=> ?_
  conv=>whnf
  refine Elem.o (by first | omega | (simp [At] at * <;> omega)) ?_
  conv=>whnf
  refine Ask.o h fun p4 h=> ?_
  conv=>whnf
  refine Ask.o h fun p5 h=> ?_
  conv=>whnf
  refine Cells.lit rfl rfl ?_
  conv=>whnf
  refine Ask.o h fun p6 h=> ?_
  conv=>whnf
  refine Cells.lit rfl rfl ?_
  conv=>whnf
  refine Ask.o h fun p7 h=> ?_
  conv=>whnf
  refine Ask.o h fun p8 h=> ?_
  conv=>whnf
  cases h;exact ⟨rfl,rfl⟩
 conv=>whnf
 cases h;exact ⟨rfl,rfl⟩
noncomputable def G6 (i0:Int) (arity0:Int) (a0:SAlgebra) (b0:SAlgebra) (f0:(List Int)):Option Int:=
 (Am (Cg arity0 a0 b0 f0) ((0:Int),(1:Int),(0:Int),i0)).bind fun q9_11=>
 some q9_11
theorem Adc {i0} {arity0} {a0} {b0} {f0} {v} (h:G6 i0 arity0 a0 b0 f0=some v):Ret Try.prog Mk [Ae i0,Ae arity0,(Af false) a0,(Af false) b0,(slr false 1 Ae) f0] (Ae v):=by
 refine Ba Ac5 (Nat.le_of_ble_eq_true rfl) ?_
 unfold G6 at h
 conv=>whnf
 refine LoopQ.o [13,12,11,8,7,0,1,4] (J0 arity0 a0 b0 f0) (Pt arity0 a0 b0 f0) h (fun s o h=>Y5 s o h) (by rfl) (fun _=>rfl) ?_
 rintro q9_11 h
 try dsimp only at h
 conv=>whnf
 cases h;exact (by rfl)
noncomputable def Gf (s0:ByteArray):(Int×SOp)→Option ((Int×SOp) ⊕ SOp):=fun (x4,x3)=>
 if x4<(↑s0.size:Int) then
 ask ((0:Int)≤x4∧x4<(↑s0.size:Int)) <|
 ask ((x3.Table).length+([IntKind.i64.wrap (IntKind.u8.wrap (Ag5 s0 x4-(48:Int)))]).length≤LIM) <|
 ask (InI (x4+(1:Int))) <|
 some (.inl (x4+(1:Int),{ Arity:=x3.Arity,Table:=x3.Table++[IntKind.i64.wrap (IntKind.u8.wrap (Ag5 s0 x4-(48:Int)))] }))
 else
 some (.inr x3)
def Lk (s0:ByteArray):(Int×SOp)→St:=fun s=>[(4,A.val (Ae s.1)),(3,A.val (rP true (Aw true) s.2)),(2,A.val ((rP true (Aw true)) ({ Arity:=(0:Int),Table:=Ar Int }))),(0,A.val (V.str s0))]
def Sm (_s0:ByteArray):SOp→Tgt
 | s=>((Ex.exit 0),[3,2],[(3,A.val (rP true (Aw true) s)),(2,A.val ((rP true (Aw true)) ({ Arity:=(0:Int),Table:=Ar Int })))])
theorem Acl {s0} (s) o (h:Gf s0 s=some o):vc Try.prog Rt (Co [4,3,2,0] (Lk s0) (Sm s0) o) (Lk s0 s):=by
 obtain ⟨x4,x3⟩:=s
 unfold Gf at h
 try dsimp only at h
 conv=>whnf
 refine Br.od h (fun p1 h=> ?_) (fun p1 h=> ?_)
 ·conv=>whnf
  refine Cells.lit rfl rfl ?_
  conv=>whnf
  refine Ask.o h fun p2 h=> ?_
  conv=>whnf
  refine BslQ.o Ae ([IntKind.i64.wrap (IntKind.u8.wrap (Ag5 s0 x4-(48:Int)))]) (by exact fun _=>⟨rfl,rfl⟩) (by rfl) ?_
  conv=>whnf
  refine NoOwn.o (fun _=>rfl) ?_
  conv=>whnf
  refine Kid.lit rfl rfl ?_
  conv=>whnf
  refine Kid.lit rfl rfl ?_
  conv=>whnf
  refine SetKids.lit rfl ?_
  conv=>whnf
  refine AppQ.o (m:=1) Ae (by exact fun _=>⟨rfl,rfl⟩) (x3.Table) ([IntKind.i64.wrap (IntKind.u8.wrap (Ag5 s0 x4-(48:Int)))]) (by rfl) (by rfl) h fun h=> ?_
  conv=>whnf
  refine SetKids.lit rfl ?_
  conv=>whnf
  refine Ask.o h fun p3 h=> ?_
  conv=>whnf
  cases h;exact ⟨rfl,rfl⟩
 conv=>whnf
 cases h;exact ⟨rfl,rfl⟩
noncomputable def Bd (s0:ByteArray):Option SOp:=
 (Am (Gf s0) ((0:Int),{ Arity:=(2:Int),Table:=Ar Int })).bind fun q4_3=>
 some q4_3
theorem Bv {s0} {v} (h:Bd s0=some v):Ret Try.prog Bm [V.str s0] (Aw true v):=by
 refine Ba Aha (Nat.le_of_ble_eq_true rfl) ?_
 unfold Bd at h
 conv=>whnf
 refine SetKids.lit rfl ?_
 conv=>whnf
 refine LoopQ.o [4,3,2,0] (Lk s0) (Sm s0) h (fun s o h=>Acl s o h) (by rfl) (fun _=>rfl) ?_
 rintro q4_3 h
 try dsimp only at h
 conv=>whnf
 refine Cells.lit rfl rfl ?_
 conv=>whnf
 refine SetKids.lit rfl ?_
 conv=>whnf
 cases h;exact (by rfl)
noncomputable def Gj (n0:Int):(Int×SOp)→Option ((Int×SOp) ⊕ SOp):=fun (x4,x3)=>
 ask (InI (n0*n0)) <|
 ask (InI (n0*n0*n0)) <|
 if x4<n0*n0*n0 then
 ask (InI (n0*n0)) <|
 ask (n0*n0≠(0:Int)∧InI (x4.tdiv (n0*n0))) <|
 ask (InI (x4.tdiv (n0*n0)+n0)) <|
 ask (n0≠(0:Int)∧InI (x4.tdiv n0)) <|
 ask (n0≠(0:Int)) <|
 ask (InI (x4.tdiv (n0*n0)+n0-(x4.tdiv n0).tmod n0)) <|
 ask (n0≠(0:Int)) <|
 ask (InI (x4.tdiv (n0*n0)+n0-(x4.tdiv n0).tmod n0+x4.tmod n0)) <|
 ask (n0≠(0:Int)) <|
 ask ((x3.Table).length+([(x4.tdiv (n0*n0)+n0-(x4.tdiv n0).tmod n0+x4.tmod n0).tmod n0]).length≤LIM) <|
 ask (InI (x4+(1:Int))) <|
 some (.inl (x4+(1:Int),{ Arity:=x3.Arity,Table:=x3.Table++[(x4.tdiv (n0*n0)+n0-(x4.tdiv n0).tmod n0+x4.tmod n0).tmod n0] }))
 else
 some (.inr x3)
def Lp (n0:Int):(Int×SOp)→St:=fun s=>[(4,A.val (Ae s.1)),(3,A.val (rP true (Aw true) s.2)),(2,A.val ((rP true (Aw true)) ({ Arity:=(0:Int),Table:=Ar Int }))),(0,A.val (Ae n0))]
def Ro (_n0:Int):SOp→Tgt
 | s=>((Ex.exit 0),[3,2],[(3,A.val (rP true (Aw true) s)),(2,A.val ((rP true (Aw true)) ({ Arity:=(0:Int),Table:=Ar Int })))])
theorem Acf {n0} (s) o (h:Gj n0 s=some o):vc Try.prog Sp (Co [4,3,2,0] (Lp n0) (Ro n0) o) (Lp n0 s):=by
 obtain ⟨x4,x3⟩:=s
 unfold Gj at h
 try dsimp only at h
 conv=>whnf
 refine Ask.o h fun p1 h=> ?_
 conv=>whnf
 refine Ask.o h fun p2 h=> ?_
 conv=>whnf
 refine Br.od h (fun p3 h=> ?_) (fun p3 h=> ?_)
 ·conv=>whnf
  refine Cells.lit rfl rfl ?_
  conv=>whnf
  refine Ask.o h fun p4 h=> ?_
  conv=>whnf
  refine Ask.o h fun p5 h=> ?_
  conv=>whnf
  refine Ask.o h fun p6 h=> ?_
  conv=>whnf
  refine Ask.o h fun p7 h=> ?_
  conv=>whnf
  refine Ask.o h fun p8 h=> ?_
  conv=>whnf
  refine Ask.o h fun p9 h=> ?_
  conv=>whnf
  refine Ask.o h fun p10 h=> ?_
  conv=>whnf
  refine Ask.o h fun p11 h=> ?_
  conv=>whnf
  refine Ask.o h fun p12 h=> ?_
  conv=>whnf
  refine BslQ.o Ae ([(x4.tdiv (n0*n0)+n0-(x4.tdiv n0).tmod n0+x4.tmod n0).tmod n0]) (by exact fun _=>⟨rfl,rfl⟩) (by rfl) ?_
  conv=>whnf
  refine NoOwn.o (fun _=>rfl) ?_
  conv=>whnf
  refine Kid.lit rfl rfl ?_
  conv=>whnf
  refine Kid.lit rfl rfl ?_
  conv=>whnf
  refine SetKids.lit rfl ?_
  conv=>whnf
  refine AppQ.o (m:=1) Ae (by exact fun _=>⟨rfl,rfl⟩) (x3.Table) ([(x4.tdiv (n0*n0)+n0-(x4.tdiv n0).tmod n0+x4.tmod n0).tmod n0]) (by rfl) (by rfl) h fun h=> ?_
  conv=>whnf
  refine SetKids.lit rfl ?_
  conv=>whnf
  refine Ask.o h fun p13 h=> ?_
  conv=>whnf
  cases h;exact ⟨rfl,rfl⟩
 conv=>whnf
 cases h;exact ⟨rfl,rfl⟩
noncomputable def G3 (n0:Int):Option SOp:=
 (Am (Gj n0) ((0:Int),{ Arity:=(3:Int),Table:=Ar Int })).bind fun q14_3=>
 some q14_3
theorem Xr {n0} {v} (h:G3 n0=some v):Ret Try.prog La [Ae n0] (Aw true v):=by
 refine Ba Ah4 (Nat.le_of_ble_eq_true rfl) ?_
 unfold G3 at h
 conv=>whnf
 refine SetKids.lit rfl ?_
 conv=>whnf
 refine LoopQ.o [4,3,2,0] (Lp n0) (Ro n0) h (fun s o h=>Acf s o h) (by rfl) (fun _=>rfl) ?_
 rintro q14_3 h
 try dsimp only at h
 conv=>whnf
 refine Cells.lit rfl rfl ?_
 conv=>whnf
 refine SetKids.lit rfl ?_
 conv=>whnf
 cases h;exact (by rfl)
noncomputable def E8 (c0:Sl1Cur):Option (Int×Sl1Cur):=
 ((if c0.at_<(↑c0.code.length:Int) then
 ask ((0:Int)≤c0.at_∧c0.at_<(↑c0.code.length:Int)) <|
 some (IntKind.i64.wrap (nth c0.code c0.at_.toNat))
 else
 some (0:Int):Option Int)).bind fun q3_3=>
 ask (InI (c0.at_+(1:Int))) <|
 if c0.at_+(1:Int)≤(↑c0.code.length:Int) then
 some (q3_3,{ code:=c0.code,at_:=c0.at_+(1:Int),seed:=IntKind.u64.wrap (IntKind.u64.wrap (IntKind.u64.wrap (c0.seed*(6364136223846793005:Int))+IntKind.u64.wrap q3_3)+(550289:Int)) })
 else
 some (IntKind.i64.wrap (IntKind.u64.wrap (↑(BitVec.ofInt IntKind.u64.bits ((IntKind.u64.wrap (IntKind.u64.wrap (IntKind.u64.wrap (c0.seed*(6364136223846793005:Int))+IntKind.u64.wrap q3_3)+(550289:Int))).fdiv ((2:Int)^min (Int.toNat (40:Int)) IntKind.u64.bits)) &&& BitVec.ofInt IntKind.u64.bits (255:Int)).toNat:Int)),{ code:=c0.code,at_:=c0.at_+(1:Int),seed:=IntKind.u64.wrap (IntKind.u64.wrap (IntKind.u64.wrap (c0.seed*(6364136223846793005:Int))+IntKind.u64.wrap q3_3)+(550289:Int)) })
theorem Ti {c0} {v} (h:E8 c0=some v):Se Try.prog Js [(rP true (Aj false)) c0] (Ae v.1) 0 (rP true (Aj false) v.2):=by
 refine Q9 Acr (Nat.le_of_ble_eq_true rfl) ?_
 unfold E8 at h
 conv=>whnf
 refine CutQ.o (fun t:Int=>match t with | s=>(Ex.normal,[3,0,62],[(3,A.val (Ae s)),(0,A.ref 62 []),(62,A.val ((rP true (Aj false)) (c0)))])) h ?_ ?_
 ·intro t h
  conv=>whnf
  refine Cells.lit rfl rfl ?_
  conv=>whnf
  refine Cells.lit rfl rfl ?_
  conv=>whnf
  refine Len.map ?_
  conv=>whnf
  refine Br.od h (fun p1 h=> ?_) (fun p1 h=> ?_)
  ·conv=>whnf
   refine Cells.lit rfl rfl ?_
   conv=>whnf
   refine Cells.lit rfl rfl ?_
   conv=>whnf
   refine Len.map ?_
   conv=>whnf
   refine Ask.o h fun p2 h=> ?_
   conv=>whnf
   refine Elem.o (by first | omega | (simp [At] at * <;> omega)) ?_
   conv=>whnf
   cases h;exact ⟨rfl,rfl⟩
  conv=>whnf
  cases h;exact ⟨rfl,rfl⟩
 rintro q3_3 h
 try dsimp only at h
 conv=>whnf
 refine Cells.lit rfl rfl ?_
 conv=>whnf
 refine Ask.o h fun p4 h=> ?_
 conv=>whnf
 refine SetKids.lit rfl ?_
 conv=>whnf
 refine Cells.lit rfl rfl ?_
 conv=>whnf
 refine SetKids.lit rfl ?_
 conv=>whnf
 refine Cells.lit rfl rfl ?_
 conv=>whnf
 refine Cells.lit rfl rfl ?_
 conv=>whnf
 refine Len.map ?_
 conv=>whnf
 refine Br.od h (fun p5 h=> ?_) (fun p5 h=> ?_)
 ·conv=>whnf
  cases h;exact ⟨(by rfl),(by rfl)⟩
 conv=>whnf
 refine Cells.lit rfl rfl ?_
 conv=>whnf
 cases h;exact ⟨(by rfl),(by rfl)⟩
noncomputable def Kg (l0:(List Int)):Option (List Int):=
 ask ((Ar Int).length+(l0).length≤LIM) <|
 some (Ar Int++l0)
theorem Adv {l0} {v} (h:Kg l0=some v):Ret Try.prog Rk [(slr false 1 Ae) l0] (slr true 1 Ae v):=by
 refine Ba Aqt (Nat.le_of_ble_eq_true rfl) ?_
 unfold Kg at h
 conv=>whnf
 refine BslQ.o Ae (Ar Int) (by exact fun _=>⟨rfl,rfl⟩) (by rfl) ?_
 conv=>whnf
 refine AppQ.o (m:=1) Ae (by exact fun _=>⟨rfl,rfl⟩) (Ar Int) (l0) (by rfl) (by rfl) h fun h=> ?_
 conv=>whnf
 cases h;exact (by rfl)
noncomputable def Fo (l0:List Int) (n0:Int):Int→Option (Int ⊕ (Unit ⊕ Unit)):=fun x5=>
 if x5<(↑l0.length:Int) then
 ask ((0:Int)≤x5∧x5<(↑l0.length:Int)) <|
 if nth l0 x5.toNat=n0 then
 some (.inr (.inl ()))
 else
 ask (InI (x5+(1:Int))) <|
 some (.inl (x5+(1:Int)))
 else
 some (.inr (.inr ()))
def P9 (l0:List Int) (n0:Int):Int→St:=fun s=>[(5,A.val (Ae s)),(0,A.val (slr false 1 Ae l0)),(1,A.val (Ae n0))]
def Xs (_l0:List Int) (_n0:Int):(Unit ⊕ Unit)→Tgt
 | (.inl _s)=>(Ex.ret,[4],[(4,A.val (V.bool true))])
 | (.inr _s)=>((Ex.exit 0),[],[])
theorem Ahu {l0} {n0} (x5) o (h:Fo l0 n0 x5=some o):vc Try.prog Xf (Co [5,0,1] (P9 l0 n0) (Xs l0 n0) o) (P9 l0 n0 x5):=by
 unfold Fo at h
 try dsimp only at h
 conv=>whnf
 refine Len.map ?_
 conv=>whnf
 refine Br.od h (fun p1 h=> ?_) (fun p1 h=> ?_)
 ·conv=>whnf
  refine Len.map ?_
  conv=>whnf
  refine Ask.o h fun p2 h=> ?_
  conv=>whnf
  refine Elem.o (by first | omega | (simp [At] at * <;> omega)) ?_
  conv=>whnf
  refine Br.oe h (fun p3 h=> ?_) (fun p3 h=> ?_)
  ·conv=>whnf
   cases h;exact ⟨rfl,rfl⟩
  conv=>whnf
  refine Ask.o h fun p4 h=> ?_
  conv=>whnf
  cases h;exact ⟨rfl,rfl⟩
 conv=>whnf
 cases h;exact ⟨rfl,rfl⟩
noncomputable def Mg (l0:(List Int)) (n0:Int):Option Bool:=
 (Am (Fo l0 n0) (0:Int)).bind fun t=>match t with
 | (.inl _)=>(some true)
 | (.inr _)=>(some false)
theorem Aqc {l0} {n0} {v} (h:Mg l0 n0=some v):Ret Try.prog Wz [(slr false 1 Ae) l0,Ae n0] (V.bool v):=by
 refine Ba Aos (Nat.le_of_ble_eq_true rfl) ?_
 unfold Mg at h
 conv=>whnf
 refine LoopQ.o [5,0,1] (P9 l0 n0) (Xs l0 n0) h (fun s o h=>Ahu s o h) (by rfl) (by rintro (_ | _)<;>rfl) ?_
 rintro (⟨⟩ | ⟨⟩) h
 ·try dsimp only at h
  conv=>whnf
  cases h;exact (by rfl)
 try dsimp only at h
 conv=>whnf
 cases h;exact (by rfl)
noncomputable def Mu (list0:(List Int)):Option (List Int):=
 ask ((Ar Int).length+(list0).length≤LIM) <|
 some (Ar Int++list0)
theorem Ap3 {list0} {v} (h:Mu list0=some v):Ret Try.prog Wa [(slr false 1 Ae) list0] (slr true 1 Ae v):=by
 refine Ba Ao1 (Nat.le_of_ble_eq_true rfl) ?_
 unfold Mu at h
 conv=>whnf
 refine BslQ.o Ae (Ar Int) (by exact fun _=>⟨rfl,rfl⟩) (by rfl) ?_
 conv=>whnf
 refine AppQ.o (m:=1) Ae (by exact fun _=>⟨rfl,rfl⟩) (Ar Int) (list0) (by rfl) (by rfl) h fun h=> ?_
 conv=>whnf
 cases h;exact (by rfl)
noncomputable def Dm (a0:List Int) (b0:List Int):Int→Option (Int ⊕ (Unit ⊕ Unit)):=fun x14=>
 if x14<(↑a0.length:Int) then
 ask ((0:Int)≤x14∧x14<(↑a0.length:Int)) <|
 ask ((0:Int)≤x14∧x14<(↑b0.length:Int)) <|
 if nth b0 x14.toNat≠nth a0 x14.toNat then
 some (.inr (.inl ()))
 else
 ask (InI (x14+(1:Int))) <|
 some (.inl (x14+(1:Int)))
 else
 some (.inr (.inr ()))
def Li (a0:List Int) (b0:List Int):Int→St:=fun s=>[(14,A.val (Ae s)),(13,A.val (Ae ((↑a0.length:Int)))),(12,A.val (slr false 1 Ae a0)),(1,A.val (slr false 1 Ae b0))]
def Sn (_a0:List Int) (_b0:List Int):(Unit ⊕ Unit)→Tgt
 | (.inl _s)=>(Ex.ret,[4],[(4,A.val (V.bool false))])
 | (.inr _s)=>((Ex.exit 0),[],[])
theorem Abo {a0} {b0} (x14) o (h:Dm a0 b0 x14=some o):vc Try.prog Sk (Co [14,13,12,1] (Li a0 b0) (Sn a0 b0) o) (Li a0 b0 x14):=by
 unfold Dm at h
 try dsimp only at h
 conv=>whnf
 refine Br.od h (fun p2 h=> ?_) (fun p2 h=> ?_)
 ·conv=>whnf
  refine Len.map ?_
  conv=>whnf
  refine Ask.o h fun p3 h=> ?_
  conv=>whnf
  refine Elem.o (by first | omega | (simp [At] at * <;> omega)) ?_
  conv=>whnf
  refine Len.map ?_
  conv=>whnf
  refine Ask.o h fun p4 h=> ?_
  conv=>whnf
  refine Elem.o (by first | omega | (simp [At] at * <;> omega)) ?_
  conv=>whnf
  refine Br.on h (fun p5 h=> ?_) (fun p5 h=> ?_)
  ·conv=>whnf
   cases h;exact ⟨rfl,rfl⟩
  conv=>whnf
  refine Ask.o h fun p6 h=> ?_
  conv=>whnf
  cases h;exact ⟨rfl,rfl⟩
 conv=>whnf
 cases h;exact ⟨rfl,rfl⟩
noncomputable def Iy (a0:(List Int)) (b0:(List Int)):Option Bool:=
 if (↑a0.length:Int)≠(↑b0.length:Int) then
 some false
 else
 (Am (Dm a0 b0) (0:Int)).bind fun t=>match t with
 | (.inl _)=>(some false)
 | (.inr _)=>(some true)
theorem Aif {a0} {b0} {v} (h:Iy a0 b0=some v):Ret Try.prog Qr [(slr false 1 Ae) a0,(slr false 1 Ae) b0] (V.bool v):=by
 refine Ba Ahm (Nat.le_of_ble_eq_true rfl) ?_
 unfold Iy at h
 conv=>whnf
 refine Len.map ?_
 conv=>whnf
 refine Len.map ?_
 conv=>whnf
 refine Br.on h (fun p1 h=> ?_) (fun p1 h=> ?_)
 ·conv=>whnf
  cases h;exact (by rfl)
 conv=>whnf
 refine Len.map ?_
 conv=>whnf
 refine LoopQ.o [14,13,12,1] (Li a0 b0) (Sn a0 b0) h (fun s o h=>Abo s o h) (by rfl) (by rintro (_ | _)<;>rfl) ?_
 rintro (⟨⟩ | ⟨⟩) h
 ·try dsimp only at h
  conv=>whnf
  cases h;exact (by rfl)
 try dsimp only at h
 conv=>whnf
 cases h;exact (by rfl)
noncomputable def Ey (a0:SAlgebra):(Int×(List Int))→Option ((Int×(List Int)) ⊕ (List Int)):=fun (x10,x3)=>
 if x10<(↑a0.Ops.length:Int) then
 ask ((0:Int)≤x10∧x10<(↑a0.Ops.length:Int)) <|
 ask ((x3).length+([(nth a0.Ops x10.toNat).Arity]).length≤LIM) <|
 ask (InI (x10+(1:Int))) <|
 some (.inl (x10+(1:Int),x3++[(nth a0.Ops x10.toNat).Arity]))
 else
 some (.inr x3)
def N7 (a0:SAlgebra):(Int×(List Int))→St:=fun s=>[(10,A.val (Ae s.1)),(9,A.val (Ae ((↑a0.Ops.length:Int)))),(8,A.val (slr false 2 (Aw false) a0.Ops)),(3,A.val (slr true 1 Ae s.2))]
def U4 (_a0:SAlgebra):(List Int)→Tgt
 | s=>((Ex.exit 0),[3],[(3,A.val (slr true 1 Ae s))])
theorem Aff {a0} (s) o (h:Ey a0 s=some o):vc Try.prog Vd (Co [10,9,8,3] (N7 a0) (U4 a0) o) (N7 a0 s):=by
 obtain ⟨x10,x3⟩:=s
 unfold Ey at h
 try dsimp only at h
 conv=>whnf
 refine Br.od h (fun p1 h=> ?_) (fun p1 h=> ?_)
 ·conv=>whnf
  refine Len.map ?_
  conv=>whnf
  refine Ask.o h fun p2 h=> ?_
  conv=>whnf
  refine Elem.o (by first | omega | (simp [At] at * <;> omega)) ?_
  conv=>whnf
  refine SetKids.lit rfl ?_
  conv=>whnf
  refine Cells.lit rfl rfl ?_
  conv=>whnf
  refine BslQ.o Ae ([(nth a0.Ops x10.toNat).Arity]) (by exact fun _=>⟨rfl,rfl⟩) (by rfl) ?_
  conv=>whnf
  refine NoOwn.o (fun _=>rfl) ?_
  conv=>whnf
  refine AppQ.o (m:=1) Ae (by exact fun _=>⟨rfl,rfl⟩) (x3) ([(nth a0.Ops x10.toNat).Arity]) (by rfl) (by rfl) h fun h=> ?_
  conv=>whnf
  refine Ask.o h fun p3 h=> ?_
  conv=>whnf
  cases h;exact ⟨rfl,rfl⟩
 conv=>whnf
 cases h;exact ⟨rfl,rfl⟩
noncomputable def I6 (a0:SAlgebra):Option (List Int):=
 (Am (Ey a0) ((0:Int),Ar Int)).bind fun q4_3=>
 some q4_3
theorem Aay {a0} {v} (h:I6 a0=some v):Ret Try.prog Pa [(Af false) a0] (slr true 1 Ae v):=by
 refine Ba Ama (Nat.le_of_ble_eq_true rfl) ?_
 unfold I6 at h
 conv=>whnf
 refine BslQ.o Ae (Ar Int) (by exact fun _=>⟨rfl,rfl⟩) (by rfl) ?_
 conv=>whnf
 refine Cells.lit rfl rfl ?_
 conv=>whnf
 refine Len.map ?_
 conv=>whnf
 refine LoopQ.o [10,9,8,3] (N7 a0) (U4 a0) h (fun s o h=>Aff s o h) (by rfl) (fun _=>rfl) ?_
 rintro q4_3 h
 try dsimp only at h
 conv=>whnf
 cases h;exact (by rfl)
noncomputable def El (a0:SAlgebra) (b0:SAlgebra):Int→Option (Int ⊕ (Unit ⊕ Unit)):=fun x5=>
 if x5<(↑a0.Ops.length:Int) then
 ask ((0:Int)≤x5∧x5<(↑a0.Ops.length:Int)) <|
 ask ((0:Int)≤x5∧x5<(↑b0.Ops.length:Int)) <|
 if (nth a0.Ops x5.toNat).Arity≠(nth b0.Ops x5.toNat).Arity then
 some (.inr (.inl ()))
 else
 ask ((0:Int)≤x5∧x5<(↑a0.Ops.length:Int)) <|
 ask ((0:Int)≤x5∧x5<(↑b0.Ops.length:Int)) <|
 (Ki ((nth a0.Ops x5.toNat).Table) ((nth b0.Ops x5.toNat).Table)).bind fun r10=>
 if (r10)=true then
 ask (InI (x5+(1:Int))) <|
 some (.inl (x5+(1:Int)))
 else
 some (.inr (.inl ()))
 else
 some (.inr (.inr ()))
def Lq (a0:SAlgebra) (b0:SAlgebra):Int→St:=fun s=>[(5,A.val (Ae s)),(3,A.val (rP true (Af false) b0)),(2,A.val (rP true (Af false) a0))]
def Rz (_a0:SAlgebra) (_b0:SAlgebra):(Unit ⊕ Unit)→Tgt
 | (.inl _s)=>(Ex.ret,[4],[(4,A.val (V.bool false))])
 | (.inr _s)=>((Ex.exit 0),[],[])
theorem Ab8 {a0} {b0} (x5) o (h:El a0 b0 x5=some o):vc Try.prog Ru (Co [5,3,2] (Lq a0 b0) (Rz a0 b0) o) (Lq a0 b0 x5):=by
 unfold El at h
 try dsimp only at h
 conv=>whnf
 refine Cells.lit rfl rfl ?_
 conv=>whnf
 refine Len.map ?_
 conv=>whnf
 refine Br.od h (fun p4 h=> ?_) (fun p4 h=> ?_)
 ·conv=>whnf
  refine Cells.lit rfl rfl ?_
  conv=>whnf
  refine Len.map ?_
  conv=>whnf
  refine Ask.o h fun p5 h=> ?_
  conv=>whnf
  refine Elem.o (by first | omega | (simp [At] at * <;> omega)) ?_
  conv=>whnf
  refine Cells.lit rfl rfl ?_
  conv=>whnf
  refine Len.map ?_
  conv=>whnf
  refine Ask.o h fun p6 h=> ?_
  conv=>whnf
  refine Elem.o (by first | omega | (simp [At] at * <;> omega)) ?_
  conv=>whnf
  refine Br.on h (fun p7 h=> ?_) (fun p7 h=> ?_)
  ·conv=>whnf
   refine Br.yes ?_
   conv=>whnf
   refine Br.yes ?_
   conv=>whnf
   refine Br.yes ?_
   conv=>whnf
   refine Br.yes ?_
   conv=>whnf
   refine Br.yes ?_
   conv=>whnf
   refine Br.yes ?_
   conv=>whnf
   refine Br.yes ?_
   conv=>whnf
   refine Br.yes ?_
   conv=>whnf
   refine Br.yes ?_
   conv=>whnf
   refine Br.yes ?_
   conv=>whnf
   refine Br.yes ?_
   conv=>whnf
   refine Br.yes ?_
   conv=>whnf
   refine Br.yes ?_
   conv=>whnf
   refine Br.yes ?_
   conv=>whnf
   refine Br.yes ?_
   conv=>whnf
   cases h;exact ⟨rfl,rfl⟩
  conv=>whnf
  refine Br.no ?_
  conv=>whnf
  refine Cells.lit rfl rfl ?_
  conv=>whnf
  refine Br.no ?_
  conv=>whnf
  refine Br.no ?_
  conv=>whnf
  refine Len.map ?_
  conv=>whnf
  refine Ask.o h fun p8 h=> ?_
  conv=>whnf
  refine Elem.o (by first | omega | (simp [At] at * <;> omega)) ?_
  conv=>whnf
  refine Br.no ?_
  conv=>whnf
  refine Br.no ?_
  conv=>whnf
  refine Br.no ?_
  conv=>whnf
  refine Br.no ?_
  conv=>whnf
  refine Cells.lit rfl rfl ?_
  conv=>whnf
  refine Br.no ?_
  conv=>whnf
  refine Br.no ?_
  conv=>whnf
  refine Len.map ?_
  conv=>whnf
  refine Ask.o h fun p9 h=> ?_
  conv=>whnf
  refine Elem.o (by first | omega | (simp [At] at * <;> omega)) ?_
  conv=>whnf
  refine Br.no ?_
  conv=>whnf
  refine Br.no ?_
  conv=>whnf
  refine Br.no ?_
  conv=>whnf
  refine CallQ.o V.bool (by rfl) h (fun r h=>Aed h) (fun r10 h=> ?_)
  conv=>whnf
  refine Br.no ?_
  conv=>whnf
  refine Br.no ?_
  conv=>whnf
  refine Br.flip ?_
  conv=>whnf
  refine Br.ob h (fun p11 h=> ?_) (fun p11 h=> ?_)
  ·conv=>whnf
   refine Ask.o h fun p12 h=> ?_
   conv=>whnf
   cases h;exact ⟨rfl,rfl⟩
  conv=>whnf
  cases h;exact ⟨rfl,rfl⟩
 conv=>whnf
 cases h;exact ⟨rfl,rfl⟩
noncomputable def G2 (a0:SAlgebra) (b0:SAlgebra):Option Bool:=
 ((if a0.Size≠b0.Size then
 some (.inl ())
 else
 if (↑a0.Ops.length:Int)≠(↑b0.Ops.length:Int) then
 some (.inl ())
 else
 some (.inr ()):Option (Unit ⊕ Unit))).bind fun t=>match t with
 | (.inl _)=>(some false)
 | (.inr _)=>((Am (El a0 b0) (0:Int)).bind fun t=>match t with
 | (.inl _)=>(some false)
 | (.inr _)=>(some true))
theorem Ahj {a0} {b0} {v} (h:G2 a0 b0=some v):Ret Try.prog Qk [(Af false) a0,(Af false) b0] (V.bool v):=by
 refine Ba Ahk (Nat.le_of_ble_eq_true rfl) ?_
 unfold G2 at h
 conv=>whnf
 refine CutQ.o (fun t:(Unit ⊕ Unit)=>match t with | (.inl s)=>(Ex.ret,[4],[(4,A.val (V.bool (false)))]) | (.inr s)=>(Ex.normal,[3,2],[(3,A.val ((rP true (Af false)) (b0))),(2,A.val ((rP true (Af false)) (a0)))])) h ?_ ?_
 ·intro t h
  conv=>whnf
  refine Cells.lit rfl rfl ?_
  conv=>whnf
  refine Cells.lit rfl rfl ?_
  conv=>whnf
  refine Br.on h (fun p1 h=> ?_) (fun p1 h=> ?_)
  ·conv=>whnf
   refine Br.yes ?_
   conv=>whnf
   refine Br.yes ?_
   conv=>whnf
   refine Br.yes ?_
   conv=>whnf
   refine Br.yes ?_
   conv=>whnf
   refine Br.yes ?_
   conv=>whnf
   refine Br.yes ?_
   conv=>whnf
   refine Br.yes ?_
   conv=>whnf
   refine Br.yes ?_
   conv=>whnf
   cases h;exact ⟨rfl,rfl⟩
  conv=>whnf
  refine Br.no ?_
  conv=>whnf
  refine Cells.lit rfl rfl ?_
  conv=>whnf
  refine Br.no ?_
  conv=>whnf
  refine Len.map ?_
  conv=>whnf
  refine Br.no ?_
  conv=>whnf
  refine Br.no ?_
  conv=>whnf
  refine Cells.lit rfl rfl ?_
  conv=>whnf
  refine Br.no ?_
  conv=>whnf
  refine Len.map ?_
  conv=>whnf
  refine Br.no ?_
  conv=>whnf
  refine Br.no ?_
  conv=>whnf
  refine Br.on h (fun p2 h=> ?_) (fun p2 h=> ?_)
  ·conv=>whnf
   cases h;exact ⟨rfl,rfl⟩
  conv=>whnf
  cases h;exact ⟨rfl,rfl⟩
 rintro (⟨⟩ | ⟨⟩) h
 ·try dsimp only at h
  conv=>whnf
  cases h;exact (by rfl)
 try dsimp only at h
 conv=>whnf
 refine LoopQ.o [5,3,2] (Lq a0 b0) (Rz a0 b0) h (fun s o h=>Ab8 s o h) (by rfl) (by rintro (_ | _)<;>rfl) ?_
 rintro (⟨⟩ | ⟨⟩) h
 ·try dsimp only at h
  conv=>whnf
  cases h;exact (by rfl)
 try dsimp only at h
 conv=>whnf
 cases h;exact (by rfl)
noncomputable def C6 (a0:SAlgebra) (k0:Int) (tuples0:List (List Int)):Int→Option (Int ⊕ (Unit ⊕ Unit)):=fun x11=>
 if x11<(↑tuples0.length:Int) then
 ask ((0:Int)≤x11∧x11<(↑tuples0.length:Int)) <|
 if (↑(nth tuples0 x11.toNat).length:Int)≠k0 then
 some (.inr (.inl ()))
 else
 (F9 (nth tuples0 x11.toNat) (a0.Size)).bind fun r4=>
 if (r4)=true then
 ask (InI (x11+(1:Int))) <|
 some (.inl (x11+(1:Int)))
 else
 some (.inr (.inl ()))
 else
 some (.inr (.inr ()))
def Kz (a0:SAlgebra) (k0:Int) (tuples0:List (List Int)):Int→St:=fun s=>[(11,A.val (Ae s)),(10,A.val (Ae ((↑tuples0.length:Int)))),(9,A.val (slr false 1 (slr false 1 Ae) tuples0)),(3,A.val (rP true (Af false) a0)),(1,A.val (Ae k0))]
def Qt (_a0:SAlgebra) (_k0:Int) (_tuples0:List (List Int)):(Unit ⊕ Unit)→Tgt
 | (.inl _s)=>(Ex.ret,[6],[(6,A.val (V.bool false))])
 | (.inr _s)=>((Ex.exit 0),[],[])
theorem Aan {a0} {k0} {tuples0} (x11) o (h:C6 a0 k0 tuples0 x11=some o):vc Try.prog Qz (Co [11,10,9,3,1] (Kz a0 k0 tuples0) (Qt a0 k0 tuples0) o) (Kz a0 k0 tuples0 x11):=by
 unfold C6 at h
 try dsimp only at h
 conv=>whnf
 refine Br.od h (fun p1 h=> ?_) (fun p1 h=> ?_)
 ·conv=>whnf
  refine Len.map ?_
  conv=>whnf
  refine Ask.o h fun p2 h=> ?_
  conv=>whnf
  refine Elem.o (by first | omega | (simp [At] at * <;> omega)) ?_
  conv=>whnf
  refine Len.map ?_
  conv=>whnf
  refine Br.on h (fun p3 h=> ?_) (fun p3 h=> ?_)
  ·conv=>whnf
   refine Br.yes ?_
   conv=>whnf
   refine Br.yes ?_
   conv=>whnf
   refine Br.yes ?_
   conv=>whnf
   refine Br.yes ?_
   conv=>whnf
   refine Br.yes ?_
   conv=>whnf
   refine Br.yes ?_
   conv=>whnf
   cases h;exact ⟨rfl,rfl⟩
  conv=>whnf
  refine Br.no ?_
  conv=>whnf
  refine Br.no ?_
  conv=>whnf
  refine Cells.lit rfl rfl ?_
  conv=>whnf
  refine Br.no ?_
  conv=>whnf
  refine CallQ.o V.bool (by rfl) h (fun r h=>Pg h) (fun r4 h=> ?_)
  conv=>whnf
  refine Br.no ?_
  conv=>whnf
  refine Br.no ?_
  conv=>whnf
  refine Br.flip ?_
  conv=>whnf
  refine Br.ob h (fun p5 h=> ?_) (fun p5 h=> ?_)
  ·conv=>whnf
   refine Ask.o h fun p6 h=> ?_
   conv=>whnf
   cases h;exact ⟨rfl,rfl⟩
  conv=>whnf
  cases h;exact ⟨rfl,rfl⟩
 conv=>whnf
 cases h;exact ⟨rfl,rfl⟩
noncomputable def Gc (a0:SAlgebra) (k0:Int) (tuples0:(List (List Int))):Option Bool:=
 (Am (C6 a0 k0 tuples0) (0:Int)).bind fun t=>match t with
 | (.inl _)=>(some false)
 | (.inr _)=>(some true)
theorem Vm {a0} {k0} {tuples0} {v} (h:Gc a0 k0 tuples0=some v):Ret Try.prog Kh [(Af false) a0,Ae k0,(slr false 1 (slr false 1 Ae)) tuples0] (V.bool v):=by
 refine Ba Aew (Nat.le_of_ble_eq_true rfl) ?_
 unfold Gc at h
 conv=>whnf
 refine Len.map ?_
 conv=>whnf
 refine LoopQ.o [11,10,9,3,1] (Kz a0 k0 tuples0) (Qt a0 k0 tuples0) h (fun s o h=>Aan s o h) (by rfl) (by rintro (_ | _)<;>rfl) ?_
 rintro (⟨⟩ | ⟨⟩) h
 ·try dsimp only at h
  conv=>whnf
  cases h;exact (by rfl)
 try dsimp only at h
 conv=>whnf
 cases h;exact (by rfl)
end Go.Proofs.Ytmmcfdfdacpjgaa.Ax
